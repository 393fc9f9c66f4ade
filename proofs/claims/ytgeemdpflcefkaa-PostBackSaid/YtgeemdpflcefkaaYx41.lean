import Derived.Test.YtgeemdpflcefkaaYx0
import Derived.Test.YtgeemdpflcefkaaYx3
import Derived.Test.YtgeemdpflcefkaaYx39
import Derived.Test.YtgeemdpflcefkaaYx40
namespace Go.Proofs.Ytgeemdpflcefkaa.Y
open Go.RowKit Go.Proofs.YtgeemdpflcefkaaW.PrintWords Go.Proofs.YtgeemdpflcefkaaW.PrintLast Go.Proofs.YtgeemdpflcefkaaW.PrintMore
attribute [local go_sem] max2_int min2_int max_two min_two max_three min_three max_four min_four   -- for this text's walks alone
set_option linter.unusedVariables false
set_option linter.unusedSimpArgs false
mutual
def dbm_Has.j0 : Nat → List Int → Bool → Int → List Int → Option (Bool)
 | 0, _, _, _, _ => none
 | k + 1, x1, x19, x497000, x497001 => if x19 = true then (some false) else ((slices_Clone_int_int.f x1).bind fun t499 => ((slices_Insert_int_int.f t499 0 (([0] : List Int))).bind fun t505 => (dbm_Has.l0 k t505 t505 (t505.length : Int) 0 x497000 x497001 x497000 x497001)))
def dbm_Has.l0 : Nat → List Int → List Int → Int → Int → Int → List Int → Int → List Int → Option (Bool)
 | 0, _, _, _, _, _, _, _, _ => none
 | k + 1, x1, x29, x30, x31, x497000, x497001, x499000, x499001 => if x31 < x30 then (if 0 ≤ x31 then (if x31 < (x29.length : Int) then (if (rd x29 x31) > 1099511627776 then (dbm_Has.j2 k x1 x31 (rd x29 x31) x29 x30 x31 true x497000 x497001 x499000 x499001) else (dbm_Has.j2 k x1 x31 (rd x29 x31) x29 x30 x31 (decide ((rd x29 x31) < (-1099511627776))) x497000 x497001 x499000 x499001)) else (none)) else (none)) else (some true)
def dbm_Has.j2 : Nat → List Int → Int → Int → List Int → Int → Int → Bool → Int → List Int → Int → List Int → Option (Bool)
 | 0, _, _, _, _, _, _, _, _, _, _, _ => none
 | k + 1, x1, x6, x7, x29, x30, x31, x41, x497000, x497001, x499000, x499001 => if x41 = true then (some false) else (if 0 ≤ x6 then (if x6 ≤ (x1.length : Int) then ((some (x1.take (x6 : Int).toNat : List Int)).bind fun y509 => (dbm_Has.l1 k x1 x6 x7 x29 x30 x31 y509 (y509.length : Int) 0 x497000 x497001 x499000 x499001)) else (none)) else (none))
def dbm_Has.l1 : Nat → List Int → Int → Int → List Int → Int → Int → List Int → Int → Int → Int → List Int → Int → List Int → Option (Bool)
 | 0, _, _, _, _, _, _, _, _, _, _, _, _, _ => none
 | k + 1, x1, x6, x7, x29, x30, x31, x44, x45, x46, x497000, x497001, x499000, x499001 => if x46 < x45 then (if 0 ≤ x46 then (if x46 < (x44.length : Int) then ((dbm_grid_at.f x499000 x499001 x6 x46).bind fun t514 => (if 0 ≤ t514 then (if t514 < (x497001.length : Int) then (if (wrap64 (x7 - (rd x44 x46))) > (rd x497001 t514) then (some false) else ((dbm_grid_at.f x499000 x499001 x46 x6).bind fun t516 => (if 0 ≤ t516 then (if t516 < (x497001.length : Int) then (if (wrap64 ((rd x44 x46) - x7)) > (rd x497001 t516) then (some false) else (dbm_Has.l1 k x1 x6 x7 x29 x30 x31 x44 x45 (wrap64 (x46 + 1)) x497000 x497001 x499000 x499001)) else (none)) else (none)))) else (none)) else (none))) else (none)) else (none)) else (dbm_Has.l0 k x1 x29 x30 (wrap64 (x31 + 1)) x497000 x497001 x499000 x499001)
end
def dbm_Has.f (k : Nat) (a0_0 : Int) (l0_1 : List Int) (l1 : List Int) : Option (Bool) := (dbm_some.f k a0_0 l0_1 ([] : List Int)).bind fun t497 => (if t497 = true then (dbm_Has.j0 k l1 ((l1.length : Int) != a0_0) a0_0 l0_1) else (dbm_Has.j0 k l1 true a0_0 l0_1))
def dbm_Has.T13 : Bool × List (List Nat × List Nat) := (true, [([], []), ([], []), ([0, 1], [0, 1]), ([], []), ([3], [3]), ([], []), ([], []), ([], []), ([5, 6, 7], [5, 6, 7]), ([4, 8], [4, 8]), ([9], [9]), ([2, 10], [2, 10]), ([11, 8], [11]), ([12], [12]), ([12], [12]), ([13, 14, 12], [12, 13, 14]), ([12], [12]), ([16, 12], [12, 16]), ([12], [12]), ([12], [12]), ([12], [12]), ([18, 19, 20, 12, 12], [12, 18, 19, 20]), ([17, 21, 12], [12, 17, 21]), ([22, 12], [12, 22]), ([15, 23, 12], [12, 15, 23]), ([12, 24], [12, 24])])
def dbm_Has.B13 : List Nat := [0, 0, 3, 0, 8, 0, 0, 0, 224, 504, 1016, 2047, 4095, 8191, 8191, 32767, 8191, 73727, 8191, 8191, 8191, 1843199, 4136959, 8331263, 16777215, 33554431]
theorem dbm_Has.tab13 : rtab .any (opsOf Try.f45 13) = dbm_Has.T13 := by kernel_rfl
theorem dbm_Has.bits13 : waitsOk dbm_Has.T13.2 dbm_Has.B13 = true := by kernel_rfl
set_option maxHeartbeats 8000000 in
set_option maxRecDepth 100000 in
theorem dbm_Has.calls (k : Nat) (a0_0 : Int) (A0_1 : Option Addr) (c0_1 : Nat) (l0_1 : List Int) (A1 : Option Addr) (c1 : Nat) (l1 : List Int) (r : Bool) (w : World) (hr0_1 : Kd.C (Kd.int .i64) w A0_1 l0_1.length l0_1) (hc0_1 : l0_1.length ≤ c0_1) (hr1 : Kd.C (Kd.int .i64) w A1 l1.length l1) (hc1 : l1.length ≤ c1) (h : dbm_Has.f k a0_0 l0_1 l1 = some r) :
  Calls Try.prog 45 #[.agg #[.int .i64 a0_0, .slice A0_1 l0_1.length c0_1], .slice A1 l1.length c1] w fun e w' => e = .returned (.bool r) ∧ Below w.heap.size w w' := by
 have hu24 := Try.underlying24
 have hu94 := Try.underlying94
 have HR0_1 := Aside0.mk hr0_1
 have HC0_1 := Aside0.mk hc0_1
 clear hr0_1 hc0_1
 have HR1 := Aside0.mk hr1
 have HC1 := Aside0.mk hc1
 clear hr1 hc1
 have HB := Aside0.mk (Below.refl w.heap.size w)
 have H : ((dbm_some.f k a0_0 l0_1 ([] : List Int)).bind fun t497 => (if t497 = true then (dbm_Has.j0 k l1 ((l1.length : Int) != a0_0) a0_0 l0_1) else (dbm_Has.j0 k l1 true a0_0 l0_1))) = some r := h
 clear h
 have HC3 := Aside0.mk H
 clear H
 go_enter Try.func45, Try.ntmps45
 go_upto_region 1 with (first | ((with_reducible refine gate_dst (N := 2) rfl ?_); (try (refine gate_guard (by rfl) ?_; dsimp only)); refine bx_ (N := 2) (cs := #[.int .i64 a0_0, .slice A0_1 l0_1.length c0_1]) (t := 24) ?_; intro gb496 hg w4 hbox hb; have n_ := a_ (bs_ HB hb) (a_ (Aside0.mk hbox) (a_ (gs_ HB hg) (gs_ HB hg))); clear HB; obtain ⟨HB, BK496, GW496, GE496⟩ := n_; clear hb hbox hg))
 (try simp only [Act.put, List.setIfInBounds_toArray, List.set_cons_zero, List.set_cons_succ])
 go_cut [19] (fun v19 wc => ∃ (kq : Nat) (x19_2 : Bool), v19 = .bool x19_2 ∧ Aside0 (dbm_Has.j0 kq l1 x19_2 a0_0 l0_1 = some r) ∧ Aside0 (kq ≤ k) ∧ Aside0 (wc.heap[gb496]? = some (.cells #[.int .i64 a0_0, (.slice A0_1 l0_1.length c0_1)] 24 (0, 0))) ∧ Aside0 (Below w.heap.size w wc))
 case first =>
  have H := HC3.out
  clear HC3
  replace H := bd_ H
  obtain ⟨t497, A5, H⟩ := H
  (try dsimp only at H)
  by_cases c6 : t497 = true
  · subst c6
    replace H := ps1_ H
    have H' := Aside0.mk H
    clear H
    obtain ⟨hcz7_0, hcz7_1, hfz7_0, hfz7_1⟩ := cz2_ BK496
    go_wp2_with (first | ((with_reducible refine gate_callee (f := 83) rfl ?_); refine goesL_ (some 11) rfl rfl Try.func83 (by kernel_rfl) rfl #[.agg #[.int .i64 a0_0, .slice A0_1 l0_1.length c0_1], .slice none 0 0] rfl MP_ ?_; (refine (dbm_some.calls k a0_0 _ _ l0_1 _ _ ([] : List Int) true _ ?side1 ?side2 ?side3 ?side4 A5.out).mono ?_); (case side1 => exact sd_ (Kd.C_below HR0_1.out HB.out)); (case side2 => exact HC0_1.out); (case side3 => exact Kd.C_nil _ _); (case side4 => exact Nat.le_refl _); rintro e w8 ⟨rfl, hb⟩; refine ⟨_, rfl, ?_⟩; have n_ := a_ (bb_ BK496 hb) (bs_ HB hb); clear BK496 HB; obtain ⟨BK496, HB⟩ := n_; (try clear hb); (try clear hb2); (try clear hk); (try clear hi); obtain ⟨hcz9_0, hcz9_1, hfz9_0, hfz9_1⟩ := cz2_ BK496))
    go_meet
    case rel => exact ⟨_, (((l1.length : Int) != a0_0)), (by first | rfl | (simp; done) | (simp [*]; done)), H', ⟨by first | omega | exact Nat.le_refl _⟩, ⟨by (with_reducible repeat (first | refine blk_drewN ?_ _ | refine blk_drew ?_ | refine blk_alloc ?_ _)); exact BK496.out⟩, ⟨HB_⟩⟩
  replace c6 := Bool.eq_false_iff.mpr c6
  subst c6
  replace H := ng1_ H
  have H' := Aside0.mk H
  clear H
  obtain ⟨hcz10_0, hcz10_1, hfz10_0, hfz10_1⟩ := cz2_ BK496
  go_wp2_with (first | ((with_reducible refine gate_callee (f := 83) rfl ?_); refine goesL_ (some 11) rfl rfl Try.func83 (by kernel_rfl) rfl #[.agg #[.int .i64 a0_0, .slice A0_1 l0_1.length c0_1], .slice none 0 0] rfl MP_ ?_; (refine (dbm_some.calls k a0_0 _ _ l0_1 _ _ ([] : List Int) false _ ?side1 ?side2 ?side3 ?side4 A5.out).mono ?_); (case side1 => exact sd_ (Kd.C_below HR0_1.out HB.out)); (case side2 => exact HC0_1.out); (case side3 => exact Kd.C_nil _ _); (case side4 => exact Nat.le_refl _); rintro e w11 ⟨rfl, hb⟩; refine ⟨_, rfl, ?_⟩; have n_ := a_ (bb_ BK496 hb) (bs_ HB hb); clear BK496 HB; obtain ⟨BK496, HB⟩ := n_; (try clear hb); (try clear hb2); (try clear hk); (try clear hi)))
  go_meet
  case rel => exact ⟨_, (true), (by first | rfl | (simp; done) | (simp [*]; done)), H', ⟨by first | omega | exact Nat.le_refl _⟩, ⟨by (with_reducible repeat (first | refine blk_drewN ?_ _ | refine blk_drew ?_ | refine blk_alloc ?_ _)); exact BK496.out⟩, ⟨HB_⟩⟩
 case rest =>
  clear HC3
  try clear c1
  try clear p2
  try clear c4
  try clear c6
  try clear c8
  try clear hcz10_0
  try clear hcz10_1
  try clear hcz7_0
  try clear hcz7_1
  try clear hcz9_0
  try clear hcz9_1
  try clear hfz10_0
  try clear hfz10_1
  try clear hfz7_0
  try clear hfz7_1
  try clear hfz9_0
  try clear hfz9_1
  obtain ⟨kq, x19_2, rfl, HA, HJ2, BK496, HB⟩ := hcut
  cases kq with
  | zero => exact absurd HA.out (by simp [dbm_Has.j0])
  | succ kj2 =>
    have H := HA.out
    clear HA
    simp only [dbm_Has.j0] at H
    by_cases c12 : x19_2 = true
    · subst c12
      replace H := ps1_ H
      obtain rfl := Option.some.inj H
      go_wp2
      go_ret
      exact ⟨by first | rfl | (simp [errW_none, errW_some] <;> rfl) | (simp [*, errW_none, errW_some] <;> rfl), HB_⟩
    replace c12 := Bool.eq_false_iff.mpr c12
    subst c12
    replace H := ng1_ H
    replace H := bd_ H
    obtain ⟨t499, A13, H⟩ := H
    (try dsimp only at H)
    obtain ⟨y502, hy502⟩ : ∃ y_ : List Int, y_ = (([0] : List Int)) := ⟨_, rfl⟩
    replace H : ((slices_Insert_int_int.f t499 0 y502).bind fun t505 => (dbm_Has.l0 kj2 t505 t505 (t505.length : Int) 0 a0_0 l0_1 a0_0 l0_1)) = some r := by first | (rw [hy502]; with_reducible exact H) | (have H2_ := (Option.bind_some _ _).symm.trans H; rw [hy502]; with_reducible exact H2_) | (have H2_ := (Option.bind_some _ _).symm.trans H; with_reducible exact H2_) | with_reducible exact H | (rw [hy502]; exact H) | exact H
    have Ny502 := Aside0.mk hy502
    clear hy502
    replace H := bd_ H
    obtain ⟨t505, A14, H⟩ := H
    (try dsimp only at H)
    have H' := Aside0.mk H
    clear H
    obtain ⟨hcz15_0, hcz15_1, hfz15_0, hfz15_1⟩ := cz2_ BK496
    go_wp2_with (first | ((with_reducible refine gate_dst (N := 5) rfl ?_); (try (refine gate_guard (by rfl) ?_; dsimp only)); refine bx_ (N := 5) (cs := #[.int .i64 0, .slice none 0 0]) (t := 94) ?_; intro gb498 hg w16 hbox hb; have n_ := a_ (bb_ BK496 hb) (a_ (bs_ HB hb) (a_ (Aside0.mk hbox) (a_ (gs_ HB hg) (a_ (gs_ HB hg) (a_ (nl_ BK496 hg) (ng_ BK496 hg)))))); clear BK496 HB; obtain ⟨BK496, HB, BK498, GW498, GE498, NB496_498, NB498_496⟩ := n_; clear hb hbox hg; have hnb17 := NB498_496.out; have hnc17 := NB496_498.out; obtain ⟨hcz18_0, hcz18_1, hfz18_0, hfz18_1⟩ := cz2_ BK498) | ((with_reducible refine gate_callee (f := 85) rfl ?_); refine goesL_ (some 26) rfl rfl Try.func85 (by kernel_rfl) rfl #[.slice A1 l1.length c1] rfl MP_ ?_; (with_reducible refine (slices_Clone_int_int.calls _ _ l1 t499 _ ?side1 ?side2 A13.out).mono ?_); (case side1 => exact Kd.C_below HR1.out HB_); (case side2 => exact HC1.out); rintro e w19 ⟨v500, rfl, ho0, hb⟩; refine ⟨_, rfl, ?_⟩; have n_ := a_ (Aside0.mk (Kd.R_lower ho0 (below_size HB_))) (a_ (bc_ #[.int .i64 a0_0, .slice A0_1 l0_1.length c0_1] 24 BK496 hb) (a_ (bc_ #[.int .i64 a0_0, .slice A0_1 l0_1.length c0_1] 94 BK498 hb) (bs_ HB hb))); clear BK496 BK498 HB; obtain ⟨HO501, BK496, BK498, HB⟩ := n_; (try clear hb); (try clear hb2); (try clear hk); (try clear hi); (try clear ho0)) | ((with_reducible refine gate_dst (N := 27) rfl ?_); (try (refine gate_guard (by rfl) ?_; dsimp only)); refine Kd.R_lit (Kd.int .i64) _ 3 ?hg (N := 27) ?hd (xs := ([0] : List Int)) (inner := [.int .i64 0]) (ok := fun _ => True) (okp := fun _ => True) ?hr ?hp (fun _ hk => hk) trivial (Below.refl _ _) (Nat.le_refl _) (by simp) ?_; (case hd => rfl); (case hg => rfl); (case hr => first | (go_simp; done) | (go_simp; rfl)); (case hp => exact (Reps.one (show Kd.M (Kd.int .i64) _ _ _ 0 [.int .i64 0] from rfl) (Reps.none _ _))); intro v503 w20 ho21 hb hg_ hnew_; clear hg_ hnew_; (first | rw [← Ny502.out] at ho21 | (simp only [Int.reduceToNat] at ho21; rw [← Ny502.out] at ho21)); have n_ := a_ (Aside0.mk (Kd.R_elder' (rd_ HO501.out) (Kd.R_base ho21) hb)) (a_ (Aside0.mk (Kd.R_lower (Kd.R_new' ho21 (Kd.R_lt (rd_ HO501.out))) (below_size HB_))) (a_ (bb_ BK496 hb) (a_ (bb_ BK498 hb) (bs_ HB hb)))); clear HO501 BK496 BK498 HB; obtain ⟨HO501, HO504, BK496, BK498, HB⟩ := n_; clear hb ho21; obtain ⟨Ao22, co22, eo22⟩ := Kd.R_slice HO501.out; subst eo22; obtain ⟨Ao23, co23, eo23⟩ := Kd.R_slice HO504.out; subst eo23) | ((with_reducible refine gate_callee (f := 84) rfl ?_); refine goesL_ (some 28) rfl rfl Try.func84 (by kernel_rfl) rfl #[.slice Ao22 t499.length co22, .int .i64 0, .slice Ao23 y502.length co23] rfl MP_ ?_; (with_reducible refine (slices_Insert_int_int.calls (fun k_ => some k_ = (.slice Ao22 t499.length co22 : Value).ownBlock) (.slice Ao22 t499.length co22) t499 0 (fun k_ => some k_ = (.slice Ao23 y502.length co23 : Value).ownBlock) (.slice Ao23 y502.length co23) y502 t505 w _ ?side1 ?side2 ?side3 ?side4 ?side5 A14.out).mono ?_); (case side1 => repeat (first | (with_reducible first | exact HB.out | apply below_alloc | apply pw_below_drewN | apply below_drew1 | refine below_set ?_ GE496.out | refine below_set ?_ GE498.out) | exact HB.out)); (case side2 => exact Kd.R_tight rfl HO501.out); (case side3 => exact fun k_ e_ => (HO501.out.1 k_ e_.symm).2); (case side4 => exact Kd.R_tight rfl HO504.out); (case side5 => exact fun k_ e_ => (HO504.out.1 k_ e_.symm).2); rintro e w24 ⟨v506, rfl, ho0, hb, hkp⟩; refine ⟨_, rfl, ?_⟩; have n_ := a_ (Aside0.mk (blk_kept (bk_ BK496.out) hkp (fun hs_ => Or.elim hs_ (fun e_ => (fun e_ => (Kd.R_ne HO501.out BK496.out (by decide)) e_) e_) (fun e_ => (fun e_ => (Kd.R_ne HO504.out BK496.out (by decide)) e_) e_)))) (a_ (Aside0.mk (blk_kept (bk_ BK498.out) hkp (fun hs_ => Or.elim hs_ (fun e_ => (fun e_ => (Kd.R_ne HO501.out BK498.out (by decide)) e_) e_) (fun e_ => (fun e_ => (Kd.R_ne HO504.out BK498.out (by decide)) e_) e_)))) (a_ (Aside0.mk (Kd.R_mono (ok' := fun k_ => True) ho0 (fun k_ hk_ => trivial))) (Aside0.mk hb))); clear BK496 BK498 HB HO501 HO504; obtain ⟨BK496, BK498, HO507, HB⟩ := n_; (try clear hb); (try clear hkp); (try clear ho0); obtain ⟨Ao25, co25, eo25⟩ := Kd.R_slice HO507.out; subst eo25))
    go_loopg [31] kj2 (fun kq v31 w' => ∃ (x31_2 : Int), v31 = .int .i64 x31_2 ∧ Aside0 (dbm_Has.l0 kq t505 t505 (t505.length : Int) x31_2 a0_0 l0_1 a0_0 l0_1 = some r) ∧ Aside0 (kq ≤ kj2) ∧ Aside0 (Kd.R (Kd.int .i64) 3 w' w.heap.size (fun _ => True) (.slice Ao25 t505.length co25) t505) ∧ Aside0 (Kd.R (Kd.int .i64) 3 w' w.heap.size (fun _ => True) (.slice Ao25 t505.length co25) t505) ∧ Aside0 (w'.heap[gb496]? = some (.cells #[.int .i64 a0_0, (.slice A0_1 l0_1.length c0_1)] 24 (0, 0))) ∧ Aside0 (w'.heap[gb498]? = some (.cells #[.int .i64 a0_0, (.slice A0_1 l0_1.length c0_1)] 94 (0, 0))) ∧ Aside0 (Below w.heap.size w w'))
    case atStart => exact ⟨(0), (by first | rfl | (simp; done) | (simp [*]; done)), H', ⟨Nat.le_refl _⟩, ⟨by (with_reducible repeat (first | apply Kd.R_alloc | apply Kd.R_drewN | apply Kd.R_drew)); exact HO507.out⟩, ⟨by (with_reducible repeat (first | apply Kd.R_alloc | apply Kd.R_drewN | apply Kd.R_drew)); exact HO507.out⟩, ⟨by (with_reducible repeat (first | refine blk_drewN ?_ _ | refine blk_drew ?_ | refine blk_alloc ?_ _)); exact BK496.out⟩, ⟨by (with_reducible repeat (first | refine blk_drewN ?_ _ | refine blk_drew ?_ | refine blk_alloc ?_ _)); exact BK498.out⟩, ⟨HB_⟩⟩
    case round =>
      clear H'
      try clear c1
      try clear p2
      try clear c4
      try clear c6
      try clear c8
      try clear c12
      try clear c17
      try clear hcz10_0
      try clear hcz10_1
      try clear hcz15_0
      try clear hcz15_1
      try clear hcz18_0
      try clear hcz18_1
      try clear hcz7_0
      try clear hcz7_1
      try clear hcz9_0
      try clear hcz9_1
      try clear hfz10_0
      try clear hfz10_1
      try clear hfz15_0
      try clear hfz15_1
      try clear hfz18_0
      try clear hfz18_1
      try clear hfz7_0
      try clear hfz7_1
      try clear hfz9_0
      try clear hfz9_1
      try clear p2
      obtain ⟨x31_2, rfl, HA, HK2, HO_1, HO_29, BK496, BK498, HB⟩ := hrel
      cases gk with
      | zero => exact absurd HA.out (by simp [dbm_Has.l0])
      | succ k2 =>
       have H := HA.out
       clear HA
       simp only [dbm_Has.l0] at H
       by_cases c26 : x31_2 < (t505.length : Int)
       rotate_left
       · rw [if_neg c26] at H
         have c26b0 : decide (x31_2 < (t505.length : Int)) = false := decide_eq_false c26
         clear c26
         obtain rfl := Option.some.inj H
         go_wp2
         go_ret
         exact ⟨by first | rfl | (simp [errW_none, errW_some] <;> rfl) | (simp [*, errW_none, errW_some] <;> rfl), HB_⟩
       rw [if_pos c26] at H
       have c26b0 : decide (x31_2 < (t505.length : Int)) = true := decide_eq_true c26
       clear c26
       replace H := yes_ H
       obtain ⟨c27, H⟩ := H
       have c27b0 : decide (0 ≤ x31_2) = true := decide_eq_true c27
       clear c27
       replace H := yes_ H
       obtain ⟨c28, H⟩ := H
       have c28b0 : decide (x31_2 < (t505.length : Int)) = true := decide_eq_true c28
       clear c28
       have HC29 := Aside0.mk H
       clear H
       have p508 : 0 ≤ (x31_2 : Int) := of_decide_eq_true (by first | (with_reducible assumption) | assumption)
       have q508 : x31_2 < (t505.length : Int) := of_decide_eq_true (by first | (with_reducible assumption) | assumption)
       obtain ⟨ad508, e508, hx508_0⟩ := Kd.at_int (Kd.R_reads' HO_29.out).2.2 x31_2 p508 q508
       cases e508
       replace p508 := eq_true p508
       replace q508 := eq_true q508
       go_upto_region 8 with (fail)
       go_cut [41] (fun v41 wc => ∃ (kq : Nat) (x41_28 : Bool), v41 = .bool x41_28 ∧ Aside0 (dbm_Has.j2 kq t505 x31_2 (rd t505 x31_2) t505 (t505.length : Int) x31_2 x41_28 a0_0 l0_1 a0_0 l0_1 = some r) ∧ Aside0 (kq ≤ k2) ∧ Aside0 (Kd.R (Kd.int .i64) 3 wc w.heap.size (fun _ => True) (.slice (some ad508) t505.length co25) t505) ∧ Aside0 (Kd.R (Kd.int .i64) 3 wc w.heap.size (fun _ => True) (.slice (some ad508) t505.length co25) t505) ∧ Aside0 (wc.heap[gb496]? = some (.cells #[.int .i64 a0_0, (.slice A0_1 l0_1.length c0_1)] 24 (0, 0))) ∧ Aside0 (wc.heap[gb498]? = some (.cells #[.int .i64 a0_0, (.slice A0_1 l0_1.length c0_1)] 94 (0, 0))) ∧ Aside0 (Below w.heap.size w wc))
       case first =>
         have H := HC29.out
         clear HC29
         by_cases c30 : (rd t505 x31_2) > 1099511627776
         rotate_left
         · rw [if_neg c30] at H
           have c30b0 : decide (1099511627776 < (rd t505 x31_2)) = false := decide_eq_false c30
           clear c30
           (first | rw [c30b0] | (simp only [i64_w, i32_w]; rw [c30b0]) | skip)
           have H' := Aside0.mk H
           clear H
           go_wp2
           go_meet
           case rel => exact ⟨_, (decide ((rd t505 x31_2) < (-1099511627776))), (by first | rfl | (simp; done) | (simp [*]; done)), H', ⟨by have := HJ2.out; have := HK2.out; first | omega | exact Nat.le_refl _⟩, ⟨by (with_reducible repeat (first | apply Kd.R_alloc | apply Kd.R_drewN | apply Kd.R_drew)); exact HO_1.out⟩, ⟨by (with_reducible repeat (first | apply Kd.R_alloc | apply Kd.R_drewN | apply Kd.R_drew)); exact HO_29.out⟩, ⟨by (with_reducible repeat (first | refine blk_drewN ?_ _ | refine blk_drew ?_ | refine blk_alloc ?_ _)); exact BK496.out⟩, ⟨by (with_reducible repeat (first | refine blk_drewN ?_ _ | refine blk_drew ?_ | refine blk_alloc ?_ _)); exact BK498.out⟩, ⟨HB_⟩⟩
         rw [if_pos c30] at H
         have c30b0 : decide (1099511627776 < (rd t505 x31_2)) = true := decide_eq_true c30
         clear c30
         (first | rw [c30b0] | (simp only [i64_w, i32_w]; rw [c30b0]) | skip)
         have H' := Aside0.mk H
         clear H
         go_wp2
         go_meet
         case rel => exact ⟨_, (true), (by first | rfl | (simp; done) | (simp [*]; done)), H', ⟨by have := HJ2.out; have := HK2.out; first | omega | exact Nat.le_refl _⟩, ⟨by (with_reducible repeat (first | apply Kd.R_alloc | apply Kd.R_drewN | apply Kd.R_drew)); exact HO_1.out⟩, ⟨by (with_reducible repeat (first | apply Kd.R_alloc | apply Kd.R_drewN | apply Kd.R_drew)); exact HO_29.out⟩, ⟨by (with_reducible repeat (first | refine blk_drewN ?_ _ | refine blk_drew ?_ | refine blk_alloc ?_ _)); exact BK496.out⟩, ⟨by (with_reducible repeat (first | refine blk_drewN ?_ _ | refine blk_drew ?_ | refine blk_alloc ?_ _)); exact BK498.out⟩, ⟨HB_⟩⟩
       case rest =>
         clear HC29
         try clear c1
         try clear c2
         try clear p2
         try clear c3
         try clear c4
         try clear p5
         try clear q5
         try clear hx5
         try clear c6
         try clear c8
         try clear c12
         try clear c17
         try clear c26
         try clear c26b0
         try clear c27
         try clear c27b0
         try clear c28
         try clear c28b0
         try clear c30
         try clear c30b0
         try clear hcz10_0
         try clear hcz10_1
         try clear hcz15_0
         try clear hcz15_1
         try clear hcz18_0
         try clear hcz18_1
         try clear hcz7_0
         try clear hcz7_1
         try clear hcz9_0
         try clear hcz9_1
         try clear hfz10_0
         try clear hfz10_1
         try clear hfz15_0
         try clear hfz15_1
         try clear hfz18_0
         try clear hfz18_1
         try clear hfz7_0
         try clear hfz7_1
         try clear hfz9_0
         try clear hfz9_1
         try clear hx508_0
         try clear p2
         try clear p508
         try clear q508
         obtain ⟨kq, x41_28, rfl, HA, HJ28, HO_1, HO_29, BK496, BK498, HB⟩ := hcut
         cases kq with
         | zero => exact absurd HA.out (by simp [dbm_Has.j2])
         | succ kj28 =>
           have H := HA.out
           clear HA
           simp only [dbm_Has.j2] at H
           by_cases c31 : x41_28 = true
           · subst c31
             replace H := ps1_ H
             obtain rfl := Option.some.inj H
             go_wp2
             go_ret
             exact ⟨by first | rfl | (simp [errW_none, errW_some] <;> rfl) | (simp [*, errW_none, errW_some] <;> rfl), HB_⟩
           replace c31 := Bool.eq_false_iff.mpr c31
           subst c31
           replace H := ng1_ H
           replace H := yes_ H
           obtain ⟨c32, H⟩ := H
           have c32b0 := eq_true c32
           have c32b1 : decide (0 ≤ x31_2) = true := decide_eq_true c32
           clear c32
           replace H := yes_ H
           obtain ⟨c33, H⟩ := H
           have c33b0 := eq_true c33
           have c33b1 : decide (x31_2 ≤ (t505.length : Int)) = true := decide_eq_true c33
           clear c33
           obtain ⟨y509, hy509⟩ : ∃ y_ : List Int, y_ = (t505.take (x31_2 : Int).toNat) := ⟨_, rfl⟩
           replace H : (dbm_Has.l1 kj28 t505 x31_2 (rd t505 x31_2) t505 (t505.length : Int) x31_2 y509 (y509.length : Int) 0 a0_0 l0_1 a0_0 l0_1) = some r := by first | (rw [hy509]; with_reducible exact H) | (have H2_ := (Option.bind_some _ _).symm.trans H; rw [hy509]; with_reducible exact H2_) | (have H2_ := (Option.bind_some _ _).symm.trans H; with_reducible exact H2_) | with_reducible exact H | (rw [hy509]; exact H) | exact H
           have Ny509 := Aside0.mk hy509
           clear hy509
           have H' := Aside0.mk H
           clear H
           have q34 : (x31_2 : Int) ≤ ((t505.length : Int) : Int) := of_decide_eq_true (by first | (with_reducible assumption) | assumption)
           obtain ⟨i034, hi034, _, hsz34, _⟩ := info_parts info3
           have hroom34 : t505.length ≤ co25 := (Kd.R_reads' HO_1.out).2.1
           have hC34 : Kd.C (Kd.int .i64) _ (some ad508) t505.length t505 := (Kd.R_reads' HO_1.out).2.2
           have hcut34 := cut_to (P := Try.prog) 22 3 .i64 Try.underlying22 hi034 (some ad508) t505.length co25 x31_2 (of_decide_eq_true (by first | (with_reducible assumption) | assumption)) q34 hroom34
           have hr34 := Kd.C_take (m := (x31_2 : Int).toNat) hC34 (by omega)
           have hy34 : y509.length = (x31_2 : Int).toNat := (by rw [Ny509.out, List.length_take]; omega)
           rw [← Ny509.out] at hr34
           rw [← hy34] at hcut34
           have HR512 := Aside0.mk hr34
           have HC512 := Aside0.mk (show y509.length ≤ co25 from by omega)
           clear hr34 hC34 hroom34 hi034 hsz34
           have KY34 := Aside0.mk hy34
           clear hy34
           have KL34 := Aside0.mk (show (x31_2 : Int).toNat ≤ t505.length from by omega)
           replace q34 := eq_true q34
           go_wp2
           go_loopg [46] kj28 (fun kq v46 w' => ∃ (x46_4 : Int), v46 = .int .i64 x46_4 ∧ Aside0 (dbm_Has.l1 kq t505 x31_2 (rd t505 x31_2) t505 (t505.length : Int) x31_2 y509 (y509.length : Int) x46_4 a0_0 l0_1 a0_0 l0_1 = some r) ∧ Aside0 (kq ≤ kj28) ∧ Aside0 (Kd.R (Kd.int .i64) 3 w' w.heap.size (fun _ => True) (.slice (some ad508) t505.length co25) t505) ∧ Aside0 (Kd.R (Kd.int .i64) 3 w' w.heap.size (fun _ => True) (.slice (some ad508) t505.length co25) t505) ∧ Aside0 (w'.heap[gb496]? = some (.cells #[.int .i64 a0_0, (.slice A0_1 l0_1.length c0_1)] 24 (0, 0))) ∧ Aside0 (w'.heap[gb498]? = some (.cells #[.int .i64 a0_0, (.slice A0_1 l0_1.length c0_1)] 94 (0, 0))) ∧ Aside0 (Kd.C (Kd.int .i64) w' (some ad508) y509.length y509) ∧ Aside0 (Below w.heap.size w w'))
           case atStart => exact ⟨(0), (by first | rfl | (simp; done) | (simp [*]; done)), H', ⟨Nat.le_refl _⟩, ⟨by (with_reducible repeat (first | apply Kd.R_alloc | apply Kd.R_drewN | apply Kd.R_drew)); exact HO_1.out⟩, ⟨by (with_reducible repeat (first | apply Kd.R_alloc | apply Kd.R_drewN | apply Kd.R_drew)); exact HO_29.out⟩, ⟨by (with_reducible repeat (first | refine blk_drewN ?_ _ | refine blk_drew ?_ | refine blk_alloc ?_ _)); exact BK496.out⟩, ⟨by (with_reducible repeat (first | refine blk_drewN ?_ _ | refine blk_drew ?_ | refine blk_alloc ?_ _)); exact BK498.out⟩, ⟨by repeat (first | (with_reducible exact HR512.out) | (with_reducible refine Kd.C_alloc ?_ _) | (with_reducible refine Kd.C_drewN ?_ _) | (with_reducible refine Kd.C_drew ?_) | exact HR512.out)⟩, ⟨HB_⟩⟩
           case round =>
             clear H'
             try clear c1
             try clear c2
             try clear p2
             try clear c3
             try clear q3
             try clear c4
             try clear p5
             try clear q5
             try clear hx5
             try clear c6
             try clear c8
             try clear c12
             try clear c17
             try clear c26
             try clear c26b0
             try clear c27
             try clear c27b0
             try clear c28
             try clear c28b0
             try clear c30
             try clear c30b0
             try clear c31
             try clear c32
             try clear c32b0
             try clear c32b1
             try clear c33
             try clear c33b0
             try clear c33b1
             try clear q34
             try clear hcz10_0
             try clear hcz10_1
             try clear hcz15_0
             try clear hcz15_1
             try clear hcz18_0
             try clear hcz18_1
             try clear hcz7_0
             try clear hcz7_1
             try clear hcz9_0
             try clear hcz9_1
             try clear hfz10_0
             try clear hfz10_1
             try clear hfz15_0
             try clear hfz15_1
             try clear hfz18_0
             try clear hfz18_1
             try clear hfz7_0
             try clear hfz7_1
             try clear hfz9_0
             try clear hfz9_1
             try clear hx508_0
             try clear p2
             try clear p5
             try clear p508
             try clear q34
             try clear q5
             try clear q508
             obtain ⟨x46_4, rfl, HA, HK4, HO_1, HO_29, BK496, BK498, HR512, HB⟩ := hrel
             cases gk with
             | zero => exact absurd HA.out (by simp [dbm_Has.l1])
             | succ k4 =>
              have H := HA.out
              clear HA
              simp only [dbm_Has.l1] at H
              by_cases c35 : x46_4 < (y509.length : Int)
              rotate_left
              · rw [if_neg c35] at H
                have c35b0 : decide (x46_4 < (y509.length : Int)) = false := decide_eq_false c35
                clear c35
                have H' := Aside0.mk H
                clear H
                go_wp2
                go_roundg k4
                case measure => have := HJ2.out; have := HK2.out; have := HJ28.out; have := HK4.out; omega
                case rel => exact ⟨(wrap64 (x31_2 + 1)), (by first | rfl | (simp; done) | (simp [*]; done)), H', ⟨by have := HJ2.out; have := HK2.out; have := HJ28.out; have := HK4.out; omega⟩, ⟨by (with_reducible repeat (first | apply Kd.R_alloc | apply Kd.R_drewN | apply Kd.R_drew)); exact HO_1.out⟩, ⟨by (with_reducible repeat (first | apply Kd.R_alloc | apply Kd.R_drewN | apply Kd.R_drew)); exact HO_29.out⟩, ⟨by (with_reducible repeat (first | refine blk_drewN ?_ _ | refine blk_drew ?_ | refine blk_alloc ?_ _)); exact BK496.out⟩, ⟨by (with_reducible repeat (first | refine blk_drewN ?_ _ | refine blk_drew ?_ | refine blk_alloc ?_ _)); exact BK498.out⟩, ⟨HB_⟩⟩
              rw [if_pos c35] at H
              have c35b0 : decide (x46_4 < (y509.length : Int)) = true := decide_eq_true c35
              clear c35
              replace H := yes_ H
              obtain ⟨c36, H⟩ := H
              have c36b0 : decide (0 ≤ x46_4) = true := decide_eq_true c36
              clear c36
              replace H := yes_ H
              obtain ⟨c37, H⟩ := H
              have c37b0 : decide (x46_4 < (y509.length : Int)) = true := decide_eq_true c37
              clear c37
              replace H := bd_ H
              obtain ⟨t514, A38, H⟩ := H
              (try dsimp only at H)
              replace H := yes_ H
              obtain ⟨c39, H⟩ := H
              have c39b0 : decide (0 ≤ t514) = true := decide_eq_true c39
              clear c39
              replace H := yes_ H
              obtain ⟨c40, H⟩ := H
              have c40b0 : decide (t514 < (l0_1.length : Int)) = true := decide_eq_true c40
              clear c40
              by_cases c41 : (wrap64 ((rd t505 x31_2) - (rd y509 x46_4))) > (rd l0_1 t514)
              · rw [if_pos c41] at H
                have c41b0 : decide ((rd l0_1 t514) < (wrap64 ((rd t505 x31_2) - (rd y509 x46_4)))) = true := decide_eq_true c41
                have c41b0v : decide ((rd l0_1 t514) < (IntKind.i64.wrap ((rd t505 x31_2) - (rd y509 x46_4)))) = true := by (try simp only [i64_w]); exact c41b0
                clear c41
                obtain rfl := Option.some.inj H
                have p513 : 0 ≤ (x46_4 : Int) := of_decide_eq_true (by first | (with_reducible assumption) | assumption)
                have q513 : x46_4 < (y509.length : Int) := of_decide_eq_true (by first | (with_reducible assumption) | assumption)
                obtain ⟨ad513, e513, hx513_0⟩ := Kd.at_int HR512.out x46_4 p513 q513
                obtain rfl : ad508 = ad513 := (by injection e513)
                first | (replace hx513_0 := (HB.out.cell (World.block_lt_of_cell? w _ hx513_0)).trans hx513_0) | skip
                replace p513 := eq_true p513
                replace q513 := eq_true q513
                try go_wp2
                have n_ := a_ (Aside0.mk (Kd.R_drew HO_1.out)) (a_ (Aside0.mk (Kd.R_drew HO_29.out)) (a_ (Aside0.mk (blk_drew BK496.out)) (a_ (Aside0.mk (blk_drew BK498.out)) (a_ (Aside0.mk (Kd.C_drew HR512.out)) (Aside0.mk (below_drew1 HB.out))))))
                clear HO_1 HO_29 BK496 BK498 HR512 HB
                obtain ⟨HO_1, HO_29, BK496, BK498, HR512, HB⟩ := n_
                have p515 : 0 ≤ (t514 : Int) := of_decide_eq_true (by first | (with_reducible assumption) | assumption)
                have q515 : t514 < (l0_1.length : Int) := of_decide_eq_true (by first | (with_reducible assumption) | assumption)
                obtain ⟨ad515, e515, hx515_0⟩ := Kd.at_int HR0_1.out t514 p515 q515
                have hw515_0 := hx515_0
                cases e515
                first | (replace hx515_0 := (HB.out.cell (World.block_lt_of_cell? w _ hx515_0)).trans hx515_0) | skip
                replace p515 := eq_true p515
                replace q515 := eq_true q515
                refine start_ (n := 26) (S := fun w' => w'.cell? ⟨gb496, 0, none⟩ = some (.int .i64 a0_0) ∧ w'.cell? ⟨gb496, 1, none⟩ = some (.slice (some ad515) l0_1.length c0_1) ∧ w'.cell? ⟨gb498, 0, none⟩ = some (.int .i64 a0_0) ∧ w'.cell? ⟨gb498, 1, none⟩ = some (.slice (some ad515) l0_1.length c0_1) ∧ w'.cell? (ad515.add (t514).toNat) = some (.int .i64 (rd l0_1 t514))) (ds := []) #[false, false, false, false, false, false, false, false, false, false, false, false, false, false, false, false, false, false, false, false, false, false, false, false, false, false] (by kernel_rfl) rfl rfl ⟨(blk_cell BK496.out 0).trans rfl, (blk_cell BK496.out 1).trans rfl, (blk_cell BK498.out 0).trans rfl, (blk_cell BK498.out 1).trans rfl, ((HB.out.cell (World.block_lt_of_cell? w _ hw515_0)).trans hw515_0)⟩ (fun hHeld => ?_); refine with_tabW dbm_Has.tab13 dbm_Has.bits13 (fun HT_ HW_ => ?_)
                generalize wr.drew = w42 at HO_1 HO_29 BK496 BK498 HR512 HB hx515_0 hHeld ⊢
                refine pu_ 0 (some 51) ?_
                refine pu_ 1 (some 52) ?_
                refine pu_ 2 (some 53) ?_
                refine pu_ 3 (some 54) ?_
                refine pu_ 6 (some 57) ?_
                refine pu_ 7 (some 58) ?_
                refine take_ (i := 4) (N := some 55) (v := ?_) (a' := ?_) #[true, true, true, true, true, false, true, true, false, false, false, false, false, false, false, false, false, false, false, false, false, false, false, false, false, false] rfl rfl (take_ofW HT_.out HW_.out (by kernel_rfl)) (fun _ _ _ h => h) (Or.inl ⟨by rfl, ?_⟩) hHeld ?_ ?_
                rotate_left
                · rintro w' ⟨s0, s1, s2, s3, s4⟩
                  go_simp
                  with_reducible rfl
                rotate_left
                · exact AP_
                refine take_ (i := 5) (N := some 56) (v := ?_) (a' := ?_) #[true, true, true, true, true, true, true, true, false, false, false, false, false, false, false, false, false, false, false, false, false, false, false, false, false, false] rfl rfl (take_ofW HT_.out HW_.out (by kernel_rfl)) (fun _ _ _ h => h) (Or.inl ⟨by rfl, ?_⟩) hHeld ?_ ?_
                rotate_left
                · rintro w' ⟨s0, s1, s2, s3, s4⟩
                  go_simp
                  with_reducible rfl
                rotate_left
                · exact AP_
                refine on_ 8 (some 59) (fun K hK => ?_)
                refine goes_ Try.func86 (by kernel_rfl) rfl #[.agg #[.int .i64 a0_0, .slice (some ad515) l0_1.length c0_1], .int .i64 x31_2, .int .i64 x46_4] (by rfl) rfl rfl MP_ ?_
                with_reducible refine (dbm_grid_at.calls a0_0 _ _ l0_1 x31_2 x46_4 t514 _ ?side1 ?side2 A38.out).mono ?_
                (case side1 => exact sd_ (Kd.C_below HR0_1.out HB.out))
                (case side2 => exact HC0_1.out)
                rintro e w43 ⟨rfl, hb⟩
                refine ⟨_, rfl, ?_⟩
                have n_ := a_ (rb_ HO_1 hb) (a_ (rb_ HO_29 hb) (a_ (bb_ BK496 hb) (a_ (bb_ BK498 hb) (a_ (Aside0.mk (Kd.C_below (by repeat (first | (with_reducible exact HR512.out) | (with_reducible refine Kd.C_alloc ?_ _) | (with_reducible refine Kd.C_drewN ?_ _) | (with_reducible refine Kd.C_drew ?_) | exact HR512.out)) hb)) (bs_ HB hb)))))
                clear HO_1 HO_29 BK496 BK498 HR512 HB
                obtain ⟨HO_1, HO_29, BK496, BK498, HR512, HB⟩ := n_
                (try clear hb)
                (try clear hb2)
                (try clear hk)
                (try clear hi)
                refine hK.out _ _ ⟨(blk_cell BK496.out 0).trans rfl, (blk_cell BK496.out 1).trans rfl, (blk_cell BK498.out 0).trans rfl, (blk_cell BK498.out 1).trans rfl, ((HB.out.cell (World.block_lt_of_cell? w _ hw515_0)).trans hw515_0)⟩ (fun hHeld => ?_)
                clear hK K
                refine nm_ ?_
                refine pu_ 9 (some 60) ?_
                refine take_ (i := 10) (N := some 61) (v := ?_) (a' := ?_) #[true, true, true, true, true, true, true, true, true, true, true, false, false, false, false, false, false, false, false, false, false, false, false, false, false, false] rfl rfl (take_ofW HT_.out HW_.out (by kernel_rfl)) (fun _ _ _ h => h) (Or.inl ⟨by rfl, ?_⟩) hHeld ?_ ?_
                rotate_left
                · rintro w' ⟨s0, s1, s2, s3, s4⟩
                  go_simp
                  with_reducible rfl
                rotate_left
                · exact AP_
                refine pu_ 11 (some 62) ?_
                refine pu_ 12 (some 63) ?_
                refine pv_ 13 (some 64) ?_
                refine pv_ 14 (some 65) ?_
                refine pv_ 15 (some 66) ?_
                refine pv_ 16 (some 67) ?_
                refine pv_ 17 (some 68) ?_
                refine pv_ 18 (some 69) ?_
                refine pv_ 19 (some 70) ?_
                refine pv_ 20 (some 71) ?_
                refine pv_ 21 (some 72) ?_
                refine pv_ 22 (some 73) ?_
                refine pv_ 23 (some 74) ?_
                refine pv_ 24 (some 75) ?_
                refine pu_ 25 (some 76) ?_
                refine done_ (done_of HT_.out (by kernel_rfl)) ?_
                try go_wp2
                go_ret
                exact ⟨by first | rfl | (simp [errW_none, errW_some] <;> rfl) | (simp [*, errW_none, errW_some] <;> rfl), HB_⟩
              rw [if_neg c41] at H
              have c41b0 : decide ((rd l0_1 t514) < (wrap64 ((rd t505 x31_2) - (rd y509 x46_4)))) = false := decide_eq_false c41
              have c41b0v : decide ((rd l0_1 t514) < (IntKind.i64.wrap ((rd t505 x31_2) - (rd y509 x46_4)))) = false := by (try simp only [i64_w]); exact c41b0
              clear c41
              replace H := bd_ H
              obtain ⟨t516, A44, H⟩ := H
              (try dsimp only at H)
              replace H := yes_ H
              obtain ⟨c45, H⟩ := H
              have c45b0 : decide (0 ≤ t516) = true := decide_eq_true c45
              clear c45
              replace H := yes_ H
              obtain ⟨c46, H⟩ := H
              have c46b0 : decide (t516 < (l0_1.length : Int)) = true := decide_eq_true c46
              clear c46
              by_cases c47 : (wrap64 ((rd y509 x46_4) - (rd t505 x31_2))) > (rd l0_1 t516)
              · rw [if_pos c47] at H
                have c47b0 : decide ((rd l0_1 t516) < (wrap64 ((rd y509 x46_4) - (rd t505 x31_2)))) = true := decide_eq_true c47
                have c47b0v : decide ((rd l0_1 t516) < (IntKind.i64.wrap ((rd y509 x46_4) - (rd t505 x31_2)))) = true := by (try simp only [i64_w]); exact c47b0
                clear c47
                obtain rfl := Option.some.inj H
                have p513 : 0 ≤ (x46_4 : Int) := of_decide_eq_true (by first | (with_reducible assumption) | assumption)
                have q513 : x46_4 < (y509.length : Int) := of_decide_eq_true (by first | (with_reducible assumption) | assumption)
                obtain ⟨ad513, e513, hx513_0⟩ := Kd.at_int HR512.out x46_4 p513 q513
                obtain rfl : ad508 = ad513 := (by injection e513)
                first | (replace hx513_0 := (HB.out.cell (World.block_lt_of_cell? w _ hx513_0)).trans hx513_0) | skip
                replace p513 := eq_true p513
                replace q513 := eq_true q513
                try go_wp2
                have n_ := a_ (Aside0.mk (Kd.R_drew HO_1.out)) (a_ (Aside0.mk (Kd.R_drew HO_29.out)) (a_ (Aside0.mk (blk_drew BK496.out)) (a_ (Aside0.mk (blk_drew BK498.out)) (a_ (Aside0.mk (Kd.C_drew HR512.out)) (Aside0.mk (below_drew1 HB.out))))))
                clear HO_1 HO_29 BK496 BK498 HR512 HB
                obtain ⟨HO_1, HO_29, BK496, BK498, HR512, HB⟩ := n_
                have p515 : 0 ≤ (t514 : Int) := of_decide_eq_true (by first | (with_reducible assumption) | assumption)
                have q515 : t514 < (l0_1.length : Int) := of_decide_eq_true (by first | (with_reducible assumption) | assumption)
                obtain ⟨ad515, e515, hx515_0⟩ := Kd.at_int HR0_1.out t514 p515 q515
                have hw515_0 := hx515_0
                cases e515
                first | (replace hx515_0 := (HB.out.cell (World.block_lt_of_cell? w _ hx515_0)).trans hx515_0) | skip
                replace p515 := eq_true p515
                replace q515 := eq_true q515
                have p517 : 0 ≤ (t516 : Int) := of_decide_eq_true (by first | (with_reducible assumption) | assumption)
                have q517 : t516 < (l0_1.length : Int) := of_decide_eq_true (by first | (with_reducible assumption) | assumption)
                obtain ⟨ad517, e517, hx517_0⟩ := Kd.at_int HR0_1.out t516 p517 q517
                have hw517_0 := hx517_0
                obtain rfl : ad515 = ad517 := (by injection e517)
                first | (replace hx517_0 := (HB.out.cell (World.block_lt_of_cell? w _ hx517_0)).trans hx517_0) | skip
                replace p517 := eq_true p517
                replace q517 := eq_true q517
                refine start_ (n := 26) (S := fun w' => w'.cell? ⟨gb496, 0, none⟩ = some (.int .i64 a0_0) ∧ w'.cell? ⟨gb496, 1, none⟩ = some (.slice (some ad515) l0_1.length c0_1) ∧ w'.cell? ⟨gb498, 0, none⟩ = some (.int .i64 a0_0) ∧ w'.cell? ⟨gb498, 1, none⟩ = some (.slice (some ad515) l0_1.length c0_1) ∧ w'.cell? (ad515.add (t514).toNat) = some (.int .i64 (rd l0_1 t514)) ∧ w'.cell? (ad515.add (t516).toNat) = some (.int .i64 (rd l0_1 t516))) (ds := []) #[false, false, false, false, false, false, false, false, false, false, false, false, false, false, false, false, false, false, false, false, false, false, false, false, false, false] (by kernel_rfl) rfl rfl ⟨(blk_cell BK496.out 0).trans rfl, (blk_cell BK496.out 1).trans rfl, (blk_cell BK498.out 0).trans rfl, (blk_cell BK498.out 1).trans rfl, ((HB.out.cell (World.block_lt_of_cell? w _ hw515_0)).trans hw515_0), ((HB.out.cell (World.block_lt_of_cell? w _ hw517_0)).trans hw517_0)⟩ (fun hHeld => ?_); refine with_tabW dbm_Has.tab13 dbm_Has.bits13 (fun HT_ HW_ => ?_)
                generalize wr.drew = w48 at HO_1 HO_29 BK496 BK498 HR512 HB hx515_0 hx517_0 hHeld ⊢
                refine pu_ 0 (some 51) ?_
                refine pu_ 1 (some 52) ?_
                refine pu_ 2 (some 53) ?_
                refine pu_ 3 (some 54) ?_
                refine pu_ 6 (some 57) ?_
                refine pu_ 7 (some 58) ?_
                refine take_ (i := 4) (N := some 55) (v := ?_) (a' := ?_) #[true, true, true, true, true, false, true, true, false, false, false, false, false, false, false, false, false, false, false, false, false, false, false, false, false, false] rfl rfl (take_ofW HT_.out HW_.out (by kernel_rfl)) (fun _ _ _ h => h) (Or.inl ⟨by rfl, ?_⟩) hHeld ?_ ?_
                rotate_left
                · rintro w' ⟨s0, s1, s2, s3, s4, s5⟩
                  go_simp
                  with_reducible rfl
                rotate_left
                · exact AP_
                refine take_ (i := 5) (N := some 56) (v := ?_) (a' := ?_) #[true, true, true, true, true, true, true, true, false, false, false, false, false, false, false, false, false, false, false, false, false, false, false, false, false, false] rfl rfl (take_ofW HT_.out HW_.out (by kernel_rfl)) (fun _ _ _ h => h) (Or.inl ⟨by rfl, ?_⟩) hHeld ?_ ?_
                rotate_left
                · rintro w' ⟨s0, s1, s2, s3, s4, s5⟩
                  go_simp
                  with_reducible rfl
                rotate_left
                · exact AP_
                refine on_ 8 (some 59) (fun K hK => ?_)
                refine goes_ Try.func86 (by kernel_rfl) rfl #[.agg #[.int .i64 a0_0, .slice (some ad515) l0_1.length c0_1], .int .i64 x31_2, .int .i64 x46_4] (by rfl) rfl rfl MP_ ?_
                with_reducible refine (dbm_grid_at.calls a0_0 _ _ l0_1 x31_2 x46_4 t514 _ ?side1 ?side2 A38.out).mono ?_
                (case side1 => exact sd_ (Kd.C_below HR0_1.out HB.out))
                (case side2 => exact HC0_1.out)
                rintro e w49 ⟨rfl, hb⟩
                refine ⟨_, rfl, ?_⟩
                have n_ := a_ (rb_ HO_1 hb) (a_ (rb_ HO_29 hb) (a_ (bb_ BK496 hb) (a_ (bb_ BK498 hb) (a_ (Aside0.mk (Kd.C_below (by repeat (first | (with_reducible exact HR512.out) | (with_reducible refine Kd.C_alloc ?_ _) | (with_reducible refine Kd.C_drewN ?_ _) | (with_reducible refine Kd.C_drew ?_) | exact HR512.out)) hb)) (bs_ HB hb)))))
                clear HO_1 HO_29 BK496 BK498 HR512 HB
                obtain ⟨HO_1, HO_29, BK496, BK498, HR512, HB⟩ := n_
                (try clear hb)
                (try clear hb2)
                (try clear hk)
                (try clear hi)
                refine hK.out _ _ ⟨(blk_cell BK496.out 0).trans rfl, (blk_cell BK496.out 1).trans rfl, (blk_cell BK498.out 0).trans rfl, (blk_cell BK498.out 1).trans rfl, ((HB.out.cell (World.block_lt_of_cell? w _ hw515_0)).trans hw515_0), ((HB.out.cell (World.block_lt_of_cell? w _ hw517_0)).trans hw517_0)⟩ (fun hHeld => ?_)
                clear hK K
                refine nm_ ?_
                refine pu_ 9 (some 60) ?_
                refine take_ (i := 10) (N := some 61) (v := ?_) (a' := ?_) #[true, true, true, true, true, true, true, true, true, true, true, false, false, false, false, false, false, false, false, false, false, false, false, false, false, false] rfl rfl (take_ofW HT_.out HW_.out (by kernel_rfl)) (fun _ _ _ h => h) (Or.inl ⟨by rfl, ?_⟩) hHeld ?_ ?_
                rotate_left
                · rintro w' ⟨s0, s1, s2, s3, s4, s5⟩
                  go_simp
                  with_reducible rfl
                rotate_left
                · exact AP_
                refine pu_ 11 (some 62) ?_
                refine pu_ 12 (some 63) ?_
                refine pu_ 13 (some 64) ?_
                refine pu_ 14 (some 65) ?_
                refine pu_ 15 (some 66) ?_
                refine pu_ 16 (some 67) ?_
                refine pu_ 19 (some 70) ?_
                refine pu_ 20 (some 71) ?_
                refine take_ (i := 17) (N := some 68) (v := ?_) (a' := ?_) #[true, true, true, true, true, true, true, true, true, true, true, true, true, true, true, true, true, true, false, true, true, false, false, false, false, false] rfl rfl (take_ofW HT_.out HW_.out (by kernel_rfl)) (fun _ _ _ h => h) (Or.inl ⟨by rfl, ?_⟩) hHeld ?_ ?_
                rotate_left
                · rintro w' ⟨s0, s1, s2, s3, s4, s5⟩
                  go_simp
                  with_reducible rfl
                rotate_left
                · exact AP_
                refine take_ (i := 18) (N := some 69) (v := ?_) (a' := ?_) #[true, true, true, true, true, true, true, true, true, true, true, true, true, true, true, true, true, true, true, true, true, false, false, false, false, false] rfl rfl (take_ofW HT_.out HW_.out (by kernel_rfl)) (fun _ _ _ h => h) (Or.inl ⟨by rfl, ?_⟩) hHeld ?_ ?_
                rotate_left
                · rintro w' ⟨s0, s1, s2, s3, s4, s5⟩
                  go_simp
                  with_reducible rfl
                rotate_left
                · exact AP_
                refine on_ 21 (some 72) (fun K hK => ?_)
                refine goes_ Try.func86 (by kernel_rfl) rfl #[.agg #[.int .i64 a0_0, .slice (some ad515) l0_1.length c0_1], .int .i64 x46_4, .int .i64 x31_2] (by rfl) rfl rfl MP_ ?_
                with_reducible refine (dbm_grid_at.calls a0_0 _ _ l0_1 x46_4 x31_2 t516 _ ?side1 ?side2 A44.out).mono ?_
                (case side1 => exact sd_ (Kd.C_below HR0_1.out HB.out))
                (case side2 => exact HC0_1.out)
                rintro e w50 ⟨rfl, hb⟩
                refine ⟨_, rfl, ?_⟩
                have n_ := a_ (rb_ HO_1 hb) (a_ (rb_ HO_29 hb) (a_ (bb_ BK496 hb) (a_ (bb_ BK498 hb) (a_ (Aside0.mk (Kd.C_below (by repeat (first | (with_reducible exact HR512.out) | (with_reducible refine Kd.C_alloc ?_ _) | (with_reducible refine Kd.C_drewN ?_ _) | (with_reducible refine Kd.C_drew ?_) | exact HR512.out)) hb)) (bs_ HB hb)))))
                clear HO_1 HO_29 BK496 BK498 HR512 HB
                obtain ⟨HO_1, HO_29, BK496, BK498, HR512, HB⟩ := n_
                (try clear hb)
                (try clear hb2)
                (try clear hk)
                (try clear hi)
                refine hK.out _ _ ⟨(blk_cell BK496.out 0).trans rfl, (blk_cell BK496.out 1).trans rfl, (blk_cell BK498.out 0).trans rfl, (blk_cell BK498.out 1).trans rfl, ((HB.out.cell (World.block_lt_of_cell? w _ hw515_0)).trans hw515_0), ((HB.out.cell (World.block_lt_of_cell? w _ hw517_0)).trans hw517_0)⟩ (fun hHeld => ?_)
                clear hK K
                refine nm_ ?_
                refine pu_ 22 (some 73) ?_
                refine take_ (i := 23) (N := some 74) (v := ?_) (a' := ?_) #[true, true, true, true, true, true, true, true, true, true, true, true, true, true, true, true, true, true, true, true, true, true, true, true, false, false] rfl rfl (take_ofW HT_.out HW_.out (by kernel_rfl)) (fun _ _ _ h => h) (Or.inl ⟨by rfl, ?_⟩) hHeld ?_ ?_
                rotate_left
                · rintro w' ⟨s0, s1, s2, s3, s4, s5⟩
                  go_simp
                  with_reducible rfl
                rotate_left
                · exact AP_
                refine pu_ 24 (some 75) ?_
                refine pu_ 25 (some 76) ?_
                refine done_ (done_of HT_.out (by kernel_rfl)) ?_
                try go_wp2
                go_ret
                exact ⟨by first | rfl | (simp [errW_none, errW_some] <;> rfl) | (simp [*, errW_none, errW_some] <;> rfl), HB_⟩
              rw [if_neg c47] at H
              have c47b0 : decide ((rd l0_1 t516) < (wrap64 ((rd y509 x46_4) - (rd t505 x31_2)))) = false := decide_eq_false c47
              have c47b0v : decide ((rd l0_1 t516) < (IntKind.i64.wrap ((rd y509 x46_4) - (rd t505 x31_2)))) = false := by (try simp only [i64_w]); exact c47b0
              clear c47
              have H' := Aside0.mk H
              clear H
              have p513 : 0 ≤ (x46_4 : Int) := of_decide_eq_true (by first | (with_reducible assumption) | assumption)
              have q513 : x46_4 < (y509.length : Int) := of_decide_eq_true (by first | (with_reducible assumption) | assumption)
              obtain ⟨ad513, e513, hx513_0⟩ := Kd.at_int HR512.out x46_4 p513 q513
              obtain rfl : ad508 = ad513 := (by injection e513)
              first | (replace hx513_0 := (HB.out.cell (World.block_lt_of_cell? w _ hx513_0)).trans hx513_0) | skip
              replace p513 := eq_true p513
              replace q513 := eq_true q513
              try go_wp2
              have n_ := a_ (Aside0.mk (Kd.R_drew HO_1.out)) (a_ (Aside0.mk (Kd.R_drew HO_29.out)) (a_ (Aside0.mk (blk_drew BK496.out)) (a_ (Aside0.mk (blk_drew BK498.out)) (a_ (Aside0.mk (Kd.C_drew HR512.out)) (Aside0.mk (below_drew1 HB.out))))))
              clear HO_1 HO_29 BK496 BK498 HR512 HB
              obtain ⟨HO_1, HO_29, BK496, BK498, HR512, HB⟩ := n_
              have p515 : 0 ≤ (t514 : Int) := of_decide_eq_true (by first | (with_reducible assumption) | assumption)
              have q515 : t514 < (l0_1.length : Int) := of_decide_eq_true (by first | (with_reducible assumption) | assumption)
              obtain ⟨ad515, e515, hx515_0⟩ := Kd.at_int HR0_1.out t514 p515 q515
              have hw515_0 := hx515_0
              cases e515
              first | (replace hx515_0 := (HB.out.cell (World.block_lt_of_cell? w _ hx515_0)).trans hx515_0) | skip
              replace p515 := eq_true p515
              replace q515 := eq_true q515
              have p517 : 0 ≤ (t516 : Int) := of_decide_eq_true (by first | (with_reducible assumption) | assumption)
              have q517 : t516 < (l0_1.length : Int) := of_decide_eq_true (by first | (with_reducible assumption) | assumption)
              obtain ⟨ad517, e517, hx517_0⟩ := Kd.at_int HR0_1.out t516 p517 q517
              have hw517_0 := hx517_0
              obtain rfl : ad515 = ad517 := (by injection e517)
              first | (replace hx517_0 := (HB.out.cell (World.block_lt_of_cell? w _ hx517_0)).trans hx517_0) | skip
              replace p517 := eq_true p517
              replace q517 := eq_true q517
              refine start_ (n := 26) (S := fun w' => w'.cell? ⟨gb496, 0, none⟩ = some (.int .i64 a0_0) ∧ w'.cell? ⟨gb496, 1, none⟩ = some (.slice (some ad515) l0_1.length c0_1) ∧ w'.cell? ⟨gb498, 0, none⟩ = some (.int .i64 a0_0) ∧ w'.cell? ⟨gb498, 1, none⟩ = some (.slice (some ad515) l0_1.length c0_1) ∧ w'.cell? (ad515.add (t514).toNat) = some (.int .i64 (rd l0_1 t514)) ∧ w'.cell? (ad515.add (t516).toNat) = some (.int .i64 (rd l0_1 t516))) (ds := []) #[false, false, false, false, false, false, false, false, false, false, false, false, false, false, false, false, false, false, false, false, false, false, false, false, false, false] (by kernel_rfl) rfl rfl ⟨(blk_cell BK496.out 0).trans rfl, (blk_cell BK496.out 1).trans rfl, (blk_cell BK498.out 0).trans rfl, (blk_cell BK498.out 1).trans rfl, ((HB.out.cell (World.block_lt_of_cell? w _ hw515_0)).trans hw515_0), ((HB.out.cell (World.block_lt_of_cell? w _ hw517_0)).trans hw517_0)⟩ (fun hHeld => ?_); refine with_tabW dbm_Has.tab13 dbm_Has.bits13 (fun HT_ HW_ => ?_)
              generalize wr.drew = w51 at HO_1 HO_29 BK496 BK498 HR512 HB hx515_0 hx517_0 hHeld ⊢
              refine pu_ 0 (some 51) ?_
              refine pu_ 1 (some 52) ?_
              refine pu_ 2 (some 53) ?_
              refine pu_ 3 (some 54) ?_
              refine pu_ 6 (some 57) ?_
              refine pu_ 7 (some 58) ?_
              refine take_ (i := 4) (N := some 55) (v := ?_) (a' := ?_) #[true, true, true, true, true, false, true, true, false, false, false, false, false, false, false, false, false, false, false, false, false, false, false, false, false, false] rfl rfl (take_ofW HT_.out HW_.out (by kernel_rfl)) (fun _ _ _ h => h) (Or.inl ⟨by rfl, ?_⟩) hHeld ?_ ?_
              rotate_left
              · rintro w' ⟨s0, s1, s2, s3, s4, s5⟩
                go_simp
                with_reducible rfl
              rotate_left
              · exact AP_
              refine take_ (i := 5) (N := some 56) (v := ?_) (a' := ?_) #[true, true, true, true, true, true, true, true, false, false, false, false, false, false, false, false, false, false, false, false, false, false, false, false, false, false] rfl rfl (take_ofW HT_.out HW_.out (by kernel_rfl)) (fun _ _ _ h => h) (Or.inl ⟨by rfl, ?_⟩) hHeld ?_ ?_
              rotate_left
              · rintro w' ⟨s0, s1, s2, s3, s4, s5⟩
                go_simp
                with_reducible rfl
              rotate_left
              · exact AP_
              refine on_ 8 (some 59) (fun K hK => ?_)
              refine goes_ Try.func86 (by kernel_rfl) rfl #[.agg #[.int .i64 a0_0, .slice (some ad515) l0_1.length c0_1], .int .i64 x31_2, .int .i64 x46_4] (by rfl) rfl rfl MP_ ?_
              with_reducible refine (dbm_grid_at.calls a0_0 _ _ l0_1 x31_2 x46_4 t514 _ ?side1 ?side2 A38.out).mono ?_
              (case side1 => exact sd_ (Kd.C_below HR0_1.out HB.out))
              (case side2 => exact HC0_1.out)
              rintro e w52 ⟨rfl, hb⟩
              refine ⟨_, rfl, ?_⟩
              have n_ := a_ (rb_ HO_1 hb) (a_ (rb_ HO_29 hb) (a_ (bb_ BK496 hb) (a_ (bb_ BK498 hb) (a_ (Aside0.mk (Kd.C_below (by repeat (first | (with_reducible exact HR512.out) | (with_reducible refine Kd.C_alloc ?_ _) | (with_reducible refine Kd.C_drewN ?_ _) | (with_reducible refine Kd.C_drew ?_) | exact HR512.out)) hb)) (bs_ HB hb)))))
              clear HO_1 HO_29 BK496 BK498 HR512 HB
              obtain ⟨HO_1, HO_29, BK496, BK498, HR512, HB⟩ := n_
              (try clear hb)
              (try clear hb2)
              (try clear hk)
              (try clear hi)
              refine hK.out _ _ ⟨(blk_cell BK496.out 0).trans rfl, (blk_cell BK496.out 1).trans rfl, (blk_cell BK498.out 0).trans rfl, (blk_cell BK498.out 1).trans rfl, ((HB.out.cell (World.block_lt_of_cell? w _ hw515_0)).trans hw515_0), ((HB.out.cell (World.block_lt_of_cell? w _ hw517_0)).trans hw517_0)⟩ (fun hHeld => ?_)
              clear hK K
              refine nm_ ?_
              refine pu_ 9 (some 60) ?_
              refine take_ (i := 10) (N := some 61) (v := ?_) (a' := ?_) #[true, true, true, true, true, true, true, true, true, true, true, false, false, false, false, false, false, false, false, false, false, false, false, false, false, false] rfl rfl (take_ofW HT_.out HW_.out (by kernel_rfl)) (fun _ _ _ h => h) (Or.inl ⟨by rfl, ?_⟩) hHeld ?_ ?_
              rotate_left
              · rintro w' ⟨s0, s1, s2, s3, s4, s5⟩
                go_simp
                with_reducible rfl
              rotate_left
              · exact AP_
              refine pu_ 11 (some 62) ?_
              refine pu_ 12 (some 63) ?_
              refine pu_ 13 (some 64) ?_
              refine pu_ 14 (some 65) ?_
              refine pu_ 15 (some 66) ?_
              refine pu_ 16 (some 67) ?_
              refine pu_ 19 (some 70) ?_
              refine pu_ 20 (some 71) ?_
              refine take_ (i := 17) (N := some 68) (v := ?_) (a' := ?_) #[true, true, true, true, true, true, true, true, true, true, true, true, true, true, true, true, true, true, false, true, true, false, false, false, false, false] rfl rfl (take_ofW HT_.out HW_.out (by kernel_rfl)) (fun _ _ _ h => h) (Or.inl ⟨by rfl, ?_⟩) hHeld ?_ ?_
              rotate_left
              · rintro w' ⟨s0, s1, s2, s3, s4, s5⟩
                go_simp
                with_reducible rfl
              rotate_left
              · exact AP_
              refine take_ (i := 18) (N := some 69) (v := ?_) (a' := ?_) #[true, true, true, true, true, true, true, true, true, true, true, true, true, true, true, true, true, true, true, true, true, false, false, false, false, false] rfl rfl (take_ofW HT_.out HW_.out (by kernel_rfl)) (fun _ _ _ h => h) (Or.inl ⟨by rfl, ?_⟩) hHeld ?_ ?_
              rotate_left
              · rintro w' ⟨s0, s1, s2, s3, s4, s5⟩
                go_simp
                with_reducible rfl
              rotate_left
              · exact AP_
              refine on_ 21 (some 72) (fun K hK => ?_)
              refine goes_ Try.func86 (by kernel_rfl) rfl #[.agg #[.int .i64 a0_0, .slice (some ad515) l0_1.length c0_1], .int .i64 x46_4, .int .i64 x31_2] (by rfl) rfl rfl MP_ ?_
              with_reducible refine (dbm_grid_at.calls a0_0 _ _ l0_1 x46_4 x31_2 t516 _ ?side1 ?side2 A44.out).mono ?_
              (case side1 => exact sd_ (Kd.C_below HR0_1.out HB.out))
              (case side2 => exact HC0_1.out)
              rintro e w53 ⟨rfl, hb⟩
              refine ⟨_, rfl, ?_⟩
              have n_ := a_ (rb_ HO_1 hb) (a_ (rb_ HO_29 hb) (a_ (bb_ BK496 hb) (a_ (bb_ BK498 hb) (a_ (Aside0.mk (Kd.C_below (by repeat (first | (with_reducible exact HR512.out) | (with_reducible refine Kd.C_alloc ?_ _) | (with_reducible refine Kd.C_drewN ?_ _) | (with_reducible refine Kd.C_drew ?_) | exact HR512.out)) hb)) (bs_ HB hb)))))
              clear HO_1 HO_29 BK496 BK498 HR512 HB
              obtain ⟨HO_1, HO_29, BK496, BK498, HR512, HB⟩ := n_
              (try clear hb)
              (try clear hb2)
              (try clear hk)
              (try clear hi)
              refine hK.out _ _ ⟨(blk_cell BK496.out 0).trans rfl, (blk_cell BK496.out 1).trans rfl, (blk_cell BK498.out 0).trans rfl, (blk_cell BK498.out 1).trans rfl, ((HB.out.cell (World.block_lt_of_cell? w _ hw515_0)).trans hw515_0), ((HB.out.cell (World.block_lt_of_cell? w _ hw517_0)).trans hw517_0)⟩ (fun hHeld => ?_)
              clear hK K
              refine nm_ ?_
              refine pu_ 22 (some 73) ?_
              refine take_ (i := 23) (N := some 74) (v := ?_) (a' := ?_) #[true, true, true, true, true, true, true, true, true, true, true, true, true, true, true, true, true, true, true, true, true, true, true, true, false, false] rfl rfl (take_ofW HT_.out HW_.out (by kernel_rfl)) (fun _ _ _ h => h) (Or.inl ⟨by rfl, ?_⟩) hHeld ?_ ?_
              rotate_left
              · rintro w' ⟨s0, s1, s2, s3, s4, s5⟩
                go_simp
                with_reducible rfl
              rotate_left
              · exact AP_
              refine pu_ 24 (some 75) ?_
              refine pu_ 25 (some 76) ?_
              refine done_ (done_of HT_.out (by kernel_rfl)) ?_
              try go_wp2
              go_roundg k4
              case measure => have := HJ2.out; have := HK2.out; have := HJ28.out; have := HK4.out; omega
              case rel => exact ⟨(wrap64 (x46_4 + 1)), (by first | rfl | (simp; done) | (simp [*]; done)), H', ⟨by have := HJ2.out; have := HK2.out; have := HJ28.out; have := HK4.out; omega⟩, ⟨by (with_reducible repeat (first | apply Kd.R_alloc | apply Kd.R_drewN | apply Kd.R_drew)); exact HO_1.out⟩, ⟨by (with_reducible repeat (first | apply Kd.R_alloc | apply Kd.R_drewN | apply Kd.R_drew)); exact HO_29.out⟩, ⟨by (with_reducible repeat (first | refine blk_drewN ?_ _ | refine blk_drew ?_ | refine blk_alloc ?_ _)); exact BK496.out⟩, ⟨by (with_reducible repeat (first | refine blk_drewN ?_ _ | refine blk_drew ?_ | refine blk_alloc ?_ _)); exact BK498.out⟩, ⟨by repeat (first | (with_reducible exact HR512.out) | (with_reducible refine Kd.C_alloc ?_ _) | (with_reducible refine Kd.C_drewN ?_ _) | (with_reducible refine Kd.C_drew ?_) | exact HR512.out)⟩, ⟨HB_⟩⟩
end Go.Proofs.Ytgeemdpflcefkaa.Y
