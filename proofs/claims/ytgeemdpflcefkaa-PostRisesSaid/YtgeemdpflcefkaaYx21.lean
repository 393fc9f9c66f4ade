import Derived.Test.YtgeemdpflcefkaaYx0
import Derived.Test.YtgeemdpflcefkaaYx2
import Derived.Test.YtgeemdpflcefkaaYx3
import Derived.Test.YtgeemdpflcefkaaYx8
import Derived.Test.YtgeemdpflcefkaaYx12
import Derived.Test.YtgeemdpflcefkaaYx17
import Derived.Test.YtgeemdpflcefkaaYx18
import Derived.Test.YtgeemdpflcefkaaYx19
import Derived.Test.YtgeemdpflcefkaaYx20
namespace Go.Proofs.Ytgeemdpflcefkaa.Y
open Go.RowKit Go.Proofs.YtgeemdpflcefkaaW.PrintWords Go.Proofs.YtgeemdpflcefkaaW.PrintLast Go.Proofs.YtgeemdpflcefkaaW.PrintMore
attribute [local go_sem] max2_int min2_int max_two min_two max_three min_three max_four min_four   -- for this text's walks alone
set_option linter.unusedVariables false
set_option linter.unusedSimpArgs false
/-- What steps make of a matrix, one behind the other: each is closed. -/
def doneF (K : Nat) (n : Nat) : List (FuncId × (List Int → List Int)) → List Int → Option (List Int)
 | [], zs => some zs
 | f :: fs, zs => if zs = [] then some [] else (dbm_Close.f K (n : Int) (f.2 zs)).bind fun r => if r.1 = (n : Int) ∧ (r.2.1 = [] ∨ r.2.1.length = (n + 1) * (n + 1)) then doneF K n fs r.2.1 else none
/-- A step that is handed on: what it does with a matrix. -/
def IsStep (n : Nat) (vi vj vc : Int) (f : FuncId × (List Int → List Int)) : Prop :=
 (∀ ys : List Int, (f.2 ys).length = ys.length) ∧ (∀ args w, (callFunc f.1 args).run Try.prog w = .ok (.enter f.1 args) w) ∧
 ∀ (g b cap base : Nat) (ok : Nat → Prop) (xs : List Int) (w : World), xs.length = (n + 1) * (n + 1) → w.heap[g]? = some (.cells #[.int .i64 n, .slice (some ⟨b, 0, none⟩) xs.length cap] 87 (0, 0)) → Kd.R (Kd.int .i64) 3 w base ok (.slice (some ⟨b, 0, none⟩) xs.length cap) xs →
  Calls Try.prog f.1 #[.pointer (some ⟨g, 0, none⟩), .int .i64 vi, .int .i64 vj, .int .i64 vc] w fun e w' => e = .returned (.tuple #[]) ∧ Kd.R (Kd.int .i64) 3 w' base ok (.slice (some ⟨b, 0, none⟩) xs.length cap) (f.2 xs) ∧
   w'.heap[g]? = some (.cells #[.int .i64 n, .slice (some ⟨b, 0, none⟩) xs.length cap] 87 (0, 0)) ∧ Kept w w' (fun k => k = b) ∧ Below b w w'
theorem limit_step (n i j : Nat) (hn : n ≤ 8) (hi : i ≤ n) (hj : j ≤ n) (c : Int) : IsStep n i j c (66, fun xs => limitL n xs i j c) :=
 ⟨fun ys => limitL_length n ys i j c, fun args w => enters_ Try.func66 (by kernel_rfl) rfl args w, fun g b cap base ok xs w hxs hb hR => limit_calls n i j hn hi hj c g b cap base ok xs hxs w hb hR⟩
theorem free_step (n i : Nat) (hn : n ≤ 8) (hi : i ≤ n) (j c : Int) : IsStep n i j c (67, fun xs => freeTo i n xs (n + 1)) :=
 ⟨fun ys => freeTo_length i n ys (n + 1), fun args w => enters_ Try.func67 (by kernel_rfl) rfl args w, fun g b cap base ok xs w hxs hb hR => free_calls n i hn hi j c g b cap base ok xs hxs w hb hR⟩
theorem move_step (n i : Nat) (hn : n ≤ 8) (hi : i ≤ n) (j c : Int) : IsStep n i j c (69, fun xs => moveTo i n c xs (n + 1)) :=
 ⟨fun ys => moveTo_length i n c ys (n + 1), fun args w => enters_ Try.func69 (by kernel_rfl) rfl args w, fun g b cap base ok xs w hxs hb hR => move_calls n i hn hi j c g b cap base ok xs hxs w hb hR⟩
theorem equal_step (n i j : Nat) (hn : n ≤ 8) (hi : i ≤ n) (hj : j ≤ n) (c : Int) : IsStep n i j c (70, fun xs => limitL n (limitL n xs i j c) j i (wrap64 (-c))) :=
 ⟨fun ys => by show (limitL n (limitL n ys i j c) j i (wrap64 (-c))).length = ys.length; rw [limitL_length, limitL_length], fun args w => enters_ Try.func70 (by kernel_rfl) rfl args w, fun g b cap base ok xs w hxs hb hR => equal_calls n i j hn hi hj c g b cap base ok xs hxs w hb hR⟩
def zone_done.T6 : Bool × List (List Nat × List Nat) := (true, [([], []), ([0], [0]), ([], []), ([2], [2]), ([3], [3]), ([1, 4], [1, 4]), ([5], [5]), ([6, 4, 0, 1, 2, 3, 4, 5, 6], [6])])
def zone_done.B6 : List Nat := [0, 1, 0, 4, 12, 31, 63, 127]
theorem zone_done.tab6 : rtab .any (opsOf Try.f65 6) = zone_done.T6 := by kernel_rfl
theorem zone_done.bits6 : waitsOk zone_done.T6.2 zone_done.B6 = true := by kernel_rfl
def zone_done.T8 : Bool × List (List Nat × List Nat) := (true, [([], []), ([0], [0]), ([], []), ([2], [2]), ([3], [3]), ([4], [4]), ([1, 5], [1, 5]), ([6], [6]), ([7], [7]), ([7], [7]), ([8, 6, 0, 1, 2, 3, 4, 5, 6, 7, 8], [8])])
def zone_done.B8 : List Nat := [0, 1, 0, 4, 12, 28, 63, 127, 255, 255, 511]
theorem zone_done.tab8 : rtab .any (opsOf Try.f65 8) = zone_done.T8 := by kernel_rfl
theorem zone_done.bits8 : waitsOk zone_done.T8.2 zone_done.B8 = true := by kernel_rfl
theorem cell_lt_ {w : World} {a : Addr} {v : Value} (h : w.cell? a = some v) : a.block < w.heap.size := by
 rcases Nat.lt_or_ge a.block w.heap.size with hl | hl
 · exact hl
 · exfalso
   have e : w.heap[a.block]? = none := Array.getElem?_eq_none hl
   simp [World.cell?, e] at h
set_option maxHeartbeats 8000000 in
set_option maxRecDepth 100000 in
theorem done_calls (kc n : Nat) (hn : n ≤ 8) (vi vj vc : Int) (fs : List (FuncId × (List Int → List Int))) (hfs : ∀ f ∈ fs, IsStep n vi vj vc f) (hne : 0 < fs.length) (hfl : fs.length ≤ 8) (A0 : Option Addr) (c0 : Nat) (xs : List Int)
  (hxs : xs = [] ∨ xs.length = (n + 1) * (n + 1)) (bs cs : Nat) (r : List Int) (w : World) (hr0 : Kd.C (Kd.int .i64) w A0 xs.length xs) (hc0 : xs.length ≤ c0)
  (hst : ∀ q (hq : q < fs.length), w.cell? ⟨bs, q, none⟩ = some (.func (.func (fs[q]).1) #[] #[])) (hcs : fs.length ≤ cs) (h : doneF kc n fs xs = some r) :
  Calls Try.prog 65 #[.agg #[.int .i64 n, .slice A0 xs.length c0], .int .i64 vi, .int .i64 vj, .int .i64 vc, .slice (some ⟨bs, 0, none⟩) fs.length cs] w fun e w' =>
    ∃ v, e = .returned (.agg #[.int .i64 n, v]) ∧ Kd.R (Kd.int .i64) 3 w' w.heap.size (fun _ => True) v r ∧ Below w.heap.size w w' := by
 have HB := Aside0.mk (Below.refl w.heap.size w)
 have HC := Aside0.mk hr0
 have HC0 := Aside0.mk hc0
 have HST := Aside0.mk hst
 have HD := Aside0.mk h
 have HXS := Aside0.mk hxs
 have HFS := Aside0.mk hfs
 have HCS := Aside0.mk hcs
 have hu24 := Try.underlying24
 clear hr0 hc0 hst h hxs hfs
 go_enter Try.func65, Try.ntmps65
 go_wp2_with (first | ((with_reducible refine gate_dst (N := 5) rfl ?_); refine bx_ (N := 5) (cs := #[.int .i64 n, .slice A0 xs.length c0]) (t := 24) ?_; intro gz hg w4 hbox hb; have n_ := a_ (Aside0.mk (below_step HB.out hb)) (a_ (Aside0.mk hbox) (Aside0.mk (by rw [hg]; exact (below_size HB.out) : w.heap.size ≤ gz))); clear HB; obtain ⟨HB, BZ, GZ⟩ := n_; clear hb hbox hg) | ((with_reducible refine gate_dst (N := 10) rfl ?_); refine bx_ (N := 10) (cs := #[.int .i64 0, .slice none 0 0]) (t := 24) ?_; intro gr hg w5 hbox hb; have n_ := a_ (Aside0.mk (below_step HB.out hb)) (a_ (Aside0.mk hbox) (a_ (Aside0.mk (by rw [hg]; exact (below_size HB.out) : w.heap.size ≤ gr)) (a_ (Aside0.mk (by rw [hg]; exact Nat.ne_of_lt (blk_lt BZ.out) : gz ≠ gr)) (Aside0.mk (blk_below BZ.out hb))))); clear HB BZ; obtain ⟨HB, BR, GR, NZ, BZ⟩ := n_; clear hb hbox hg))
 go_loopg [16] (fs.length + 1) (fun gg v16 wr => ∃ (k : Nat) (A : Option Addr) (c : Nat) (zs : List Int), k ≤ fs.length ∧ v16 = .int .i64 k ∧ Aside0 (fs.length - k ≤ gg) ∧ Aside0 (wr.heap[gz]? = some (.cells #[.int .i64 n, .slice A zs.length c] 24 (0, 0))) ∧ Aside0 (wr.heap[gr]? = some (.cells #[.int .i64 0, .slice none 0 0] 24 (0, 0))) ∧ Aside0 (Below w.heap.size w wr) ∧ Aside0 (Kd.C (Kd.int .i64) wr A zs.length zs) ∧ Aside0 (zs.length ≤ c) ∧ Aside0 (k = 0 ∨ Kd.R (Kd.int .i64) 3 wr w.heap.size (fun k_ => k_ ≠ gz ∧ k_ ≠ gr) (.slice A zs.length c) zs) ∧ Aside0 (doneF kc n (fs.drop k) zs = some r) ∧ Aside0 (zs = [] ∨ zs.length = (n + 1) * (n + 1)))
 case atStart => exact ⟨0, A0, c0, xs, by omega, rfl, ⟨by omega⟩, BZ, BR, HB, ⟨Kd.C_below HC.out HB.out⟩, HC0, ⟨.inl rfl⟩, HD, HXS⟩
 case round =>
  clear BZ BR HB HC HC0 HD HXS
  obtain ⟨k, A, c, zs, hk, rfl, HM, BZ, BR, HB, HC, HC0, HO, HD, HZ⟩ := hrel
  by_cases hlt : k < fs.length
  rotate_left
  · have hltz : ¬ (k : Int) < (fs.length : Int) := by omega
    obtain rfl : k = fs.length := by omega
    have hd := HD.out
    rw [List.drop_length] at hd
    obtain rfl : zs = r := Option.some.inj hd
    clear hd
    have hown := HO.out.resolve_left (by omega)
    have HOw := Aside0.mk hown
    clear hown HO
    have hcz0 : wr.cell? ⟨gz, 0, none⟩ = some (.int .i64 n) := (blk_cell BZ.out 0).trans rfl
    have hcz1 : wr.cell? ⟨gz, 1, none⟩ = some (.slice A zs.length c) := (blk_cell BZ.out 1).trans rfl
    have hcr0 : wr.cell? ⟨gr, 0, none⟩ = some (.int .i64 0) := (blk_cell BR.out 0).trans rfl
    have hcr1 : wr.cell? ⟨gr, 1, none⟩ = some (.slice none 0 0) := (blk_cell BR.out 1).trans rfl
    have hfr0 := blk_frozen BR.out 0
    have hfr1 := blk_frozen BR.out 1
    go_wp2
    refine bodyPost_ret (results_cell_row rfl _ _ gr 24 #[.int .i64 n, .slice A zs.length c] (0, 0) _ rfl (by refine blk_put (cs := #[.int .i64 n, .slice none 0 0]) ?_ 1 _ rfl; refine blk_put (cs := #[.int .i64 0, .slice none 0 0]) ?_ 0 _ rfl; exact BR.out) Try.underlying24 rfl (by kernel_rfl)) rfl ?_
    exact ⟨_, rfl, Kd.R_mono (Kd.R_far (p := ⟨gr, 1, none⟩) (Kd.R_far (p := ⟨gr, 0, none⟩) HOw.out (fun _ hk => hk.2) (.int .i64 n)) (fun _ hk => hk.2) (.slice A zs.length c)) (fun _ _ => trivial), below_set (below_set HB.out GR.out) GR.out⟩
  have hltz : (k : Int) < (fs.length : Int) := Int.ofNat_lt.2 hlt
  have hcell : wr.cell? ⟨bs, k, none⟩ = some (.func (.func (fs[k]).1) #[] #[]) := (HB.out.cell (cell_lt_ (HST.out k hlt))).trans (HST.out k hlt)
  have hIS := HFS.out (fs[k]) (List.getElem_mem hlt)
  by_cases hz : zs = []
  · subst hz
    clear hIS
    have hr : r = [] := by
      have hd := HD.out
      rw [List.drop_eq_getElem_cons hlt] at hd
      simpa [doneF] using hd.symm
    subst hr
    clear HD
    have hcz0 : wr.cell? ⟨gz, 0, none⟩ = some (.int .i64 n) := (blk_cell BZ.out 0).trans rfl
    have hcz1 : wr.cell? ⟨gz, 1, none⟩ = some (.slice A 0 c) := (blk_cell BZ.out 1).trans rfl
    have hcr0 : wr.cell? ⟨gr, 0, none⟩ = some (.int .i64 0) := (blk_cell BR.out 0).trans rfl
    have hcr1 : wr.cell? ⟨gr, 1, none⟩ = some (.slice none 0 0) := (blk_cell BR.out 1).trans rfl
    have hfr0 := blk_frozen BR.out 0
    have hfr1 := blk_frozen BR.out 1
    have HE : Aside0 (Calls Try.prog 68 #[.agg #[.int .i64 n, .slice A 0 c]] wr (fun e w' => ∃ v1_ : Value, e = .returned (.agg #[.int .i64 n, v1_]) ∧ Kd.R (Kd.int .i64) 3 w' wr.heap.size (fun _ => True) v1_ [] ∧ Below wr.heap.size wr w')) := ⟨zone_empty.calls n A c [] n [] wr HC.out HC0.out rfl⟩
    have HSZ := Aside0.mk (below_size HB.out)
    go_wp2_with ((with_reducible refine gate_callee (f := 68) rfl ?_); refine goesL_ (some 25) rfl rfl Try.func68 (by kernel_rfl) rfl #[.agg #[.int .i64 n, .slice A 0 c]] rfl (by (try simp only [List.map_toArray, List.map_cons, List.map_nil]); first | done | rfl) ?_; (with_reducible refine HE.out.mono ?_); rintro e w6 ⟨v1, rfl, hr, hb⟩; obtain ⟨A1, c1, rfl⟩ := Kd.R_slice hr; refine ⟨_, rfl, ?_⟩; have n0_ := Aside0.mk (below_step HB.out hb); have n1_ := Aside0.mk (blk_below BR.out hb); have n2_ := Aside0.mk (Kd.R_lower (Kd.R_reok (ok := fun k => k ≠ gr) rfl hr (fun k hk => Nat.ne_of_gt (Nat.lt_of_lt_of_le (blk_lt BR.out) (Kd.R_base hr k hk)))) HSZ.out); have hfs0 := blk_frozen n1_.out 0; have hfs1 := blk_frozen n1_.out 1; have hcs0 : w6.cell? ⟨gr, 0, none⟩ = some (.int .i64 0) := (blk_cell n1_.out 0).trans rfl; have hcs1 : w6.cell? ⟨gr, 1, none⟩ = some (.slice none 0 0) := (blk_cell n1_.out 1).trans rfl; clear HB BR HE hr hb; have HB := n0_; have BR := n1_; have HR := n2_; clear n0_ n1_ n2_)
    refine bodyPost_ret (results_cell_row rfl _ _ gr 24 #[.int .i64 n, .slice A1 ([] : List Int).length c1] (0, 0) _ rfl (by refine blk_put (cs := #[.int .i64 n, .slice none 0 0]) ?_ 1 _ rfl; refine blk_put (cs := #[.int .i64 0, .slice none 0 0]) ?_ 0 _ rfl; exact BR.out) Try.underlying24 rfl (by kernel_rfl)) rfl ?_
    exact ⟨_, rfl, Kd.R_mono (Kd.R_far (p := ⟨gr, 1, none⟩) (Kd.R_far (p := ⟨gr, 0, none⟩) HR.out (fun _ hk => hk) (.int .i64 n)) (fun _ hk => hk) (.slice A1 ([] : List Int).length c1)) (fun _ _ => trivial), below_set (below_set HB.out GR.out) GR.out⟩
  have hlen := HZ.out.resolve_left hz
  have hpos : 0 < zs.length := List.length_pos_iff.2 hz
  have hposz : ¬ ((zs.length : Int) = 0) := by omega
  have h81 : zs.length ≤ 81 := by
    rw [hlen]
    exact Nat.mul_le_mul (by omega : n + 1 ≤ 9) (by omega : n + 1 ≤ 9)
  obtain ⟨q2, q3, hq, hq2, hd⟩ : ∃ q2 q3, dbm_Close.f kc (n : Int) ((fs[k]).2 zs) = some ((n : Int), q2, q3) ∧ (q2 = [] ∨ q2.length = (n + 1) * (n + 1)) ∧ doneF kc n (fs.drop (k + 1)) q2 = some r := by
    have hd := HD.out
    rw [List.drop_eq_getElem_cons hlt] at hd
    simp only [doneF, if_neg hz] at hd
    obtain ⟨⟨q1, q2, q3⟩, hq, hd⟩ := Option.bind_eq_some_iff.1 hd
    split at hd
    · rename_i hc
      have hc1 : q1 = (n : Int) := hc.1
      exact ⟨q2, q3, by rw [hq, hc1], hc.2, hd⟩
    · cases hd
  have HQ := Aside0.mk hq
  have HQ2 := Aside0.mk hq2
  have HD2 := Aside0.mk hd
  have HCL : Aside0 (slices_Clone_int_int.f zs = some zs) := ⟨by
    have : zs.length < 17592186044416 := by omega
    simp [slices_Clone_int_int.f, this]⟩
  clear hq hq2 hd HD HZ HO
  have HLN := Aside0.mk hlen
  have HPOS := Aside0.mk hpos
  have HIS := Aside0.mk hIS
  clear hlen hIS
  have hcz0 : wr.cell? ⟨gz, 0, none⟩ = some (.int .i64 n) := (blk_cell BZ.out 0).trans rfl
  have hcz1 : wr.cell? ⟨gz, 1, none⟩ = some (.slice A zs.length c) := (blk_cell BZ.out 1).trans rfl
  go_wp2_with fail
  clear hcz0 hcz1 hcell
  have n_ := a_ (Aside0.mk (blk_drew BZ.out)) (a_ (Aside0.mk (blk_drew BR.out)) (a_ (Aside0.mk HB.out.drew) (Aside0.mk (Kd.C_below HC.out (below_drew1 (Below.refl _ _))))))
  clear BZ BR HB HC
  obtain ⟨BZ, BR, HB, HC⟩ := n_
  refine start_ (n := 8) (S := fun w' => w'.cell? ⟨gz, 0, none⟩ = some (.int .i64 n) ∧ w'.cell? ⟨gz, 1, none⟩ = some (.slice A zs.length c)) (ds := []) #[false, false, false, false, false, false, false, false] (by kernel_rfl) rfl rfl ⟨(blk_cell BZ.out 0).trans rfl, (blk_cell BZ.out 1).trans rfl⟩ (fun hHeld => ?_); refine with_tabW zone_done.tab6 zone_done.bits6 (fun HT_ HW_ => ?_)
  generalize hwd_ : wr.drew = wd at BZ BR HB HC hHeld ⊢
  clear hwd_
  refine pu_ 0 (some 26) ?_
  refine pu_ 2 (some 28) ?_
  refine take_ (i := 1) (N := some 27) (v := ?_) (a' := ?_) #[true, true, true, false, false, false, false, false] rfl rfl (take_ofW HT_.out HW_.out (by kernel_rfl)) (fun _ _ _ h => h) (Or.inl ⟨by rfl, ?_⟩) hHeld ?_ ?_
  rotate_left
  · rintro w' ⟨s0, s1⟩
    go_simp
    with_reducible rfl
  rotate_left
  · exact AP_
  refine take_ (i := 3) (N := some 29) (v := ?_) (a' := ?_) #[true, true, true, true, false, false, false, false] rfl rfl (take_ofW HT_.out HW_.out (by kernel_rfl)) (fun _ _ _ h => h) (Or.inl ⟨by rfl, ?_⟩) hHeld ?_ ?_
  rotate_left
  · rintro w' ⟨s0, s1⟩
    go_simp
    with_reducible rfl
  rotate_left
  · exact AP_
  refine on_ 4 (some 30) (fun K hK => ?_)
  refine goes_ Try.func85 (by kernel_rfl) rfl #[.slice A zs.length c] (by rfl) rfl rfl MP_ ?_
  with_reducible refine (slices_Clone_int_int.calls A c zs zs _ HC.out HC0.out HCL.out).mono ?_
  rintro e w6 ⟨v1, rfl, hr, hb⟩
  refine ⟨_, rfl, ?_⟩
  obtain ⟨b, cap, rfl, hb1, hb2, cells, hcells⟩ := Kd.R_form hr HPOS.out
  have LZ := Aside0.mk (Nat.lt_of_lt_of_le (blk_lt BZ.out) hb1)
  have LR := Aside0.mk (Nat.lt_of_lt_of_le (blk_lt BR.out) hb1)
  have LW := Aside0.mk (Nat.le_trans (below_size HB.out) hb1)
  have n0_ := Aside0.mk (blk_below BZ.out hb)
  have n1_ := Aside0.mk (blk_below BR.out hb)
  have n2_ := Aside0.mk (below_step HB.out hb)
  have HR := Aside0.mk (Kd.R_lower hr (below_size HB.out))
  clear BZ BR HB HC hr hb hcells hb1 hb2 HC0
  have BZ := n0_
  have BR := n1_
  have HB := n2_
  clear n0_ n1_ n2_
  refine hK.out _ _ ⟨(blk_cell BZ.out 0).trans rfl, (blk_cell BZ.out 1).trans rfl⟩ (fun hHeld => ?_)
  clear hK K
  refine nm_ ?_
  refine pu_ 5 (some 31) ?_
  refine on_ 6 (some 32) (fun K hK => ?_)
  refine box_step (by rfl) (N := 32) rfl (cs := #[.int .i64 n, .slice (some ⟨b, 0, none⟩) zs.length cap]) (t := 87) ?hr ?_
  case hr => first | (go_simp; done) | (go_simp; rfl)
  intro gx hgx w7 hbox hb
  have n0_ := Aside0.mk (blk_below BZ.out hb)
  have n1_ := Aside0.mk (blk_below BR.out hb)
  have n2_ := Aside0.mk (below_step HB.out hb)
  have n3_ := Aside0.mk (Kd.R_below HR.out hb)
  have BX := Aside0.mk hbox
  clear BZ BR HB HR hb hbox hgx
  have BZ := n0_
  have BR := n1_
  have HB := n2_
  have HR := n3_
  clear n0_ n1_ n2_ n3_
  refine hK.out _ _ ⟨(blk_cell BZ.out 0).trans rfl, (blk_cell BZ.out 1).trans rfl⟩ (fun hHeld => ?_)
  clear hK K
  refine nm_ ?_
  refine pu_ 7 (some 13) ?_
  refine done_ (done_of HT_.out (by kernel_rfl)) ?_
  clear hHeld
  have HX := Aside0.mk (HIS.out.2.2 gx b cap w.heap.size (fun _ => True) zs w7 HLN.out BX.out HR.out)
  go_wp2_with ((with_reducible refine gate_dst (N := 38) rfl ?_); (refine goesG_ (x := .tmp 33) #[] #[.pointer (some ⟨gx, 0, none⟩), .int .i64 vi, .int .i64 vj, .int .i64 vc] (HIS.out.2.1 _ _) rfl rfl rfl (by rfl) (by first | rfl | (simp only [List.map_toArray, List.map_cons, List.map_nil]; rfl)) ?_); rw [Array.append_empty]; (with_reducible refine HX.out.mono ?_); rintro e w8 ⟨rfl, hr, hbx, hk, hw⟩; refine ⟨_, rfl, ?_⟩; have n_ := a_ (Aside0.mk ((hw.block gz LZ.out).trans BZ.out)) (a_ (Aside0.mk ((hw.block gr LR.out).trans BR.out)) (a_ (Aside0.mk (HB.out.trans ⟨hw.os, hw.tape, hw.output, hw.size, fun i hi => hw.block i (Nat.lt_of_lt_of_le hi LW.out)⟩)) (a_ (Aside0.mk (by rw [← HIS.out.1 zs] at hr; exact hr)) (Aside0.mk hbx)))); clear BZ BR HB HR BX HX hr hbx hk hw; obtain ⟨BZ, BR, HB, HR, BX⟩ := n_)
  have HL8 := Aside0.mk (HIS.out.1 zs)
  clear HIS
  have n_ := a_ (Aside0.mk (blk_drew BZ.out)) (a_ (Aside0.mk (blk_drew BR.out)) (a_ (Aside0.mk HB.out.drew) (a_ (Aside0.mk (Kd.R_drew HR.out)) (Aside0.mk (blk_drew BX.out)))))
  clear BZ BR HB HR BX
  obtain ⟨BZ, BR, HB, HR, BX⟩ := n_
  refine start_ (n := 11) (S := fun w' => w'.cell? ⟨gz, 0, none⟩ = some (.int .i64 n) ∧ w'.cell? ⟨gx, 1, none⟩ = some (.slice (some ⟨b, 0, none⟩) zs.length cap)) (ds := [10]) #[false, false, false, false, false, false, false, false, false, false, false] (by kernel_rfl) rfl rfl ⟨(blk_cell BZ.out 0).trans rfl, (blk_cell BX.out 1).trans rfl⟩ (fun hHeld => ?_); refine with_tabW zone_done.tab8 zone_done.bits8 (fun HT_ HW_ => ?_)
  generalize hwd_ : w8.drew = wd at BZ BR HB HR BX hHeld ⊢
  clear hwd_
  refine pu_ 0 (some 40) ?_
  refine pu_ 2 (some 42) ?_
  refine pu_ 3 (some 43) ?_
  refine pu_ 4 (some 44) ?_
  refine take_ (i := 1) (N := some 41) (v := ?_) (a' := ?_) #[true, true, true, true, true, false, false, false, false, false, false] rfl rfl (take_ofW HT_.out HW_.out (by kernel_rfl)) (fun _ _ _ h => h) (Or.inl ⟨by rfl, ?_⟩) hHeld ?_ ?_
  rotate_left
  · rintro w' ⟨s0, s1⟩
    go_simp
    with_reducible rfl
  rotate_left
  · exact AP_
  refine take_ (i := 5) (N := some 45) (v := ?_) (a' := ?_) #[true, true, true, true, true, true, false, false, false, false, false] rfl rfl (take_ofW HT_.out HW_.out (by kernel_rfl)) (fun _ _ _ h => h) (Or.inl ⟨by rfl, ?_⟩) hHeld ?_ ?_
  rotate_left
  · rintro w' ⟨s0, s1⟩
    go_simp
    with_reducible rfl
  rotate_left
  · exact AP_
  refine on_ 6 (some 46) (fun K hK => ?_)
  refine goes_ Try.func88 (by kernel_rfl) rfl #[.int .i64 n, .slice (some ⟨b, 0, none⟩) zs.length cap] (by rfl) rfl rfl MP_ ?_
  have HCC := Kd.R_reads' HR.out
  have HCL := dbm_Close.calls kc (n : Int) (some ⟨b, 0, none⟩) cap ((fs[k]).2 zs) (n : Int) q2 q3 wd HCC.2.2 HCC.2.1 HQ.out
  clear HCC
  rw [HL8.out] at HCL
  with_reducible refine HCL.mono ?_
  clear HCL
  rintro e w9 ⟨v1, rfl, hr, hb⟩
  refine ⟨_, rfl, ?_⟩
  obtain ⟨A1, c1, rfl⟩ := Kd.R_slice hr
  have n0_ := Aside0.mk (blk_below BZ.out hb)
  have n1_ := Aside0.mk (blk_below BR.out hb)
  have n2_ := Aside0.mk (below_step HB.out hb)
  have n4_ := Aside0.mk (blk_below BX.out hb)
  have n3_ := Aside0.mk (Kd.R_lower (Kd.R_reok (ok := fun k => k ≠ gz ∧ k ≠ gr) rfl hr (fun k hk => ⟨Nat.ne_of_gt (Nat.lt_of_lt_of_le (blk_lt BZ.out) (Kd.R_base hr k hk)), Nat.ne_of_gt (Nat.lt_of_lt_of_le (blk_lt BR.out) (Kd.R_base hr k hk))⟩)) (below_size HB.out))
  clear BZ BR HB HR BX hr hb
  have BZ := n0_
  have BR := n1_
  have HB := n2_
  have HR := n3_
  have BX := n4_
  clear n0_ n1_ n2_ n3_ n4_
  obtain ⟨hcz0, hcz1, hfz0, hfz1⟩ := cz2_ BZ
  refine hK.out _ _ ⟨(blk_cell BZ.out 0).trans rfl, (blk_cell BX.out 1).trans rfl⟩ (fun hHeld => ?_)
  clear hK K
  refine nm_ ?_
  refine pu_ 7 (some 39) ?_
  refine pu_ 8 (some 47) ?_
  refine pu_ 9 (some 48) ?_
  refine last_ (i := 10) (N := none) #[true, true, true, true, true, true, true, true, true, true, true] rfl rfl (one_of HT_.out (by kernel_rfl)) (by decide) (fun K hK => ?_)
  refine skip_ (w1 := ?_) (by rfl) rfl ?_ ?_
  rotate_left
  · go_simp
    rfl
  refine hK.out _ _ ?_
  clear hK K
  refine done_ (done_of HT_.out (by kernel_rfl)) ?_
  clear hcz0 hcz1 hfz0 hfz1
  go_wp2
  go_roundg (fs.length - (k + 1))
  case measure => have := HM.out; omega
  case rel =>
    have HRF := Kd.R_far (p := ⟨gz, 1, none⟩) (Kd.R_far (p := ⟨gz, 0, none⟩) HR.out (fun _ hk => hk.1) (.int .i64 n)) (fun _ hk => hk.1) (.slice A1 q2.length c1)
    exact ⟨k + 1, A1, c1, q2, by omega, by go_num, ⟨by omega⟩, ⟨by refine blk_put (cs := #[.int .i64 n, .slice A zs.length c]) ?_ 1 _ rfl; refine blk_put (cs := #[.int .i64 n, .slice A zs.length c]) ?_ 0 _ rfl; exact BZ.out⟩, ⟨blk_far (blk_far BR.out NZ.out.symm _) NZ.out.symm _⟩, ⟨below_set (below_set HB.out GZ.out) GZ.out⟩, ⟨(Kd.R_reads' HRF).2.2⟩, ⟨(Kd.R_reads' HRF).2.1⟩, ⟨.inr HRF⟩, HD2, HQ2⟩
end Go.Proofs.Ytgeemdpflcefkaa.Y
