-- WRITTEN BY this session's program wip/ext.py, in print.py's manner
import Derived.Test.YtgbndakiiblhmaaNx0
import Derived.Test.YtgbndakiiblhmaaNx2
namespace Go.Proofs.Ytgbndakiiblhmaa.N
open Go.RowKit Go.Proofs.YtgbndakiiblhmaaW.PrintWords Go.Proofs.YtgbndakiiblhmaaW.PrintLast Go.Proofs.YtgbndakiiblhmaaW.PrintMore
attribute [local go_sem] max2_int min2_int max_two min_two max_three min_three max_four min_four   -- for this text's walks alone
set_option linter.unusedVariables false
set_option linter.unusedSimpArgs false

/-! ### ext fnv_Less: function 16 -/
section
open Go.Shelf
attribute [local go_sem] Oper.semAt_some
def upto {α : Type} (f : Nat → α) (k : Nat) : List α := (List.range k).map f
theorem upto_succ {α : Type} (f : Nat → α) (k : Nat) : upto f (k + 1) = upto f k ++ [f k] := by simp [upto, List.range_succ]
theorem upto_length {α : Type} (f : Nat → α) (k : Nat) : (upto f k).length = k := by simp [upto]
/-- What a round keeps: all below n₀, and the box of the slice. -/
def KpB (n₀ Bs : Nat) (W W' : World) : Prop := Below n₀ W W' ∧ ∀ v, W.cell? ⟨Bs, 0, none⟩ = some v → W'.cell? ⟨Bs, 0, none⟩ = some v
theorem KpB.refl (n₀ Bs : Nat) (W : World) : KpB n₀ Bs W W := ⟨Below.refl _ _, fun _ h => h⟩
theorem KpB.trans {n₀ Bs : Nat} {A B C : World} (h : KpB n₀ Bs A B) (k : KpB n₀ Bs B C) : KpB n₀ Bs A C := ⟨h.1.trans k.1, fun v e => k.2 v (h.2 v e)⟩
/-- What comes at round k, from the end. -/
def backF (zs : List Int) (len k : Nat) : Nat × Int := (len - 1 - k, zs[len - 1 - k]?.getD 0)
theorem add_blk (a : Addr) (n : Nat) : (a.add n).block = a.block := by unfold Addr.add; split <;> rfl
set_option maxRecDepth 100000 in
set_option maxHeartbeats 2000000 in
theorem back1_in (F : Fence) (n : Nat) (h8 : F.fn 55) (hro : F.round = none) (hn : 1 ≤ n) (l Bs n₀ len cap : Nat) (ad : Addr) (zs : List Int) (hreach : len ≤ 1000000) (hb : ad.block < n₀) (J Jx : List (Nat × Int) → World → Prop)
    (hY : ∀ pre x W, J pre W → pre.length < len → YieldAt F (n - 1) Try.prog l #[.int .i64 (x.1 : Int), .int .u8 x.2] W fun e W' =>
      (e = .returned (.bool true) ∧ J (pre ++ [x]) W' ∧ KpB n₀ Bs W W') ∨ (e = .returned (.bool false) ∧ Jx (pre ++ [x]) W'))
    (W : World) (hBs : W.cell? ⟨Bs, 0, none⟩ = some (.slice (some ad) len cap)) (hc : ∀ j, j < len → W.cell? (ad.add j) = some (.int .u8 (zs[j]?.getD 0))) (h0 : J [] W) :
    CallsIn F n Try.prog 55 #[.func (.yield l) #[] #[], .pointer (some ⟨Bs, 0, none⟩)] W fun e W' => (∃ v, e = .returned v) ∧
      ((∃ ys, ys = upto (backF zs len) len ∧ J ys W') ∨ (∃ pre, (∃ k, k ≤ len ∧ pre = upto (backF zs len) k) ∧ Jx pre W')) := by
  refine callsIn_of_wp Try.func55 rfl h8 ?_ hro
  simp only [Try.ntmps55, List.size_toArray, List.length_cons, List.length_nil, Nat.reduceAdd, Nat.reduceSub, Array.replicate_succ, Array.replicate_zero, List.push_toArray, List.append_toArray, List.nil_append, List.cons_append]
  gi_wp2
  gi_loopw [3] (fun i wr => ∃ k : Nat, k ≤ len ∧ i = .int .i64 ((len : Int) - 1 - (k : Int)) ∧ J (upto (backF zs len) k) wr ∧ KpB n₀ Bs W wr)
    (fun i _ => (intOf i + 1).toNat)
  case atStart => exact ⟨0, Nat.zero_le _, by simp, h0, KpB.refl _ _ _⟩
  case round =>
    obtain ⟨k, hk, rfl, hJs, hnx⟩ := hrel
    have hB1 : wr.cell? ⟨Bs, 0, none⟩ = some (.slice (some ad) len cap) := hnx.2 _ hBs
    by_cases hlt : k < len
    · obtain ⟨m, hm⟩ : ∃ m : Nat, len - 1 - k = m := ⟨_, rfl⟩
      have e1 : (len : Int) - 1 - (k : Int) = (m : Int) := by omega
      have hcx : wr.cell? (ad.add m) = some (.int .u8 (zs[m]?.getD 0)) := (hnx.1.cell (p := ad.add m) (by rw [add_blk]; exact hb)).trans (hc m (by omega))
      obtain ⟨fn, tmps, assign, body, hy, hR⟩ := hY _ (m, zs[m]?.getD 0) wr hJs (by rw [upto_length]; exact hlt)
      dsimp only at hy
      rw [e1]
      gi_wp2
      refine hR.mono ?_
      have eF : backF zs len k = (m, zs[m]?.getD 0) := by simp [backF, hm]
      rintro e W3 (⟨rfl, hJ3, hk3⟩ | ⟨rfl, hJx3⟩)
      · gi_wp2
        go_roundw
        case rel => exact ⟨k + 1, by omega, by simp; omega, by rw [upto_succ, eF]; exact hJ3, hnx.trans hk3⟩
        case measure => simp [intOf]
      · gi_wp2
        refine bodyPost_ret (results_none rfl _ _ _) rfl ?_
        exact ⟨⟨_, rfl⟩, .inr ⟨_, ⟨k + 1, by omega, by rw [upto_succ, eF]⟩, hJx3⟩⟩
    · obtain rfl : k = len := by omega
      have e1 : (k : Int) - 1 - (k : Int) = -1 := by omega
      rw [e1]
      gi_wp2
      go_end0
      exact ⟨⟨_, rfl⟩, .inl ⟨_, rfl, hJs⟩⟩
theorem backward_in (F : Fence) (n : Nat) (h6 : F.fn 39) (hro : F.round = none) (a : Option Addr) (len cap : Nat) (w : World) :
    CallsIn F n Try.prog 39 #[.slice a len cap] w fun e w' => e = .returned (.func (.func 55) #[] #[.pointer (some ⟨w.heap.size, 0, none⟩)]) ∧ w' = w.alloc (.cells #[.slice a len cap] 23) := by
  refine callsIn_of_wp Try.func39 rfl h6 ?_ hro
  simp only [Try.ntmps39, List.size_toArray, List.length_cons, List.length_nil, Nat.reduceAdd, Nat.reduceSub, Array.replicate_succ, Array.replicate_zero, List.push_toArray, List.append_toArray, List.nil_append, List.cons_append]
  gi_wp2
  go_ret
  exact ⟨rfl, rfl⟩
set_option maxHeartbeats 1000000 in
theorem back1_nil_in (F : Fence) (n : Nat) (h8 : F.fn 55) (hro : F.round = none) (l Bs : Nat) (J : List (Nat × Int) → World → Prop) (W : World) (A : Option Addr) (cap : Nat) (hBs : W.cell? ⟨Bs, 0, none⟩ = some (.slice A 0 cap)) (h0 : J [] W) :
    CallsIn F n Try.prog 55 #[.func (.yield l) #[] #[], .pointer (some ⟨Bs, 0, none⟩)] W fun e W' => (∃ v, e = .returned v) ∧ J [] W' := by
  refine callsIn_of_wp Try.func55 rfl h8 ?_ hro
  simp only [Try.ntmps55, List.size_toArray, List.length_cons, List.length_nil, Nat.reduceAdd, Nat.reduceSub, Array.replicate_succ, Array.replicate_zero, List.push_toArray, List.append_toArray, List.nil_append, List.cons_append]
  gi_wp2
  gi_loopw [3] (fun i wr => i = .int .i64 (-1) ∧ J [] wr) (fun _ _ => 0)
  case atStart => exact ⟨rfl, h0⟩
  case round =>
    obtain ⟨rfl, hJs⟩ := hrel
    gi_wp2
    go_end0
    exact ⟨⟨_, rfl⟩, hJs⟩
def Bytes8 (n₀ : Nat) (W : World) (sv : Value) (zs : List Int) : Prop :=
  (∃ A cap, sv = .slice A 0 cap ∧ zs = []) ∨ ∃ ad cap, sv = .slice (some ad) zs.length cap ∧ ad.block < n₀ ∧ ∀ j, j < zs.length → W.cell? (ad.add j) = some (.int .u8 (zs[j]?.getD 0))
theorem Bytes8.below {n₀ : Nat} {A B : World} (h : Below n₀ A B) {sv : Value} {zs : List Int} : Bytes8 n₀ A sv zs → Bytes8 n₀ B sv zs
  | .inl e => .inl e
  | .inr ⟨ad, cap, e, hb, hc⟩ => .inr ⟨ad, cap, e, hb, fun j hj => (h.cell (p := ad.add j) (by rw [add_blk]; exact hb)).trans (hc j hj)⟩
theorem back_stops (F : Fence) (n : Nat) (h8 : F.fn 55) (hro : F.round = none) (hn : 1 ≤ n) (Bs n₀ : Nat) (sv : Value) (zs : List Int) (hreach : zs.length ≤ 1000000) (w : World) (hBs : Bs < w.heap.size) (hn₀ : n₀ ≤ w.heap.size)
    (hc : w.cell? ⟨Bs, 0, none⟩ = some sv) (hI : Bytes8 n₀ w sv zs) :
    SeqStopsK F n Try.prog 55 #[.pointer (some ⟨Bs, 0, none⟩)] (fun x : Nat × Int => #[Value.int .i64 (x.1 : Int), Value.int .u8 x.2]) (KpB n₀ Bs) (fun ys => ys = upto (backF zs zs.length) zs.length)
      (fun pre => ∃ k, k ≤ zs.length ∧ pre = upto (backF zs zs.length) k) zs.length w := fun l J Jx W hW _ _ hY h0 => by
  have hc' := (hW.cell (p := ⟨Bs, 0, none⟩) hBs).trans hc
  rcases hI.below (hW.mono hn₀) with ⟨A, cap, rfl, rfl⟩ | ⟨ad, cap, rfl, hb, hcs⟩
  · exact (back1_nil_in F n h8 hro l Bs J W A cap hc' h0).mono fun e W' ⟨he, hj⟩ => ⟨he, .inl ⟨_, rfl, hj⟩⟩
  · exact back1_in F n h8 hro hn l Bs n₀ zs.length cap ad zs hreach hb J Jx hY W hc' hcs h0
theorem kpB_b {w : World} {n₀ Bs : Nat} (hn : n₀ ≤ w.heap.size) : ∀ (W : World) (l : Nat) (o o' : Obj), w.heap.size ≤ l → W.heap[l]? = some o → o.isCells = false → o.isWalk = false → KpB n₀ Bs W (W.putObj l o') :=
  fun W l o o' h1 h2 h3 h4 => ⟨belowK_b hn W l o o' h1 h2 h3 h4, fun v hv => cell_kept hv (grownBy_putObj' _ l o') (fun r e => by cases e; exact ⟨_, h2, h3⟩)⟩
/-- One step back. -/
def lessStep (back s x : Int) : Int := Go.bits .xor .u64 (IntKind.u64.wrap (s * back)) (IntKind.u64.wrap x)
def lessP (back s : Int) (pre : List (Nat × Int)) : Int := pre.foldl (fun s p => lessStep back s p.2) s
theorem lessP_snoc (back s : Int) (pre : List (Nat × Int)) (x : Nat × Int) : lessP back s (pre ++ [x]) = lessStep back (lessP back s pre) x.2 := by simp [lessP]
set_option maxRecDepth 100000 in
set_option maxHeartbeats 2000000 in
theorem less_in (F : Fence) (n : Nat) (h3 : F.fn 16) (h5 : F.fn 39) (h38 : F.fn 38) (h7 : F.fn 55) (hro : F.round = none) (hn : 3 ≤ n) (back sum : Int)
    (hu : ∀ w, CallsIn F (n - 1) Try.prog 38 #[] w fun e w' => e = .returned (.int .u64 back) ∧ Drawn0 w w')
    (a : Option Addr) (len cap : Nat) (zs : List Int) (hreach : zs.length ≤ 1000000) (w : World) (hI : Bytes8 w.heap.size w (.slice a len cap) zs) :
    CallsIn F n Try.prog 16 #[.int .u64 sum, .slice a len cap] w fun e W' => e = .returned (.int .u64 (lessP back sum (upto (backF zs zs.length) zs.length))) ∧ Below w.heap.size w W' := by
  have h1 : 1 ≤ n := by omega
  refine callsIn_of_wp_marks Try.func16 rfl h3 ?_ hro
  simp only [Try.ntmps16, List.size_toArray, List.length_cons, List.length_nil, Nat.reduceAdd, Nat.reduceSub, Array.replicate_succ, Array.replicate_zero, List.push_toArray, List.append_toArray, List.nil_append, List.cons_append]
  gi_wp2_with (first | (gi_at_call 38; refine (hu _).mono ?_; rintro e w' ⟨rfl, nd, rfl⟩) | (gi_at_call 39; refine (backward_in F (n - 1) h5 hro _ _ _ _).mono ?_; rintro e w' ⟨rfl, rfl⟩))
  have bS0 := Boxed.new w 22 (.int .u64 sum)
  have bS1 : Boxed ((w.alloc (.cells #[.int .u64 sum] 22)).drewN nd) w.heap.size 22 (.int .u64 sum) := bS0
  have bK0 := Boxed.new ((w.alloc (.cells #[.int .u64 sum] 22)).drewN nd) 22 (.int .u64 back)
  have bB := Boxed.new (((w.alloc (.cells #[.int .u64 sum] 22)).drewN nd).alloc (.cells #[.int .u64 back] 22)) 23 (.slice a len cap)
  have hz : ((w.alloc (.cells #[.int .u64 sum] 22)).drewN nd).heap.size = w.heap.size + 1 := by simp
  have hz2 : (((w.alloc (.cells #[.int .u64 sum] 22)).drewN nd).alloc (.cells #[.int .u64 back] 22)).heap.size = w.heap.size + 1 + 1 := by simp
  rw [hz] at bK0
  rw [hz2] at bB
  have bS := (bS1.alloc (.cells #[.int .u64 back] 22)).alloc (.cells #[.slice a len cap] 23)
  have bK := bK0.alloc (.cells #[.slice a len cap] 23)
  have hB0 : Below w.heap.size w ((((w.alloc (.cells #[.int .u64 sum] 22)).drewN nd).alloc (.cells #[.int .u64 back] 22)).alloc (.cells #[.slice a len cap] 23)) :=
    ((pw_below_drewN ((Below.refl _ w).alloc (Nat.le_refl _) _) nd).alloc (by simp) _).alloc (by simp; omega) _
  have hsz : ((((w.alloc (.cells #[.int .u64 sum] 22)).drewN nd).alloc (.cells #[.int .u64 back] 22)).alloc (.cells #[.slice a len cap] 23)).heap.size = w.heap.size + 3 := by simp
  generalize ((((w.alloc (.cells #[.int .u64 sum] 22)).drewN nd).alloc (.cells #[.int .u64 back] 22)).alloc (.cells #[.slice a len cap] 23)) = W0 at *
  refine wpIn_rangeFunc_ownG hro h1 (gf := 55) (lb := #[.pointer (some ⟨w.heap.size + 1 + 1, 0, none⟩)]) rfl h7 (enters_of Try.func55 (by kernel_rfl) rfl)
    (back_stops F (n - 1) h7 hro (by omega) (w.heap.size + 1 + 1) w.heap.size _ zs hreach _ (by omega) (by omega) bB.cell (hI.below hB0)) (fun h k => KpB.trans h k) (kpB_b (by omega)) (Below.refl _ _) (fun _ => rfl)
    (fun pre W => ((W.cell? ⟨w.heap.size, 0, none⟩ = some (.int .u64 (lessP back sum pre)) ∧ W.frozen? ⟨w.heap.size, 0, none⟩ = false) ∧ W.cell? ⟨w.heap.size + 1, 0, none⟩ = some (.int .u64 back)) ∧ Below w.heap.size w W)
    (fun _ _ _ => False)
    (OwnFrom.and (Own.from (fun s A B row hs hg hr => ⟨⟨cell_kept hs.1.1 hg hr, (frozen_kept hs.1.1 hg hr).trans hs.1.2⟩, cell_kept hs.2 hg hr⟩) _) (ownFrom_below (Nat.le_refl _) (by omega)))
    (fun _ _ _ _ _ hs _ _ => hs)
    ⟨⟨⟨bS.cell, bS.frozen⟩, bK.cell⟩, hB0⟩
    (fun x => { tmps := #[.int .u64 sum, .slice a len cap, .pointer (some ⟨w.heap.size, 0, none⟩), undef, .int .u64 0, .pointer (some ⟨w.heap.size + 1, 0, none⟩), undef, .int .u8 x.2, .int .u64 back, .slice a len cap, .func (.func 55) #[] #[.pointer (some ⟨w.heap.size + 1 + 1, 0, none⟩)], .int .i64 (x.1 : Int), .int .u8 x.2, undef, undef, undef, undef, undef, undef, undef], defers := [] }) ?assign ?body ?done ?stop
  case assign =>
    intro l x W K hK
    gi_wp2
    exact hK
  case body =>
    rintro l pre x W ⟨⟨⟨hc, hf⟩, hk⟩, hB⟩ _
    gi_wp2
    have hne : ∀ v, (W.setCell ⟨w.heap.size, 0, none⟩ v).cell? ⟨w.heap.size + 1, 0, none⟩ = W.cell? ⟨w.heap.size + 1, 0, none⟩ := fun v => by go_simp
    have hne2 : ∀ v, (W.setCell ⟨w.heap.size, 0, none⟩ v).cell? ⟨w.heap.size + 1 + 1, 0, none⟩ = W.cell? ⟨w.heap.size + 1 + 1, 0, none⟩ := fun v => by go_simp
    exact ⟨(KeepsOthers.setCell _ _ _).from _, ⟨(Below.refl w.heap.size W).setCell (p := ⟨w.heap.size, 0, none⟩) (Nat.le_refl _) _, fun v hv => by rw [hne2]; exact hv⟩, ⟨⟨by rw [lessP_snoc]; exact World.cell?_setCell_same' _ _ _ (by rw [hc]; rfl), by rw [World.frozen?_setCell]; exact hf⟩, by rw [hne]; exact hk⟩, hB.setCell (p := ⟨w.heap.size, 0, none⟩) (Nat.le_refl _) _⟩
  case done =>
    rintro D ys W hD rfl ⟨⟨⟨hc, _⟩, _⟩, hB⟩ hK
    gi_wp2
    refine ⟨by simp, .inl ⟨_, _, rfl, run_takeDeferred hK, ?_⟩⟩
    exact ⟨_, results_tmp rfl _ _ _, rfl, hB.trans (belowK_b (w := w) (Nat.le_refl _) W D _ _ (by omega) hK rfl rfl)⟩
  case stop =>
    rintro D c pre W _ _ h _
    exact h.elim
theorem cell_block_lt {w : World} {a : Addr} {v : Value} (h : w.cell? a = some v) : a.block < w.heap.size := by
  unfold World.cell? at h
  split at h
  · next hb => exact (Array.getElem?_eq_some_iff.1 hb).1
  · cases h
theorem Bytes8.ofC {w : World} {A : Option Addr} {c : Nat} {zs : List Int} (h : Kd.C (Kd.int .u8) w A zs.length zs) : Bytes8 w.heap.size w (.slice A zs.length c) zs := by
  by_cases h0 : zs.length = 0
  · have : zs = [] := List.eq_nil_of_length_eq_zero h0
    subst this
    exact .inl ⟨A, c, rfl, rfl⟩
  · obtain ⟨ad, rfl, hx⟩ := Kd.at_int h 0 (Int.le_refl _) (by omega)
    refine .inr ⟨ad, c, rfl, ?_, fun j hj => ?_⟩
    · have := cell_block_lt hx
      rwa [add_blk] at this
    · obtain ⟨ad', e, hy⟩ := Kd.at_int h (j : Int) (by omega) (by omega)
      cases e
      rw [Int.toNat_natCast] at hy
      rw [hy]
      simp [rd, List.getD_eq_getElem?_getD]
end
def lessTo (back s : Int) (l : List Int) : Int := lessP back s (upto (backF l l.length) l.length)
def fnv_Less.f (k : Nat) (a0 : Int) (l1 : List Int) : Option Int := if l1.length ≤ 1000000 then (fnv_undo.f k).bind fun back => some (lessTo back a0 l1) else none
theorem fnv_Less.mono : ∀ a0 a1 k, LeO (fnv_Less.f k a0 a1) (fnv_Less.f (k + 1) a0 a1) := by
  intro a0 a1 k r h
  unfold fnv_Less.f at h ⊢
  split at h
  · next hl =>
    rw [if_pos hl]
    obtain ⟨b, hb, h⟩ := Option.bind_eq_some_iff.mp h
    rw [fnv_undo.mono k b hb]
    exact h
  · cases h
theorem fnv_Less.calls (k : Nat) (a0 : Int) (A1 : Option Addr) (c1 : Nat) (l1 : List Int) (r : Int) (w : World) (hr1 : Kd.C (Kd.int .u8) w A1 l1.length l1) (hc1 : l1.length ≤ c1) (h : fnv_Less.f k a0 l1 = some r) :
    Calls Try.prog 16 #[.int .u64 a0, .slice A1 l1.length c1] w fun e w' => e = .returned (.int .u64 r) ∧ Below w.heap.size w w' := by
  unfold fnv_Less.f at h
  split at h
  · next hl =>
    obtain ⟨b, hb, h⟩ := Option.bind_eq_some_iff.mp h
    obtain rfl := Option.some.inj h
    exact (callsIn_wide (n := 3)).1 (less_in Fence.wide 3 trivial trivial trivial trivial rfl (Nat.le_refl _) b a0 (fun w => callsIn_wide.2 (fnv_undo.calls k b w hb)) A1 l1.length c1 l1 hl w (Bytes8.ofC hr1))
  · cases h

end Go.Proofs.Ytgbndakiiblhmaa.N
