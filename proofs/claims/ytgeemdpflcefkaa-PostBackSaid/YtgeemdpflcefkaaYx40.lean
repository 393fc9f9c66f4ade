import Derived.Test.YtgeemdpflcefkaaYx0
import Derived.Test.YtgeemdpflcefkaaYx2
namespace Go.Proofs.Ytgeemdpflcefkaa.Y
open Go.RowKit Go.Proofs.YtgeemdpflcefkaaW.PrintWords Go.Proofs.YtgeemdpflcefkaaW.PrintLast Go.Proofs.YtgeemdpflcefkaaW.PrintMore
attribute [local go_sem] max2_int min2_int max_two min_two max_three min_three max_four min_four   -- for this text's walks alone
set_option linter.unusedVariables false
set_option linter.unusedSimpArgs false
/-- One value, put ahead of a row. -/
def slices_Insert_int_int.f (l0 : List Int) (a1 : Int) (l2 : List Int) : Option (List Int) := if a1 = 0 ∧ l2.length = 1 ∧ l0.length < 1000000 then some (l2 ++ l0) else none
theorem slices_Insert_int_int.calls (P0_ : Nat → Prop) (u9000_ : Value) (l0 : List Int) (a1 : Int) (P2_ : Nat → Prop) (u9001_ : Value) (l2 : List Int) (r : List Int) (w0 w : World) (hB : Below w0.heap.size w0 w) (ho0 : Kd.R (Kd.int .i64) 3 w w0.heap.size P0_ u9000_ l0) (hp0_2 : ∀ k_, P0_ k_ → ¬ P2_ k_)
   (ho2 : Kd.R (Kd.int .i64) 3 w w0.heap.size P2_ u9001_ l2) (hp2_0 : ∀ k_, P2_ k_ → ¬ P0_ k_) (h : slices_Insert_int_int.f l0 a1 l2 = some r) :
   Calls Try.prog 84 #[u9000_, .int .i64 a1, u9001_] w fun e w' => ∃ v0_ : Value, e = .returned (v0_) ∧ Kd.R (Kd.int .i64) 3 w' w0.heap.size (fun k_ => ((P0_ k_ ∨ P2_ k_) ∨ w.heap.size ≤ k_)) v0_ r ∧ Below w0.heap.size w0 w' ∧ Kept w w' (fun k_ => P0_ k_ ∨ P2_ k_) := by
 unfold slices_Insert_int_int.f at h
 by_cases hc : ¬ (a1 = 0 ∧ l2.length = 1 ∧ l0.length < 1000000)
 · rw [if_neg hc] at h
   cases h
 replace hc := Classical.not_not.1 hc
 rw [if_pos hc] at h
 obtain ⟨rfl, h2, h3⟩ := hc
 obtain rfl := Option.some.inj h
 obtain ⟨x, rfl⟩ : ∃ x, l2 = [x] := by
   match l2, h2 with
   | [x], _ => exact ⟨x, rfl⟩
 obtain ⟨g2, c2, rfl, hg2, hl2, _⟩ := Kd.R_form ho2 (by simp)
 obtain ⟨_, _, hP2, hn2, hm2, cur2, hs2, hb2, hc2⟩ := R_to_cells ho2
 have hx : w.cell? ⟨g2, 0, none⟩ = some (.int .i64 x) := hc2 0 (by simp)
 have hvs : ∀ j v, ([Value.int .i64 x] : List Value)[j]? = some v → w.cell? ⟨g2, 0 + j, none⟩ = some v := by
   intro j v hj
   cases j with
   | zero =>
     simp only [List.getElem?_cons_zero, Option.some.injEq] at hj
     rw [← hj]
     exact hx
   | succ j => simp at hj
 have hgrow : ∀ (w' : World) (cap : Nat) (cur : Array Value), w'.heap[w.heap.size]? = some (.cells cur 3 (0, 0)) → l0.length + 1 ≤ cap → cap ≤ maxLen → cur.size = cap → w'.cell? ⟨w.heap.size, 0, none⟩ = some (.int .i64 x) → (∀ j (h : j < l0.length), w'.cell? ⟨w.heap.size, j + 1, none⟩ = some (.int .i64 l0[j])) → Below w.heap.size w w' →
     ∃ v0_ : Value, Ending.returned (.slice (some ⟨w.heap.size, 0, none⟩) (l0.length + 1) cap) = .returned (v0_) ∧ Kd.R (Kd.int .i64) 3 w' w0.heap.size (fun k_ => ((P0_ k_ ∨ P2_ k_) ∨ w.heap.size ≤ k_)) v0_ ([x] ++ l0) ∧ Below w0.heap.size w0 w' ∧ Kept w w' (fun k_ => P0_ k_ ∨ P2_ k_) := by
   intro w' cap cur hb hcap hm hs hx0 hxs hbw
   refine ⟨_, rfl, ?_, below_then hB hB.size hbw, Kept.of_below hbw _⟩
   have hr := R_of_cells (e := 3) (base := w0.heap.size) (ok := fun k_ => ((P0_ k_ ∨ P2_ k_) ∨ w.heap.size ≤ k_)) (xs := [x] ++ l0) hb hB.size (by simpa using hcap) hm hs (fun j hj => by
     cases j with
     | zero => exact hx0
     | succ j => exact hxs j (by simpa using hj)) (.inr (Nat.le_refl _))
   simpa using hr
 have hsame : ∀ (g cap : Nat) (w' : World) (cur : Array Value), P0_ g → w0.heap.size ≤ g → w'.heap[g]? = some (.cells cur 3 (0, 0)) → l0.length + 1 ≤ cap → cap ≤ maxLen → cur.size = cap → w'.cell? ⟨g, 0, none⟩ = some (.int .i64 x) → (∀ j (h : j < l0.length), w'.cell? ⟨g, j + 1, none⟩ = some (.int .i64 l0[j])) → Below g w w' → Kept w w' (fun k => k = g) →
     ∃ v0_ : Value, Ending.returned (.slice (some ⟨g, 0, none⟩) (l0.length + 1) cap) = .returned (v0_) ∧ Kd.R (Kd.int .i64) 3 w' w0.heap.size (fun k_ => ((P0_ k_ ∨ P2_ k_) ∨ w.heap.size ≤ k_)) v0_ ([x] ++ l0) ∧ Below w0.heap.size w0 w' ∧ Kept w w' (fun k_ => P0_ k_ ∨ P2_ k_) := by
   intro g cap w' cur hP hg hb hcap hm hs hx0 hxs hbw hk
   refine ⟨_, rfl, ?_, hB.trans (hbw.mono hg), Kept.mono hk (fun k hk => .inl (by rw [hk]; exact hP))⟩
   have hr := R_of_cells (e := 3) (base := w0.heap.size) (ok := fun k_ => ((P0_ k_ ∨ P2_ k_) ∨ w.heap.size ≤ k_)) (xs := [x] ++ l0) hb hg (by simpa using hcap) hm hs (fun j hj => by
     cases j with
     | zero => exact hx0
     | succ j => exact hxs j (by simpa using hj)) (.inl (.inl hP))
   simpa using hr
 have h1v : ∀ v ∈ ([Value.int .i64 x] : List Value), v.oneCell' = true := by
   intro v hv
   rw [List.mem_singleton.1 hv]
   rfl
 have h1c : ∀ v ∈ l0.map (Value.int .i64), v.oneCell' = true := by
   intro v hv
   obtain ⟨y, _, rfl⟩ := List.mem_map.1 hv
   rfl
 have hml : maxLen = 9223372036854775807 := rfl
 have hend : ∀ (base : Option Addr) (c : Nat), l0 = [] → c = 0 → Calls Try.prog 84 #[.slice base l0.length c, .int .i64 0, .slice (some ⟨g2, 0, none⟩) ([x] : List Int).length c2] w fun e w' => ∃ v0_ : Value, e = .returned (v0_) ∧ Kd.R (Kd.int .i64) 3 w' w0.heap.size (fun k_ => ((P0_ k_ ∨ P2_ k_) ∨ w.heap.size ≤ k_)) v0_ ([x] ++ l0) ∧ Below w0.heap.size w0 w' ∧ Kept w w' (fun k_ => P0_ k_ ∨ P2_ k_) := by
   intro base c hl hc
   subst hl hc
   refine (Any2.slices_Insert_int_end_grow Try.laysNm221 base 0 0 g2 0 1 c2 [] [.int .i64 x] w (by decide) (by decide) (by decide) (by decide) rfl rfl (fun _ => rfl) (fun a h j v hj => by simp at hj) hvs h1v).mono ?_
   rintro e w' ⟨rfl, rfl⟩
   simp only [show Try.laysNm221_ren.t 3 = 3 from rfl]
   have hge := grownCap_ge w (0 + 1) 0 3
   have hle := grownCap_le_maxLen w (0 + 1) 0 3 (by rw [hml]; omega)
   have hsz : ∀ (G : Nat), 0 + 1 ≤ G → ((([] : List Value) ++ [Value.int .i64 x]).toArray ++ Builtin.zeroCells (Value.int .i64 0).cells (G - (0 + 1))).size = G := by
     intro G hG
     have h1 : (Value.int IntKind.i64 0).cells.size = 1 := rfl
     rw [Array.size_append, size_zeroCells, h1]
     show 1 + _ = G
     omega
   have hz0 : ∀ (Z : Array Value), ((([] : List Value) ++ [Value.int .i64 x]).toArray ++ Z)[0]? = some (.int .i64 x) := by
     intro Z
     rw [Array.getElem?_append_left (by simp)]
     rfl
   have hsz2 := hsz _ hge
   have hz2 := hz0 (Builtin.zeroCells (Value.int .i64 0).cells (grownCap w (0 + 1) 0 3 - (0 + 1)))
   generalize ((([] : List Value) ++ [Value.int .i64 x]).toArray ++ Builtin.zeroCells (Value.int .i64 0).cells (grownCap w (0 + 1) 0 3 - (0 + 1))) = arr at hsz2 hz2
   generalize grownCap w (0 + 1) 0 3 = G at hge hle hsz2
   have hba : (w.drew.alloc (.cells arr 3)).heap[w.heap.size]? = some (.cells arr 3 (0, 0)) := heap_alloc_new w.drew _
   refine hgrow _ G _ hba hge hle hsz2 ?_ (fun j h => absurd h (Nat.not_lt_zero _)) ?_
   · exact (blk_cell hba 0).trans hz2
   · exact below_alloc (below_drew (Below.refl _ _)) _
 obtain ⟨A0, c0, rfl⟩ := Kd.R_slice ho0
 cases A0 with
 | none =>
   have h0 : l0 = [] := by
     rcases Nat.eq_zero_or_pos l0.length with h0 | h0
     · exact List.eq_nil_of_length_eq_zero h0
     · obtain ⟨g, cap, he, _⟩ := Kd.R_form ho0 h0
       cases he
   have hc0 : c0 = 0 := by
     obtain ⟨_, ho⟩ := Kd.own_of_R ho0
     rcases ho with ⟨he, _⟩ | ⟨g', cap', cur, he, _⟩
     · injection he
     · cases he
   exact hend none c0 h0 hc0
 | some a0 =>
   obtain ⟨g, rfl⟩ := Kd.R_head ho0
   obtain ⟨_, hg, hP, hn, hm, cur, hs, hb, hcl⟩ := R_to_cells ho0
   have hne : g2 ≠ g := fun e => hp0_2 g hP (e ▸ hP2)
   have hcs : ∀ j v, (l0.map (Value.int .i64))[j]? = some v → w.cell? ⟨g, 0 + j, none⟩ = some v := by
     intro j v hj
     rw [List.getElem?_map] at hj
     obtain ⟨y, hy, rfl⟩ := Option.map_eq_some_iff.1 hj
     obtain ⟨hjl, rfl⟩ := List.getElem?_eq_some_iff.1 hy
     rw [Nat.zero_add]
     exact hcl j hjl
   have hcc : ∀ j, j < c0 → w.cell? ⟨g, j, none⟩ = some cur[j]! := by
     intro j hj
     rw [blk_cell hb j, getElem!_pos cur j (by omega), Array.getElem?_eq_getElem (by omega)]
   have hfz : ∀ j, w.frozen? ⟨g, j, none⟩ = false := fun j => blk_frozen hb j
   by_cases hz : l0.length = 0
   · have h0 : l0 = [] := List.eq_nil_of_length_eq_zero hz
     by_cases hcz : c0 = 0
     · exact hend (some ⟨g, 0, none⟩) c0 h0 hcz
     subst h0
     refine (Any2.slices_Insert_int_end_room Try.laysNm221 g 0 0 c0 g2 0 1 c2 [.int .i64 x] w (by decide) (by omega) (by rw [hml] at hm; exact hm) rfl (fun j hj => ?_) (fun j hj => hfz _) hvs h1v).mono ?_
     · rw [hcc _ (by omega)]
       rfl
     · rintro e w' ⟨rfl, rfl⟩
       obtain ⟨cur', hs', hb'⟩ := setCells_blk g [Value.int .i64 x] (0 + 0) w cur hb
       exact hsame g c0 _ cur' hP hg hb' (by simp; omega) hm (by omega) (World.cell?_setCells_in g [Value.int .i64 x] (0 + 0) w (fun j hj => by rw [hcc _ (by simp at hj; omega)]; rfl) 0 (by simp)) (fun j h => absurd h (Nat.not_lt_zero _)) (setCells_below g _ _ _) (setCells_kept g _ _ _)
   by_cases hroom : l0.length + 1 ≤ c0
   · have hW1 : ∀ j, (w.drew.setCells g 1 (l0.map (Value.int .i64))).cell? ⟨g, j, none⟩ = if h : 1 ≤ j ∧ j - 1 < l0.length then some (.int .i64 l0[j - 1]) else w.cell? ⟨g, j, none⟩ := by
       intro j
       by_cases h : 1 ≤ j ∧ j - 1 < l0.length
       rotate_left
       · rw [dif_neg h]
         refine Eq.trans (World.cell?_setCells_out g _ 1 w.drew ⟨g, j, none⟩ (fun _ _ => ?_)) rfl
         simp
         omega
       rw [dif_pos h]
       have h1 := World.cell?_setCells_in g (l0.map (Value.int .i64)) 1 w.drew (fun i hi => by
         show (w.cell? ⟨g, 1 + i, none⟩).isSome = true
         rw [hcc _ (by simp at hi; omega)]
         rfl) (j - 1) (by simpa using h.2)
       rw [show 1 + (j - 1) = j by omega] at h1
       rw [h1]
       simp
     refine (Any2.slices_Insert_int_shift Try.laysNm221 g 0 l0.length c0 0 g2 0 1 c2 (l0.map (Value.int .i64)) [.int .i64 x] w (by omega) (by decide) hroom (by rw [hml] at hm; exact hm) hne (by simp) rfl hcs (fun j hj => ?_) (fun j hj => hfz _) hvs h1c h1v 3 3 cur2.size cur.size ?_ ?_ (by omega) (blk_frozen hb2 _) (blk_frozen hb2 _)).mono ?_
     · rw [hcc _ (by omega)]
       rfl
     · simp [World.shape?, hb2]
     · simp [World.shape?, hb]
     · rintro e w' ⟨rfl, rfl⟩
       obtain ⟨cur', hs', hb'⟩ := setCells_blk g (l0.map (Value.int .i64)) 1 w.drew cur hb
       obtain ⟨cur3, hs3, hb3⟩ := setCells_blk g [Value.int .i64 x] 0 _ cur' hb'
       refine hsame g c0 _ cur3 hP hg hb3 hroom hm (by omega) (World.cell?_setCells_in g [Value.int .i64 x] 0 _ (fun j hj => ?_) 0 (by simp)) (fun j h => ?_) ?_ ?_
       · obtain rfl : j = 0 := by simpa using hj
         show ((w.drew.setCells g 1 (l0.map (Value.int .i64))).cell? ⟨g, 0 + 0, none⟩).isSome = true
         rw [hW1 (0 + 0), dif_neg (by omega), hcc _ (by omega)]
         rfl
       · refine Eq.trans (World.cell?_setCells_out g [Value.int .i64 x] 0 _ ⟨g, j + 1, none⟩ (fun _ _ => by simp)) ?_
         show (w.drew.setCells g 1 (l0.map (Value.int .i64))).cell? ⟨g, j + 1, none⟩ = _
         rw [hW1 (j + 1), dif_pos ⟨by omega, by simpa using h⟩]
         simp
       · exact ((Below.refl g w).drew.trans (setCells_below g (l0.map (Value.int .i64)) 1 w.drew)).trans (setCells_below g _ 0 _)
       · exact Kept.then_ (Kept.then_ (Kept.drew (Kept.refl w _)) (setCells_kept g (l0.map (Value.int .i64)) 1 w.drew) (fun _ h => .inl h)) (setCells_kept g _ 0 _) (fun _ h => .inl h)
   refine (Any2.slices_Insert_int_grow Try.laysNm221 g 0 l0.length c0 0 g2 0 1 c2 (l0.map (Value.int .i64)) [.int .i64 x] w (by omega) (by decide) hn (by omega) (by omega) (by simp) rfl hcs hvs h1c h1v).mono ?_
   rintro e w' ⟨rfl, rfl⟩
   simp only [show Try.laysNm221_ren.t 3 = 3 from rfl]
   have hge := grownCap_ge w (l0.length + 1) c0 3
   have hle := grownCap_le_maxLen w (l0.length + 1) c0 3 (by rw [hml]; omega)
   have hsz : ∀ (G : Nat), l0.length + 1 ≤ G → (((l0.map (Value.int .i64)).take 0).toArray ++ Builtin.zeroCells (Value.int .i64 0).cells (l0.length + 1 - 0) ++ Builtin.zeroCells (Value.int .i64 0).cells (G - (l0.length + 1))).size = G := by
     intro G hG
     have h1 : (Value.int IntKind.i64 0).cells.size = 1 := rfl
     simp [size_zeroCells, h1]
     omega
   have hsz2 := hsz _ hge
   generalize (((l0.map (Value.int .i64)).take 0).toArray ++ Builtin.zeroCells (Value.int .i64 0).cells (l0.length + 1 - 0) ++ Builtin.zeroCells (Value.int .i64 0).cells (grownCap w (l0.length + 1) c0 3 - (l0.length + 1))) = arr at hsz2
   generalize grownCap w (l0.length + 1) c0 3 = G at hge hle hsz2
   have hba : (w.alloc (.cells arr 3)).drew.heap[w.heap.size]? = some (.cells arr 3 (0, 0)) := heap_alloc_new w _
   have hca : ∀ j, j < G → ((w.alloc (.cells arr 3)).drew.cell? ⟨w.heap.size, j, none⟩).isSome = true := by
     intro j hj
     rw [blk_cell hba j, Array.getElem?_eq_getElem (by omega)]
     rfl
   obtain ⟨cur', hs', hb'⟩ := setCells_blk w.heap.size [Value.int .i64 x] 0 _ arr hba
   obtain ⟨cur3, hs3, hb3⟩ := setCells_blk w.heap.size (l0.map (Value.int .i64)) 1 ((w.alloc (.cells arr 3)).drew.setCells w.heap.size 0 [Value.int .i64 x]).drew cur' hb'
   have hx1 : ((w.alloc (.cells arr 3)).drew.setCells w.heap.size 0 [Value.int .i64 x]).drew.cell? ⟨w.heap.size, 0 + 0, none⟩ = some (.int .i64 x) :=
     World.cell?_setCells_in w.heap.size [Value.int .i64 x] 0 _ (fun j hj => by
       obtain rfl : j = 0 := by simpa using hj
       exact hca _ (by omega)) 0 (by simp)
   refine hgrow _ G cur3 hb3 hge hle (by omega) ?_ (fun j h => ?_) ?_
   · exact Eq.trans (World.cell?_setCells_out w.heap.size _ 1 _ ⟨w.heap.size, 0, none⟩ (fun _ _ => by simp)) hx1
   · have h1 := World.cell?_setCells_in w.heap.size (l0.map (Value.int .i64)) 1 ((w.alloc (.cells arr 3)).drew.setCells w.heap.size 0 [Value.int .i64 x]).drew (fun i hi => by
       have h2 := World.cell?_setCells_out w.heap.size [Value.int .i64 x] 0 (w.alloc (.cells arr 3)).drew ⟨w.heap.size, 1 + i, none⟩ (fun _ _ => by first | (simp; done) | (simp; omega))
       have h3 := hca (1 + i) (by simp at hi; omega)
       rw [← h2] at h3
       exact h3) j (by simpa using h)
     rw [Nat.add_comm] at h1
     refine Eq.trans h1 ?_
     simp
   · exact ((below_alloc (Below.refl _ _) _).drew.trans (setCells_below w.heap.size _ 0 _)).drew.trans (setCells_below w.heap.size _ 1 _)
end Go.Proofs.Ytgeemdpflcefkaa.Y
