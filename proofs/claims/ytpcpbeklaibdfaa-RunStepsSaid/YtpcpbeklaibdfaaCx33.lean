import Derived.Test.YtpcpbeklaibdfaaCx0
import Derived.Test.YtpcpbeklaibdfaaCx13
import Derived.Test.YtpcpbeklaibdfaaCx17
import Derived.Test.YtpcpbeklaibdfaaCx18
import Derived.Test.YtpcpbeklaibdfaaCx24
import Derived.Test.YtpcpbeklaibdfaaCx25
import Derived.Test.YtpcpbeklaibdfaaCx27
import Derived.Test.YtpcpbeklaibdfaaCx28
import Derived.Test.YtpcpbeklaibdfaaCx30
import Derived.Test.YtpcpbeklaibdfaaCx31
import Derived.Test.YtpcpbeklaibdfaaCx32
namespace Go.Proofs.Ytpcpbeklaibdfaa.C
open Go.RowKit Go.Proofs.YtpcpbeklaibdfaaW.PrintWords Go.Proofs.YtpcpbeklaibdfaaW.PrintLast Go.Proofs.YtpcpbeklaibdfaaW.PrintMore
attribute [local go_sem] max2_int min2_int max_two min_two max_three min_three max_four min_four   -- for this text's walks alone
set_option linter.unusedVariables false
set_option linter.unusedSimpArgs false
def doesB (k x y c d ch : Int) (vs : List Int) : Int × List Int := if k = 1 then (0, vs) else if k = 2 then letB vs x y c else if k = 3 then takeB vs x c d ch else if k = 4 then (limB vs x y c, vs) else ((if limB vs x y c = 0 then 0 else 131), vs)
/-- Where an edge leads. -/
def stepB (a1 : Int) (vs : List Int) (ed ch : Int) (l3 : List S57) : Int × List Int × Int :=
  if 0 ≤ ed ∧ ed < l3.length then
    (if (rd_T57 l3 ed).f0 = a1 then
      (if (doesB (rd_T57 l3 ed).f2.f0 (rd_T57 l3 ed).f2.f1 (rd_T57 l3 ed).f2.f2 (rd_T57 l3 ed).f2.f3 (rd_T57 l3 ed).f2.f4 ch vs).1 = 0 then ((rd_T57 l3 ed).f1, (doesB (rd_T57 l3 ed).f2.f0 (rd_T57 l3 ed).f2.f1 (rd_T57 l3 ed).f2.f2 (rd_T57 l3 ed).f2.f3 (rd_T57 l3 ed).f2.f4 ch vs).2, 0)
       else (0, [], (doesB (rd_T57 l3 ed).f2.f0 (rd_T57 l3 ed).f2.f1 (rd_T57 l3 ed).f2.f2 (rd_T57 l3 ed).f2.f3 (rd_T57 l3 ed).f2.f4 ch vs).1))
     else (0, [], 1))
  else (0, [], 1)
/-- May the edge's statement be one of so many values? -/
def goodB (vs : List Int) (ed : Int) (l3 : List S57) : Bool := decide (vs.length < 1000000) && (!(decide (0 ≤ ed) && decide (ed < l3.length)) || rightB (rd_T57 l3 ed).f2.f0 (rd_T57 l3 ed).f2.f1 (rd_T57 l3 ed).f2.f2 (rd_T57 l3 ed).f2.f3 (rd_T57 l3 ed).f2.f4 vs.length)
def run_step.f (a0_0 : ByteArray) (l0_1 : List ByteArray) (l0_2 : List S53) (l0_3 : List S57) (a1_0 : Int) (l1_1 : List Int) (a2_0 a2_1 : Int) : Option (Int × List Int × Int) := if goodB l1_1 a2_0 l0_3 = true then some (stepB a1_0 l1_1 a2_0 a2_1 l0_3) else none
/-- What each kind's function does with a box. -/
def MoveOk (k x y c d ch : Int) (vs : List Int) (f : Nat) : Prop := ∀ (AV : Option Addr) (cap g base : Nat) (ok : Nat → Prop) (w : World), w.heap[g]? = some (.cells #[.int .i64 k, .int .i64 x, .int .i64 y, .int .i64 c, .int .i64 d, .slice AV vs.length cap, .int .i64 ch] 73 (0, 0)) → Kd.R (Kd.int .i64) 3 w base ok (.slice AV vs.length cap) vs →
  Calls Try.prog f #[.pointer (some ⟨g, 0, none⟩)] w fun e w' => e = .returned (.int .i64 (doesB k x y c d ch vs).1) ∧ Kd.R (Kd.int .i64) 3 w' base ok (.slice AV vs.length cap) (doesB k x y c d ch vs).2 ∧ w.grownBy w' (Value.slice AV vs.length cap).ownBlock
theorem MoveOk_read {k x y c d ch : Int} {vs : List Int} {f : Nat} (h2 : (doesB k x y c d ch vs).2 = vs) (h : ∀ (AV : Option Addr) (cap g : Nat) (w : World), w.heap[g]? = some (.cells #[.int .i64 k, .int .i64 x, .int .i64 y, .int .i64 c, .int .i64 d, .slice AV vs.length cap, .int .i64 ch] 73 (0, 0)) → Kd.C (Kd.int .i64) w AV vs.length vs →
    Calls Try.prog f #[.pointer (some ⟨g, 0, none⟩)] w fun e w' => e = .returned (.int .i64 (doesB k x y c d ch vs).1) ∧ Below w.heap.size w w') : MoveOk k x y c d ch vs f := fun AV cap g base ok w hb hR =>
  (h AV cap g w hb (Kd.R_reads' hR).2.2).mono fun e w' hh => ⟨hh.1, by rw [h2]; exact Kd.R_below hR hh.2, grown_of_below hh.2 _⟩
theorem oneB_iff {i n : Int} (h : oneB i n = true) : 1 ≤ i ∧ i ≤ n := by simpa [oneB] using h
theorem someB_iff {i n : Int} (h : someB i n = true) : 0 ≤ i ∧ i ≤ n := by simpa [someB] using h
set_option maxRecDepth 100000 in
theorem run_step.ix1 (w : World) : (Instr.index 75 (.agg run_moves.V) (.int .i64 1)).run Try.prog w = .ok (.func (.func 60) #[] #[]) w := by
  unfold run_moves.V
  first | rfl | kernel_rfl | (simp [Instr.index, Try.underlying75]; done)
set_option maxRecDepth 100000 in
theorem run_step.ix2 (w : World) : (Instr.index 75 (.agg run_moves.V) (.int .i64 2)).run Try.prog w = .ok (.func (.func 61) #[] #[]) w := by
  unfold run_moves.V
  first | rfl | kernel_rfl | (simp [Instr.index, Try.underlying75]; done)
set_option maxRecDepth 100000 in
theorem run_step.ix3 (w : World) : (Instr.index 75 (.agg run_moves.V) (.int .i64 3)).run Try.prog w = .ok (.func (.func 62) #[] #[]) w := by
  unfold run_moves.V
  first | rfl | kernel_rfl | (simp [Instr.index, Try.underlying75]; done)
set_option maxRecDepth 100000 in
theorem run_step.ix4 (w : World) : (Instr.index 75 (.agg run_moves.V) (.int .i64 4)).run Try.prog w = .ok (.func (.func 63) #[] #[]) w := by
  unfold run_moves.V
  first | rfl | kernel_rfl | (simp [Instr.index, Try.underlying75]; done)
set_option maxRecDepth 100000 in
theorem run_step.ix5 (w : World) : (Instr.index 75 (.agg run_moves.V) (.int .i64 5)).run Try.prog w = .ok (.func (.func 64) #[] #[]) w := by
  unfold run_moves.V
  first | rfl | kernel_rfl | (simp [Instr.index, Try.underlying75]; done)
theorem run_step.move (k x y c d ch : Int) (vs : List Int) (h : rightB k x y c d vs.length = true) : ∃ (f : Nat) (fn : Func), (∀ w, (Instr.index 75 (.agg run_moves.V) (.int .i64 k)).run Try.prog w = .ok (.func (.func f) #[] #[]) w) ∧ Try.prog.funcs[f]? = some fn ∧ (fn.name == "runtime.NumGoroutine") = false ∧ fn.body.isSome = true ∧ MoveOk k x y c d ch vs f := by
  unfold rightB at h
  simp only [Bool.and_eq_true] at h
  obtain ⟨_, hk, h⟩ := h
  have hk := oneB_iff hk
  by_cases h1 : k = 1
  · subst h1
    exact ⟨60, Try.f60, run_step.ix1, Try.func60, (by kernel_rfl), rfl, MoveOk_read rfl (fun AV cap g w hb hC => (run_mover_skip.walk _ w))⟩
  · rw [if_neg h1] at h
    by_cases h2 : k = 2
    · subst h2
      rw [if_pos rfl, k3B, Bool.and_eq_true, Bool.and_eq_true] at h
      have hx := oneB_iff h.1
      have hy := someB_iff h.2.1
      exact ⟨61, Try.f61, run_step.ix2, Try.func61, (by kernel_rfl), rfl, fun AV cap g base ok w hb hR => run_mover_let.walk 2 x y c d ch vs AV cap g hx.1 hx.2 hy.1 hy.2 base ok w hb hR⟩
    · rw [if_neg h2] at h
      by_cases h3 : k = 3
      · subst h3
        rw [if_pos rfl, k4B, Bool.and_eq_true] at h
        have hx := oneB_iff h.1
        exact ⟨62, Try.f62, run_step.ix3, Try.func62, (by kernel_rfl), rfl, fun AV cap g base ok w hb hR => run_mover_take.walk 3 x y c d ch vs AV cap g hx.1 hx.2 base ok w hb hR⟩
      · rw [if_neg h3, k1B, Bool.and_eq_true, Bool.and_eq_true] at h
        have hx := someB_iff h.1
        have hy := someB_iff h.2.1
        by_cases h4 : k = 4
        · subst h4
          exact ⟨63, Try.f63, run_step.ix4, Try.func63, (by kernel_rfl), rfl, MoveOk_read rfl (fun AV cap g w hb hC => run_mover_limit.walk 4 x y c d ch vs AV cap g hx.1 hx.2 hy.1 hy.2 w hb hC)⟩
        · obtain rfl : k = 5 := by omega
          exact ⟨64, Try.f64, run_step.ix5, Try.func64, (by kernel_rfl), rfl, MoveOk_read rfl (fun AV cap g w hb hC => run_mover_check.walk 5 x y c d ch vs AV cap g hx.1 hx.2 hy.1 hy.2 w hb hC)⟩
theorem run_step.clone (l : List Int) (h : l.length < 1000000) : slices_Clone_int_int.f l = some l := by
  unfold slices_Clone_int_int.f
  rw [Option.bind_some, if_pos (by simp; omega), List.nil_append]
def run_step.T1 : Bool × List (List Nat × List Nat) := (true, [([], []), ([0], [0]), ([1], [1]), ([2], [2]), ([3], [3]), ([4, 3], [3, 4]), ([3], [3]), ([6, 3], [3, 6]), ([7, 3], [3, 7]), ([5, 8, 3], [3, 5, 8]), ([3, 9], [3, 9]), ([10, 3], [10]), ([11], [11]), ([12, 11], [11, 12]), ([11], [11]), ([14, 11], [11, 14]), ([13, 15, 11], [11, 13, 15]), ([16, 11], [11, 16]), ([17, 11], [11, 17]), ([11], [11]), ([19, 11], [11, 19]), ([18, 20, 11], [11, 18, 20]), ([11, 21], [11, 21])])
def run_step.B1 : List Nat := [0, 1, 3, 7, 15, 31, 15, 79, 207, 511, 1023, 2047, 4095, 8191, 4095, 20479, 65535, 131071, 262143, 4095, 528383, 2097151, 4194303]
theorem run_step.tab1 : rtab .any (opsOf Try.f23 1) = run_step.T1 := by kernel_rfl
theorem run_step.bits1 : waitsOk run_step.T1.2 run_step.B1 = true := by kernel_rfl
def run_step.T4 : Bool × List (List Nat × List Nat) := (true, [([], []), ([0], [0]), ([], []), ([2], [2]), ([3], [3]), ([], []), ([5], [5]), ([1, 4, 6], [1, 4, 6]), ([7], [7]), ([8, 4, 0, 1, 2, 3, 4, 5, 6, 7, 8], [8])])
def run_step.B4 : List Nat := [0, 1, 0, 4, 12, 0, 32, 127, 255, 511]
theorem run_step.tab4 : rtab .any (opsOf Try.f23 4) = run_step.T4 := by kernel_rfl
theorem run_step.bits4 : waitsOk run_step.T4.2 run_step.B4 = true := by kernel_rfl
def run_step.T5 : Bool × List (List Nat × List Nat) := (true, [([], []), ([], []), ([1], [1]), ([2], [2]), ([0, 3], [0, 3]), ([], []), ([4, 5, 0], [4, 5]), ([6, 6, 0, 1, 2, 3, 4, 5, 6], [6])])
def run_step.B5 : List Nat := [0, 0, 2, 6, 15, 0, 63, 127]
theorem run_step.tab5 : rtab .any (opsOf Try.f23 5) = run_step.T5 := by kernel_rfl
theorem run_step.bits5 : waitsOk run_step.T5.2 run_step.B5 = true := by kernel_rfl
def run_step.T8 : Bool × List (List Nat × List Nat) := (true, [([], []), ([0], [0]), ([], []), ([2], [2]), ([3], [3]), ([4], [4]), ([1, 5], [1, 5]), ([6, 0, 1, 2, 3, 4, 5, 6], [6]), ([7, 0, 1, 2, 3, 4, 5, 6, 7], [])])
def run_step.B8 : List Nat := [0, 1, 0, 4, 12, 28, 63, 127, 255]
theorem run_step.tab8 : rtab .any (opsOf Try.f23 8) = run_step.T8 := by kernel_rfl
theorem run_step.bits8 : waitsOk run_step.T8.2 run_step.B8 = true := by kernel_rfl
set_option maxHeartbeats 16000000 in
set_option maxRecDepth 100000 in
theorem run_step.calls (a0_0 : ByteArray) (A0_1 : Option Addr) (c0_1 : Nat) (l0_1 : List ByteArray) (A0_2 : Option Addr) (c0_2 : Nat) (l0_2 : List S53) (A0_3 : Option Addr) (c0_3 : Nat) (l0_3 : List S57) (a1_0 : Int) (A1_1 : Option Addr) (c1_1 : Nat) (l1_1 : List Int) (a2_0 a2_1 : Int) (r1 : Int) (r2 : List Int) (r3 : Int) (w : World) (hr0_1 : Kd.C Kd.string w A0_1 l0_1.length l0_1) (hc0_1 : l0_1.length ≤ c0_1) (hr0_2 : Kd.C k53 w A0_2 l0_2.length l0_2) (hc0_2 : l0_2.length ≤ c0_2) (hr0_3 : Kd.C k57 w A0_3 l0_3.length l0_3) (hc0_3 : l0_3.length ≤ c0_3) (hr1_1 : Kd.C (Kd.int .i64) w A1_1 l1_1.length l1_1) (hc1_1 : l1_1.length ≤ c1_1) (h : run_step.f a0_0 l0_1 l0_2 l0_3 a1_0 l1_1 a2_0 a2_1 = some (r1, r2, r3)) :
    Calls Try.prog 23 #[.agg #[.string a0_0, .slice A0_1 l0_1.length c0_1, .slice A0_2 l0_2.length c0_2, .slice A0_3 l0_3.length c0_3], .agg #[.int .i64 a1_0, .slice A1_1 l1_1.length c1_1], .agg #[.int .i64 a2_0, .int .i64 a2_1]] w fun e w' => ∃ v1_ : Value, e = .returned (.tuple #[.agg #[.int .i64 r1, v1_], .int .i64 r3]) ∧ Kd.R (Kd.int .i64) 3 w' w.heap.size (fun _ => True) v1_ r2 ∧ Below w.heap.size w w' := by
  have hu1 := Try.underlying26
  have hu2 := Try.underlying29
  have hu3 := Try.underlying31
  have hu4 := Try.underlying57
  have hu5 := Try.underlying73
  have hu6 := Try.underlying75
  unfold run_step.f at h
  by_cases hg : goodB l1_1 a2_0 l0_3 = true
  rotate_left
  · rw [if_neg hg] at h; cases h
  rw [if_pos hg] at h
  have h := Option.some.inj h
  unfold goodB at hg
  rw [Bool.and_eq_true, decide_eq_true_eq] at hg
  obtain ⟨hl1, hg⟩ := hg
  have HR3 := Aside0.mk hr0_3
  have HC3 := Aside0.mk hc0_3
  have HR4 := Aside0.mk hr1_1
  have HC4 := Aside0.mk hc1_1
  have HL1 := Aside0.mk hl1
  have hm3 := Kd.C_max hr0_3
  have HB := Aside0.mk (Below.refl w.heap.size w)
  clear hr0_1 hr0_2 hr0_3 hc0_1 hc0_2 hc0_3 hr1_1 hc1_1 hl1
  go_enter Try.func23, Try.ntmps23
  have HG := Aside0.mk hg
  clear hg
  go_upto_region 1 with (first | ((with_reducible refine gate_dst (N := 3) rfl ?_); refine bx_ (N := 3) (cs := #[.string a0_0, .slice A0_1 l0_1.length c0_1, .slice A0_2 l0_2.length c0_2, .slice A0_3 l0_3.length c0_3]) (t := 26) ?_; intro gp hg w3 hbox hb; have n_ := a_ (bs_ HB hb) (a_ (Aside0.mk hbox) (gs_ HB hg)); clear HB  hbox hb hg; obtain ⟨HB, Bgp, Ggp⟩ := n_; have hgp0 : w3.cell? ⟨gp, 0, none⟩ = some (.string a0_0) := (blk_cell Bgp.out 0).trans rfl; have hgp1 : w3.cell? ⟨gp, 1, none⟩ = some (.slice A0_1 l0_1.length c0_1) := (blk_cell Bgp.out 1).trans rfl; have hgp2 : w3.cell? ⟨gp, 2, none⟩ = some (.slice A0_2 l0_2.length c0_2) := (blk_cell Bgp.out 2).trans rfl; have hgp3 : w3.cell? ⟨gp, 3, none⟩ = some (.slice A0_3 l0_3.length c0_3) := (blk_cell Bgp.out 3).trans rfl) | ((with_reducible refine gate_dst (N := 4) rfl ?_); refine bx_ (N := 4) (cs := #[.int .i64 a1_0, .slice A1_1 l1_1.length c1_1]) (t := 29) ?_; intro gs hg w4 hbox hb; (try clear hgp0 hgp1 hgp2 hgp3); have n_ := a_ (bb_ Bgp hb) (a_ (bs_ HB hb) (a_ (Aside0.mk hbox) (gs_ HB hg))); clear HB Bgp hbox hb hg; obtain ⟨Bgp, HB, Bgs, Ggs⟩ := n_; have hgp0 : w4.cell? ⟨gp, 0, none⟩ = some (.string a0_0) := (blk_cell Bgp.out 0).trans rfl; have hgp1 : w4.cell? ⟨gp, 1, none⟩ = some (.slice A0_1 l0_1.length c0_1) := (blk_cell Bgp.out 1).trans rfl; have hgp2 : w4.cell? ⟨gp, 2, none⟩ = some (.slice A0_2 l0_2.length c0_2) := (blk_cell Bgp.out 2).trans rfl; have hgp3 : w4.cell? ⟨gp, 3, none⟩ = some (.slice A0_3 l0_3.length c0_3) := (blk_cell Bgp.out 3).trans rfl; have hgs0 : w4.cell? ⟨gs, 0, none⟩ = some (.int .i64 a1_0) := (blk_cell Bgs.out 0).trans rfl; have hgs1 : w4.cell? ⟨gs, 1, none⟩ = some (.slice A1_1 l1_1.length c1_1) := (blk_cell Bgs.out 1).trans rfl) | ((with_reducible refine gate_dst (N := 5) rfl ?_); refine bx_ (N := 5) (cs := #[.int .i64 a2_0, .int .i64 a2_1]) (t := 31) ?_; intro gc hg w5 hbox hb; (try clear hgp0 hgp1 hgp2 hgp3 hgs0 hgs1); have n_ := a_ (bb_ Bgp hb) (a_ (bb_ Bgs hb) (a_ (bs_ HB hb) (a_ (Aside0.mk hbox) (gs_ HB hg)))); clear HB Bgp Bgs hbox hb hg; obtain ⟨Bgp, Bgs, HB, Bgc, Ggc⟩ := n_; have hgp0 : w5.cell? ⟨gp, 0, none⟩ = some (.string a0_0) := (blk_cell Bgp.out 0).trans rfl; have hgp1 : w5.cell? ⟨gp, 1, none⟩ = some (.slice A0_1 l0_1.length c0_1) := (blk_cell Bgp.out 1).trans rfl; have hgp2 : w5.cell? ⟨gp, 2, none⟩ = some (.slice A0_2 l0_2.length c0_2) := (blk_cell Bgp.out 2).trans rfl; have hgp3 : w5.cell? ⟨gp, 3, none⟩ = some (.slice A0_3 l0_3.length c0_3) := (blk_cell Bgp.out 3).trans rfl; have hgs0 : w5.cell? ⟨gs, 0, none⟩ = some (.int .i64 a1_0) := (blk_cell Bgs.out 0).trans rfl; have hgs1 : w5.cell? ⟨gs, 1, none⟩ = some (.slice A1_1 l1_1.length c1_1) := (blk_cell Bgs.out 1).trans rfl; have hgc0 : w5.cell? ⟨gc, 0, none⟩ = some (.int .i64 a2_0) := (blk_cell Bgc.out 0).trans rfl; have hgc1 : w5.cell? ⟨gc, 1, none⟩ = some (.int .i64 a2_1) := (blk_cell Bgc.out 1).trans rfl) | ((with_reducible refine gate_dst (N := 6) rfl ?_); refine bx_ (N := 6) (cs := #[.int .i64 0, .slice none 0 0]) (t := 29) ?_; intro gr hg w6 hbox hb; (try clear hgp0 hgp1 hgp2 hgp3 hgs0 hgs1 hgc0 hgc1); have n_ := a_ (nl_ Bgs hg) (a_ (bb_ Bgp hb) (a_ (bb_ Bgs hb) (a_ (bb_ Bgc hb) (a_ (bs_ HB hb) (a_ (Aside0.mk hbox) (gs_ HB hg)))))); clear HB Bgp Bgs Bgc hbox hb hg; obtain ⟨Ngsgr, Bgp, Bgs, Bgc, HB, Bgr, Ggr⟩ := n_; have hgp0 : w6.cell? ⟨gp, 0, none⟩ = some (.string a0_0) := (blk_cell Bgp.out 0).trans rfl; have hgp1 : w6.cell? ⟨gp, 1, none⟩ = some (.slice A0_1 l0_1.length c0_1) := (blk_cell Bgp.out 1).trans rfl; have hgp2 : w6.cell? ⟨gp, 2, none⟩ = some (.slice A0_2 l0_2.length c0_2) := (blk_cell Bgp.out 2).trans rfl; have hgp3 : w6.cell? ⟨gp, 3, none⟩ = some (.slice A0_3 l0_3.length c0_3) := (blk_cell Bgp.out 3).trans rfl; have hgs0 : w6.cell? ⟨gs, 0, none⟩ = some (.int .i64 a1_0) := (blk_cell Bgs.out 0).trans rfl; have hgs1 : w6.cell? ⟨gs, 1, none⟩ = some (.slice A1_1 l1_1.length c1_1) := (blk_cell Bgs.out 1).trans rfl; have hgc0 : w6.cell? ⟨gc, 0, none⟩ = some (.int .i64 a2_0) := (blk_cell Bgc.out 0).trans rfl; have hgc1 : w6.cell? ⟨gc, 1, none⟩ = some (.int .i64 a2_1) := (blk_cell Bgc.out 1).trans rfl; have hgr0 : w6.cell? ⟨gr, 0, none⟩ = some (.int .i64 0) := (blk_cell Bgr.out 0).trans rfl; have hgr1 : w6.cell? ⟨gr, 1, none⟩ = some (.slice none 0 0) := (blk_cell Bgr.out 1).trans rfl))
  clear hgp0 hgp1 hgp2 hgp3 hgs0 hgs1 hgc0 hgc1 hgr0 hgr1
  have n_ := a_ (Aside0.mk (blk_drew Bgp.out)) (a_ (Aside0.mk (blk_drew Bgs.out)) (a_ (Aside0.mk (blk_drew Bgc.out)) (a_ (Aside0.mk (blk_drew Bgr.out)) (Aside0.mk HB.out.drew))))
  clear Bgp Bgs Bgc Bgr HB
  obtain ⟨Bgp, Bgs, Bgc, Bgr, HB⟩ := n_
  by_cases hA : 0 ≤ a2_0
  rotate_left
  · have HS := Aside0.mk (show stepB a1_0 l1_1 a2_0 a2_1 l0_3 = (0, [], 1) by rw [stepB, if_neg (fun h_ => hA h_.1)])
    rw [HS.out] at h
    obtain ⟨rfl, rfl, rfl⟩ : 0 = r1 ∧ [] = r2 ∧ 1 = r3 := by simpa using h
    have hA2 : a2_0 < 0 := by omega
    have hA3 : decide (a2_0 < 0) = true := decide_eq_true hA2
    clear h HS hA
    refine start_ (n := 23) (S := fun w' => w'.cell? ⟨gc, 0, none⟩ = some (.int .i64 a2_0) ∧ w'.cell? ⟨gp, 3, none⟩ = some (.slice A0_3 l0_3.length c0_3) ∧ w'.cell? ⟨gs, 0, none⟩ = some (.int .i64 a1_0)) (ds := []) #[false, false, false, false, false, false, false, false, false, false, false, false, false, false, false, false, false, false, false, false, false, false, false] (by kernel_rfl) rfl rfl ⟨(blk_cell Bgc.out 0).trans rfl, (blk_cell Bgp.out 3).trans rfl, (blk_cell Bgs.out 0).trans rfl⟩ (fun hHeld => ?_); refine with_tabW run_step.tab1 run_step.bits1 (fun HT_ HW_ => ?_)
    generalize hwd_ : w6.drew = wd at HB Bgp Bgs Bgc Bgr hHeld ⊢
    clear hwd_
    refine pure_ (i := 0) (N := some 11) (v := ?_) (a' := ?_) #[true, false, false, false, false, false, false, false, false, false, false, false, false, false, false, false, false, false, false, false, false, false, false] rfl rfl (any_of HT_.out (by kernel_rfl)) (fun _ _ _ h => h) (Or.inl ⟨by rfl, ?_⟩) ?_ ?_
    rotate_left
    · intro w'
      go_simp
      with_reducible rfl
    rotate_left
    · simp only [Act.put, List.setIfInBounds_toArray, List.set_cons_zero, List.set_cons_succ, i64_w, i32_w]
      rfl
    refine take_ (i := 1) (N := some 12) (v := ?_) (a' := ?_) #[true, true, false, false, false, false, false, false, false, false, false, false, false, false, false, false, false, false, false, false, false, false, false] rfl rfl (take_ofW HT_.out HW_.out (by kernel_rfl)) (fun _ _ _ h => h) (Or.inl ⟨by rfl, ?_⟩) hHeld ?_ ?_
    rotate_left
    · rintro w' ⟨s0, s1, s2⟩
      go_simp
      with_reducible rfl
    rotate_left
    · simp only [Act.put, List.setIfInBounds_toArray, List.set_cons_zero, List.set_cons_succ, i64_w, i32_w]
      rfl
    refine pure_ (i := 2) (N := some 13) (v := ?_) (a' := ?_) #[true, true, true, false, false, false, false, false, false, false, false, false, false, false, false, false, false, false, false, false, false, false, false] rfl rfl (any_of HT_.out (by kernel_rfl)) (fun _ _ _ h => h) (Or.inl ⟨by rfl, ?_⟩) ?_ ?_
    rotate_left
    · intro w'
      go_simp
      with_reducible rfl
    rotate_left
    · simp only [Act.put, List.setIfInBounds_toArray, List.set_cons_zero, List.set_cons_succ, i64_w, i32_w]
      rfl
    refine pure_ (i := 3) (N := some 14) (v := ?_) (a' := ?_) #[true, true, true, true, false, false, false, false, false, false, false, false, false, false, false, false, false, false, false, false, false, false, false] rfl rfl (any_of HT_.out (by kernel_rfl)) (fun _ _ _ h => h) (Or.inl ⟨by rfl, ?_⟩) ?_ ?_
    rotate_left
    · intro w'
      go_simp
      with_reducible rfl
    rotate_left
    · simp only [Act.put, List.setIfInBounds_toArray, List.set_cons_zero, List.set_cons_succ, i64_w, i32_w]
      rfl
    refine pure_ (i := 4) (N := some 15) (v := undef) (a' := ?_) #[true, true, true, true, true, false, false, false, false, false, false, false, false, false, false, false, false, false, false, false, false, false, false] rfl rfl (any_of HT_.out (by kernel_rfl)) (fun _ _ _ h => h) (Or.inr ⟨by rfl, rfl⟩) ?_ ?_
    rotate_left
    · simp only [Act.put, List.setIfInBounds_toArray, List.set_cons_zero, List.set_cons_succ, i64_w, i32_w]
      rfl
    refine pure_ (i := 5) (N := some 16) (v := undef) (a' := ?_) #[true, true, true, true, true, true, false, false, false, false, false, false, false, false, false, false, false, false, false, false, false, false, false] rfl rfl (any_of HT_.out (by kernel_rfl)) (fun _ _ _ h => h) (Or.inr ⟨by rfl, rfl⟩) ?_ ?_
    rotate_left
    · simp only [Act.put, List.setIfInBounds_toArray, List.set_cons_zero, List.set_cons_succ, i64_w, i32_w]
      rfl
    refine pure_ (i := 6) (N := some 17) (v := undef) (a' := ?_) #[true, true, true, true, true, true, true, false, false, false, false, false, false, false, false, false, false, false, false, false, false, false, false] rfl rfl (any_of HT_.out (by kernel_rfl)) (fun _ _ _ h => h) (Or.inr ⟨by rfl, rfl⟩) ?_ ?_
    rotate_left
    · simp only [Act.put, List.setIfInBounds_toArray, List.set_cons_zero, List.set_cons_succ, i64_w, i32_w]
      rfl
    refine pure_ (i := 7) (N := some 18) (v := undef) (a' := ?_) #[true, true, true, true, true, true, true, true, false, false, false, false, false, false, false, false, false, false, false, false, false, false, false] rfl rfl (any_of HT_.out (by kernel_rfl)) (fun _ _ _ h => h) (Or.inr ⟨by rfl, rfl⟩) ?_ ?_
    rotate_left
    · simp only [Act.put, List.setIfInBounds_toArray, List.set_cons_zero, List.set_cons_succ, i64_w, i32_w]
      rfl
    refine pure_ (i := 8) (N := some 19) (v := undef) (a' := ?_) #[true, true, true, true, true, true, true, true, true, false, false, false, false, false, false, false, false, false, false, false, false, false, false] rfl rfl (any_of HT_.out (by kernel_rfl)) (fun _ _ _ h => h) (Or.inr ⟨by rfl, rfl⟩) ?_ ?_
    rotate_left
    · simp only [Act.put, List.setIfInBounds_toArray, List.set_cons_zero, List.set_cons_succ, i64_w, i32_w]
      rfl
    refine pure_ (i := 9) (N := some 20) (v := undef) (a' := ?_) #[true, true, true, true, true, true, true, true, true, true, false, false, false, false, false, false, false, false, false, false, false, false, false] rfl rfl (any_of HT_.out (by kernel_rfl)) (fun _ _ _ h => h) (Or.inr ⟨by rfl, rfl⟩) ?_ ?_
    rotate_left
    · simp only [Act.put, List.setIfInBounds_toArray, List.set_cons_zero, List.set_cons_succ, i64_w, i32_w]
      rfl
    refine pure_ (i := 10) (N := some 21) (v := ?_) (a' := ?_) #[true, true, true, true, true, true, true, true, true, true, true, false, false, false, false, false, false, false, false, false, false, false, false] rfl rfl (any_of HT_.out (by kernel_rfl)) (fun _ _ _ h => h) (Or.inl ⟨by rfl, ?_⟩) ?_ ?_
    rotate_left
    · intro w'
      go_simp
      with_reducible rfl
    rotate_left
    · simp only [Act.put, List.setIfInBounds_toArray, List.set_cons_zero, List.set_cons_succ, i64_w, i32_w]
      rfl
    refine pure_ (i := 11) (N := some 22) (v := ?_) (a' := ?_) #[true, true, true, true, true, true, true, true, true, true, true, true, false, false, false, false, false, false, false, false, false, false, false] rfl rfl (any_of HT_.out (by kernel_rfl)) (fun _ _ _ h => h) (Or.inl ⟨by rfl, ?_⟩) ?_ ?_
    rotate_left
    · intro w'
      go_simp
      with_reducible rfl
    rotate_left
    · simp only [Act.put, List.setIfInBounds_toArray, List.set_cons_zero, List.set_cons_succ, i64_w, i32_w]
      rfl
    refine pure_ (i := 12) (N := some 23) (v := undef) (a' := ?_) #[true, true, true, true, true, true, true, true, true, true, true, true, true, false, false, false, false, false, false, false, false, false, false] rfl rfl (any_of HT_.out (by kernel_rfl)) (fun _ _ _ h => h) (Or.inr ⟨by rfl, rfl⟩) ?_ ?_
    rotate_left
    · simp only [Act.put, List.setIfInBounds_toArray, List.set_cons_zero, List.set_cons_succ, i64_w, i32_w]
      rfl
    refine pure_ (i := 13) (N := some 24) (v := undef) (a' := ?_) #[true, true, true, true, true, true, true, true, true, true, true, true, true, true, false, false, false, false, false, false, false, false, false] rfl rfl (any_of HT_.out (by kernel_rfl)) (fun _ _ _ h => h) (Or.inr ⟨by rfl, rfl⟩) ?_ ?_
    rotate_left
    · simp only [Act.put, List.setIfInBounds_toArray, List.set_cons_zero, List.set_cons_succ, i64_w, i32_w]
      rfl
    refine pure_ (i := 14) (N := some 25) (v := undef) (a' := ?_) #[true, true, true, true, true, true, true, true, true, true, true, true, true, true, true, false, false, false, false, false, false, false, false] rfl rfl (any_of HT_.out (by kernel_rfl)) (fun _ _ _ h => h) (Or.inr ⟨by rfl, rfl⟩) ?_ ?_
    rotate_left
    · simp only [Act.put, List.setIfInBounds_toArray, List.set_cons_zero, List.set_cons_succ, i64_w, i32_w]
      rfl
    refine pure_ (i := 15) (N := some 26) (v := undef) (a' := ?_) #[true, true, true, true, true, true, true, true, true, true, true, true, true, true, true, true, false, false, false, false, false, false, false] rfl rfl (any_of HT_.out (by kernel_rfl)) (fun _ _ _ h => h) (Or.inr ⟨by rfl, rfl⟩) ?_ ?_
    rotate_left
    · simp only [Act.put, List.setIfInBounds_toArray, List.set_cons_zero, List.set_cons_succ, i64_w, i32_w]
      rfl
    refine pure_ (i := 16) (N := some 27) (v := undef) (a' := ?_) #[true, true, true, true, true, true, true, true, true, true, true, true, true, true, true, true, true, false, false, false, false, false, false] rfl rfl (any_of HT_.out (by kernel_rfl)) (fun _ _ _ h => h) (Or.inr ⟨by rfl, rfl⟩) ?_ ?_
    rotate_left
    · simp only [Act.put, List.setIfInBounds_toArray, List.set_cons_zero, List.set_cons_succ, i64_w, i32_w]
      rfl
    refine pure_ (i := 17) (N := some 28) (v := undef) (a' := ?_) #[true, true, true, true, true, true, true, true, true, true, true, true, true, true, true, true, true, true, false, false, false, false, false] rfl rfl (any_of HT_.out (by kernel_rfl)) (fun _ _ _ h => h) (Or.inr ⟨by rfl, rfl⟩) ?_ ?_
    rotate_left
    · simp only [Act.put, List.setIfInBounds_toArray, List.set_cons_zero, List.set_cons_succ, i64_w, i32_w]
      rfl
    refine pure_ (i := 18) (N := some 29) (v := undef) (a' := ?_) #[true, true, true, true, true, true, true, true, true, true, true, true, true, true, true, true, true, true, true, false, false, false, false] rfl rfl (any_of HT_.out (by kernel_rfl)) (fun _ _ _ h => h) (Or.inr ⟨by rfl, rfl⟩) ?_ ?_
    rotate_left
    · simp only [Act.put, List.setIfInBounds_toArray, List.set_cons_zero, List.set_cons_succ, i64_w, i32_w]
      rfl
    refine pure_ (i := 19) (N := some 30) (v := undef) (a' := ?_) #[true, true, true, true, true, true, true, true, true, true, true, true, true, true, true, true, true, true, true, true, false, false, false] rfl rfl (any_of HT_.out (by kernel_rfl)) (fun _ _ _ h => h) (Or.inr ⟨by rfl, rfl⟩) ?_ ?_
    rotate_left
    · simp only [Act.put, List.setIfInBounds_toArray, List.set_cons_zero, List.set_cons_succ, i64_w, i32_w]
      rfl
    refine pure_ (i := 20) (N := some 31) (v := undef) (a' := ?_) #[true, true, true, true, true, true, true, true, true, true, true, true, true, true, true, true, true, true, true, true, true, false, false] rfl rfl (any_of HT_.out (by kernel_rfl)) (fun _ _ _ h => h) (Or.inr ⟨by rfl, rfl⟩) ?_ ?_
    rotate_left
    · simp only [Act.put, List.setIfInBounds_toArray, List.set_cons_zero, List.set_cons_succ, i64_w, i32_w]
      rfl
    refine pure_ (i := 21) (N := some 32) (v := undef) (a' := ?_) #[true, true, true, true, true, true, true, true, true, true, true, true, true, true, true, true, true, true, true, true, true, true, false] rfl rfl (any_of HT_.out (by kernel_rfl)) (fun _ _ _ h => h) (Or.inr ⟨by rfl, rfl⟩) ?_ ?_
    rotate_left
    · simp only [Act.put, List.setIfInBounds_toArray, List.set_cons_zero, List.set_cons_succ, i64_w, i32_w]
      rfl
    refine pure_ (i := 22) (N := some 33) (v := ?_) (a' := ?_) #[true, true, true, true, true, true, true, true, true, true, true, true, true, true, true, true, true, true, true, true, true, true, true] rfl rfl (any_of HT_.out (by kernel_rfl)) (fun _ _ _ h => h) (Or.inl ⟨by rfl, ?_⟩) ?_ ?_
    rotate_left
    · intro w'
      go_simp
      with_reducible rfl
    rotate_left
    · simp only [Act.put, List.setIfInBounds_toArray, List.set_cons_zero, List.set_cons_succ, i64_w, i32_w]
      rfl
    refine done_ (done_of HT_.out (by kernel_rfl)) ?_
    have hgr0 : wd.cell? ⟨gr, 0, none⟩ = some (.int .i64 0) := (blk_cell Bgr.out 0).trans rfl
    have hf0 := blk_frozen Bgr.out 0
    have hgr1 : wd.cell? ⟨gr, 1, none⟩ = some (.slice none 0 0) := (blk_cell Bgr.out 1).trans rfl
    have hf1 := blk_frozen Bgr.out 1
    go_wp2
    refine bodyPost_ret (results_ct rfl _ _ gr 29 #[.int .i64 0, .slice none 0 0] (0, 0) _ rfl (by (with_reducible repeat (first | refine blk_alloc ?_ _)); refine blk_put (cs := #[.int .i64 0, .slice none 0 0]) ?_ 1 _ rfl; refine blk_put (cs := #[.int .i64 0, .slice none 0 0]) ?_ 0 _ rfl; exact Bgr.out) Try.underlying29 rfl (by kernel_rfl)) rfl ?_
    exact ⟨_, rfl, Kd.R_nil _ _ _ _ _, below_set (below_set HB.out Ggr.out) Ggr.out⟩
  have hA3 : decide (a2_0 < 0) = false := decide_eq_false (by omega)
  by_cases hB_ : a2_0 < (l0_3.length : Int)
  rotate_left
  · have HS := Aside0.mk (show stepB a1_0 l1_1 a2_0 a2_1 l0_3 = (0, [], 1) by rw [stepB, if_neg (fun h_ => hB_ h_.2)])
    rw [HS.out] at h
    obtain ⟨rfl, rfl, rfl⟩ : 0 = r1 ∧ [] = r2 ∧ 1 = r3 := by simpa using h
    have hB2 : (l0_3.length : Int) ≤ a2_0 := by omega
    clear h HS hB_
    refine start_ (n := 23) (S := fun w' => w'.cell? ⟨gc, 0, none⟩ = some (.int .i64 a2_0) ∧ w'.cell? ⟨gp, 3, none⟩ = some (.slice A0_3 l0_3.length c0_3) ∧ w'.cell? ⟨gs, 0, none⟩ = some (.int .i64 a1_0)) (ds := []) #[false, false, false, false, false, false, false, false, false, false, false, false, false, false, false, false, false, false, false, false, false, false, false] (by kernel_rfl) rfl rfl ⟨(blk_cell Bgc.out 0).trans rfl, (blk_cell Bgp.out 3).trans rfl, (blk_cell Bgs.out 0).trans rfl⟩ (fun hHeld => ?_); refine with_tabW run_step.tab1 run_step.bits1 (fun HT_ HW_ => ?_)
    generalize hwd_ : w6.drew = wd at HB Bgp Bgs Bgc Bgr hHeld ⊢
    clear hwd_
    refine pure_ (i := 0) (N := some 11) (v := ?_) (a' := ?_) #[true, false, false, false, false, false, false, false, false, false, false, false, false, false, false, false, false, false, false, false, false, false, false] rfl rfl (any_of HT_.out (by kernel_rfl)) (fun _ _ _ h => h) (Or.inl ⟨by rfl, ?_⟩) ?_ ?_
    rotate_left
    · intro w'
      go_simp
      with_reducible rfl
    rotate_left
    · simp only [Act.put, List.setIfInBounds_toArray, List.set_cons_zero, List.set_cons_succ, i64_w, i32_w]
      rfl
    refine take_ (i := 1) (N := some 12) (v := ?_) (a' := ?_) #[true, true, false, false, false, false, false, false, false, false, false, false, false, false, false, false, false, false, false, false, false, false, false] rfl rfl (take_ofW HT_.out HW_.out (by kernel_rfl)) (fun _ _ _ h => h) (Or.inl ⟨by rfl, ?_⟩) hHeld ?_ ?_
    rotate_left
    · rintro w' ⟨s0, s1, s2⟩
      go_simp
      with_reducible rfl
    rotate_left
    · simp only [Act.put, List.setIfInBounds_toArray, List.set_cons_zero, List.set_cons_succ, i64_w, i32_w]
      rfl
    refine pure_ (i := 2) (N := some 13) (v := ?_) (a' := ?_) #[true, true, true, false, false, false, false, false, false, false, false, false, false, false, false, false, false, false, false, false, false, false, false] rfl rfl (any_of HT_.out (by kernel_rfl)) (fun _ _ _ h => h) (Or.inl ⟨by rfl, ?_⟩) ?_ ?_
    rotate_left
    · intro w'
      go_simp
      with_reducible rfl
    rotate_left
    · simp only [Act.put, List.setIfInBounds_toArray, List.set_cons_zero, List.set_cons_succ, i64_w, i32_w]
      rfl
    refine pure_ (i := 3) (N := some 14) (v := ?_) (a' := ?_) #[true, true, true, true, false, false, false, false, false, false, false, false, false, false, false, false, false, false, false, false, false, false, false] rfl rfl (any_of HT_.out (by kernel_rfl)) (fun _ _ _ h => h) (Or.inl ⟨by rfl, ?_⟩) ?_ ?_
    rotate_left
    · intro w'
      go_simp
      with_reducible rfl
    rotate_left
    · simp only [Act.put, List.setIfInBounds_toArray, List.set_cons_zero, List.set_cons_succ, i64_w, i32_w]
      rfl
    refine pure_ (i := 4) (N := some 15) (v := ?_) (a' := ?_) #[true, true, true, true, true, false, false, false, false, false, false, false, false, false, false, false, false, false, false, false, false, false, false] rfl rfl (any_of HT_.out (by kernel_rfl)) (fun _ _ _ h => h) (Or.inl ⟨by rfl, ?_⟩) ?_ ?_
    rotate_left
    · intro w'
      go_simp
      with_reducible rfl
    rotate_left
    · simp only [Act.put, List.setIfInBounds_toArray, List.set_cons_zero, List.set_cons_succ, i64_w, i32_w]
      rfl
    refine take_ (i := 5) (N := some 16) (v := ?_) (a' := ?_) #[true, true, true, true, true, true, false, false, false, false, false, false, false, false, false, false, false, false, false, false, false, false, false] rfl rfl (take_ofW HT_.out HW_.out (by kernel_rfl)) (fun _ _ _ h => h) (Or.inl ⟨by rfl, ?_⟩) hHeld ?_ ?_
    rotate_left
    · rintro w' ⟨s0, s1, s2⟩
      go_simp
      with_reducible rfl
    rotate_left
    · simp only [Act.put, List.setIfInBounds_toArray, List.set_cons_zero, List.set_cons_succ, i64_w, i32_w]
      rfl
    refine pure_ (i := 6) (N := some 17) (v := ?_) (a' := ?_) #[true, true, true, true, true, true, true, false, false, false, false, false, false, false, false, false, false, false, false, false, false, false, false] rfl rfl (any_of HT_.out (by kernel_rfl)) (fun _ _ _ h => h) (Or.inl ⟨by rfl, ?_⟩) ?_ ?_
    rotate_left
    · intro w'
      go_simp
      with_reducible rfl
    rotate_left
    · simp only [Act.put, List.setIfInBounds_toArray, List.set_cons_zero, List.set_cons_succ, i64_w, i32_w]
      rfl
    refine take_ (i := 7) (N := some 18) (v := ?_) (a' := ?_) #[true, true, true, true, true, true, true, true, false, false, false, false, false, false, false, false, false, false, false, false, false, false, false] rfl rfl (take_ofW HT_.out HW_.out (by kernel_rfl)) (fun _ _ _ h => h) (Or.inl ⟨by rfl, ?_⟩) hHeld ?_ ?_
    rotate_left
    · rintro w' ⟨s0, s1, s2⟩
      go_simp
      with_reducible rfl
    rotate_left
    · simp only [Act.put, List.setIfInBounds_toArray, List.set_cons_zero, List.set_cons_succ, i64_w, i32_w]
      rfl
    refine pure_ (i := 8) (N := some 19) (v := ?_) (a' := ?_) #[true, true, true, true, true, true, true, true, true, false, false, false, false, false, false, false, false, false, false, false, false, false, false] rfl rfl (any_of HT_.out (by kernel_rfl)) (fun _ _ _ h => h) (Or.inl ⟨by rfl, ?_⟩) ?_ ?_
    rotate_left
    · intro w'
      go_simp
      with_reducible rfl
    rotate_left
    · simp only [Act.put, List.setIfInBounds_toArray, List.set_cons_zero, List.set_cons_succ, i64_w, i32_w]
      rfl
    refine pure_ (i := 9) (N := some 20) (v := ?_) (a' := ?_) #[true, true, true, true, true, true, true, true, true, true, false, false, false, false, false, false, false, false, false, false, false, false, false] rfl rfl (any_of HT_.out (by kernel_rfl)) (fun _ _ _ h => h) (Or.inl ⟨by rfl, ?_⟩) ?_ ?_
    rotate_left
    · intro w'
      go_simp
      with_reducible rfl
    rotate_left
    · simp only [Act.put, List.setIfInBounds_toArray, List.set_cons_zero, List.set_cons_succ, i64_w, i32_w]
      rfl
    refine pure_ (i := 10) (N := some 21) (v := ?_) (a' := ?_) #[true, true, true, true, true, true, true, true, true, true, true, false, false, false, false, false, false, false, false, false, false, false, false] rfl rfl (any_of HT_.out (by kernel_rfl)) (fun _ _ _ h => h) (Or.inl ⟨by rfl, ?_⟩) ?_ ?_
    rotate_left
    · intro w'
      go_simp
      with_reducible rfl
    rotate_left
    · simp only [Act.put, List.setIfInBounds_toArray, List.set_cons_zero, List.set_cons_succ, i64_w, i32_w]
      rfl
    refine pure_ (i := 11) (N := some 22) (v := ?_) (a' := ?_) #[true, true, true, true, true, true, true, true, true, true, true, true, false, false, false, false, false, false, false, false, false, false, false] rfl rfl (any_of HT_.out (by kernel_rfl)) (fun _ _ _ h => h) (Or.inl ⟨by rfl, ?_⟩) ?_ ?_
    rotate_left
    · intro w'
      go_simp
      with_reducible rfl
    rotate_left
    · simp only [Act.put, List.setIfInBounds_toArray, List.set_cons_zero, List.set_cons_succ, i64_w, i32_w]
      rfl
    refine pure_ (i := 12) (N := some 23) (v := undef) (a' := ?_) #[true, true, true, true, true, true, true, true, true, true, true, true, true, false, false, false, false, false, false, false, false, false, false] rfl rfl (any_of HT_.out (by kernel_rfl)) (fun _ _ _ h => h) (Or.inr ⟨by rfl, rfl⟩) ?_ ?_
    rotate_left
    · simp only [Act.put, List.setIfInBounds_toArray, List.set_cons_zero, List.set_cons_succ, i64_w, i32_w]
      rfl
    refine pure_ (i := 13) (N := some 24) (v := undef) (a' := ?_) #[true, true, true, true, true, true, true, true, true, true, true, true, true, true, false, false, false, false, false, false, false, false, false] rfl rfl (any_of HT_.out (by kernel_rfl)) (fun _ _ _ h => h) (Or.inr ⟨by rfl, rfl⟩) ?_ ?_
    rotate_left
    · simp only [Act.put, List.setIfInBounds_toArray, List.set_cons_zero, List.set_cons_succ, i64_w, i32_w]
      rfl
    refine pure_ (i := 14) (N := some 25) (v := undef) (a' := ?_) #[true, true, true, true, true, true, true, true, true, true, true, true, true, true, true, false, false, false, false, false, false, false, false] rfl rfl (any_of HT_.out (by kernel_rfl)) (fun _ _ _ h => h) (Or.inr ⟨by rfl, rfl⟩) ?_ ?_
    rotate_left
    · simp only [Act.put, List.setIfInBounds_toArray, List.set_cons_zero, List.set_cons_succ, i64_w, i32_w]
      rfl
    refine pure_ (i := 15) (N := some 26) (v := undef) (a' := ?_) #[true, true, true, true, true, true, true, true, true, true, true, true, true, true, true, true, false, false, false, false, false, false, false] rfl rfl (any_of HT_.out (by kernel_rfl)) (fun _ _ _ h => h) (Or.inr ⟨by rfl, rfl⟩) ?_ ?_
    rotate_left
    · simp only [Act.put, List.setIfInBounds_toArray, List.set_cons_zero, List.set_cons_succ, i64_w, i32_w]
      rfl
    refine pure_ (i := 16) (N := some 27) (v := undef) (a' := ?_) #[true, true, true, true, true, true, true, true, true, true, true, true, true, true, true, true, true, false, false, false, false, false, false] rfl rfl (any_of HT_.out (by kernel_rfl)) (fun _ _ _ h => h) (Or.inr ⟨by rfl, rfl⟩) ?_ ?_
    rotate_left
    · simp only [Act.put, List.setIfInBounds_toArray, List.set_cons_zero, List.set_cons_succ, i64_w, i32_w]
      rfl
    refine pure_ (i := 17) (N := some 28) (v := undef) (a' := ?_) #[true, true, true, true, true, true, true, true, true, true, true, true, true, true, true, true, true, true, false, false, false, false, false] rfl rfl (any_of HT_.out (by kernel_rfl)) (fun _ _ _ h => h) (Or.inr ⟨by rfl, rfl⟩) ?_ ?_
    rotate_left
    · simp only [Act.put, List.setIfInBounds_toArray, List.set_cons_zero, List.set_cons_succ, i64_w, i32_w]
      rfl
    refine pure_ (i := 18) (N := some 29) (v := undef) (a' := ?_) #[true, true, true, true, true, true, true, true, true, true, true, true, true, true, true, true, true, true, true, false, false, false, false] rfl rfl (any_of HT_.out (by kernel_rfl)) (fun _ _ _ h => h) (Or.inr ⟨by rfl, rfl⟩) ?_ ?_
    rotate_left
    · simp only [Act.put, List.setIfInBounds_toArray, List.set_cons_zero, List.set_cons_succ, i64_w, i32_w]
      rfl
    refine pure_ (i := 19) (N := some 30) (v := undef) (a' := ?_) #[true, true, true, true, true, true, true, true, true, true, true, true, true, true, true, true, true, true, true, true, false, false, false] rfl rfl (any_of HT_.out (by kernel_rfl)) (fun _ _ _ h => h) (Or.inr ⟨by rfl, rfl⟩) ?_ ?_
    rotate_left
    · simp only [Act.put, List.setIfInBounds_toArray, List.set_cons_zero, List.set_cons_succ, i64_w, i32_w]
      rfl
    refine pure_ (i := 20) (N := some 31) (v := undef) (a' := ?_) #[true, true, true, true, true, true, true, true, true, true, true, true, true, true, true, true, true, true, true, true, true, false, false] rfl rfl (any_of HT_.out (by kernel_rfl)) (fun _ _ _ h => h) (Or.inr ⟨by rfl, rfl⟩) ?_ ?_
    rotate_left
    · simp only [Act.put, List.setIfInBounds_toArray, List.set_cons_zero, List.set_cons_succ, i64_w, i32_w]
      rfl
    refine pure_ (i := 21) (N := some 32) (v := undef) (a' := ?_) #[true, true, true, true, true, true, true, true, true, true, true, true, true, true, true, true, true, true, true, true, true, true, false] rfl rfl (any_of HT_.out (by kernel_rfl)) (fun _ _ _ h => h) (Or.inr ⟨by rfl, rfl⟩) ?_ ?_
    rotate_left
    · simp only [Act.put, List.setIfInBounds_toArray, List.set_cons_zero, List.set_cons_succ, i64_w, i32_w]
      rfl
    refine pure_ (i := 22) (N := some 33) (v := ?_) (a' := ?_) #[true, true, true, true, true, true, true, true, true, true, true, true, true, true, true, true, true, true, true, true, true, true, true] rfl rfl (any_of HT_.out (by kernel_rfl)) (fun _ _ _ h => h) (Or.inl ⟨by rfl, ?_⟩) ?_ ?_
    rotate_left
    · intro w'
      go_simp
      with_reducible rfl
    rotate_left
    · simp only [Act.put, List.setIfInBounds_toArray, List.set_cons_zero, List.set_cons_succ, i64_w, i32_w]
      rfl
    refine done_ (done_of HT_.out (by kernel_rfl)) ?_
    have hgr0 : wd.cell? ⟨gr, 0, none⟩ = some (.int .i64 0) := (blk_cell Bgr.out 0).trans rfl
    have hf0 := blk_frozen Bgr.out 0
    have hgr1 : wd.cell? ⟨gr, 1, none⟩ = some (.slice none 0 0) := (blk_cell Bgr.out 1).trans rfl
    have hf1 := blk_frozen Bgr.out 1
    go_wp2
    refine bodyPost_ret (results_ct rfl _ _ gr 29 #[.int .i64 0, .slice none 0 0] (0, 0) _ rfl (by (with_reducible repeat (first | refine blk_alloc ?_ _)); refine blk_put (cs := #[.int .i64 0, .slice none 0 0]) ?_ 1 _ rfl; refine blk_put (cs := #[.int .i64 0, .slice none 0 0]) ?_ 0 _ rfl; exact Bgr.out) Try.underlying29 rfl (by kernel_rfl)) rfl ?_
    exact ⟨_, rfl, Kd.R_nil _ _ _ _ _, below_set (below_set HB.out Ggr.out) Ggr.out⟩
  obtain ⟨p, rfl⟩ : ∃ p : Nat, a2_0 = (p : Int) := ⟨a2_0.toNat, by omega⟩
  obtain ⟨ad, rfl, hx0, hx1, hx2, hx3, hx4, hx5, hx6⟩ := at_T57 (Kd.C_below HR3.out HB.out) (p : Int) hA hB_
  rw [Int.toNat_natCast] at hx0 hx1 hx2 hx3 hx4 hx5 hx6
  have hg := HG.out
  rw [decide_eq_true hA, decide_eq_true hB_] at hg
  simp only [Bool.and_self, Bool.not_true, Bool.false_or] at hg
  rw [stepB, if_pos ⟨hA, hB_⟩] at h
  clear HG
  generalize rd_T57 l0_3 (p : Int) = x at h hg hx0 hx1 hx2 hx3 hx4 hx5 hx6
  have HXX := Aside0.mk (And.intro hx0 (And.intro hx1 (And.intro hx2 (And.intro hx3 (And.intro hx4 (And.intro hx5 hx6))))))
  clear hx0 hx1 hx2 hx3 hx4 hx5 hx6
  obtain ⟨f, fn, hix, hf1, hf2, hf3, hmv⟩ := run_step.move x.f2.f0 x.f2.f1 x.f2.f2 x.f2.f3 x.f2.f4 a2_1 l1_1 hg
  unfold MoveOk at hmv
  generalize doesB x.f2.f0 x.f2.f1 x.f2.f2 x.f2.f3 x.f2.f4 a2_1 l1_1 = res at h hmv
  obtain ⟨rf, vs⟩ := res
  have HMV := Aside0.mk hmv
  have HIX := Aside0.mk hix
  have HF := Aside0.mk (And.intro hf1 (And.intro hf2 hf3))
  clear hg hmv hix hf1 hf2 hf3
  have hge0 : ¬ (l0_3.length : Int) ≤ (p : Int) := by omega
  by_cases hE : x.f0 = a1_0
  rotate_left
  · rw [if_neg hE] at h
    obtain ⟨rfl, rfl, rfl⟩ : 0 = r1 ∧ [] = r2 ∧ 1 = r3 := by simpa using h
    have hEb : (x.f0 != a1_0) = true := bne_iff_ne.mpr hE
    have hEc : (x.f0 == a1_0) = false := beq_eq_false_iff_ne.mpr hE
    clear h HMV HIX HF
    refine start_ (n := 23) (S := fun w' => w'.cell? ⟨gc, 0, none⟩ = some (.int .i64 p) ∧ w'.cell? ⟨gp, 3, none⟩ = some (.slice (some ad) l0_3.length c0_3) ∧ w'.cell? ⟨gs, 0, none⟩ = some (.int .i64 a1_0) ∧ w'.cell? (ad.add (p * 7)) = some (.int .i64 x.f0)) (ds := []) #[false, false, false, false, false, false, false, false, false, false, false, false, false, false, false, false, false, false, false, false, false, false, false] (by kernel_rfl) rfl rfl ⟨(blk_cell Bgc.out 0).trans rfl, (blk_cell Bgp.out 3).trans rfl, (blk_cell Bgs.out 0).trans rfl, HXX.out.1⟩ (fun hHeld => ?_); refine with_tabW run_step.tab1 run_step.bits1 (fun HT_ HW_ => ?_)
    generalize hwd_ : w6.drew = wd at HB Bgp Bgs Bgc Bgr HXX hHeld ⊢
    clear hwd_
    refine pure_ (i := 0) (N := some 11) (v := ?_) (a' := ?_) #[true, false, false, false, false, false, false, false, false, false, false, false, false, false, false, false, false, false, false, false, false, false, false] rfl rfl (any_of HT_.out (by kernel_rfl)) (fun _ _ _ h => h) (Or.inl ⟨by rfl, ?_⟩) ?_ ?_
    rotate_left
    · intro w'
      go_simp
      with_reducible rfl
    rotate_left
    · simp only [Act.put, List.setIfInBounds_toArray, List.set_cons_zero, List.set_cons_succ, i64_w, i32_w]
      rfl
    refine take_ (i := 1) (N := some 12) (v := ?_) (a' := ?_) #[true, true, false, false, false, false, false, false, false, false, false, false, false, false, false, false, false, false, false, false, false, false, false] rfl rfl (take_ofW HT_.out HW_.out (by kernel_rfl)) (fun _ _ _ h => h) (Or.inl ⟨by rfl, ?_⟩) hHeld ?_ ?_
    rotate_left
    · rintro w' ⟨s0, s1, s2, s3⟩
      go_simp
      with_reducible rfl
    rotate_left
    · simp only [Act.put, List.setIfInBounds_toArray, List.set_cons_zero, List.set_cons_succ, i64_w, i32_w]
      rfl
    refine pure_ (i := 2) (N := some 13) (v := ?_) (a' := ?_) #[true, true, true, false, false, false, false, false, false, false, false, false, false, false, false, false, false, false, false, false, false, false, false] rfl rfl (any_of HT_.out (by kernel_rfl)) (fun _ _ _ h => h) (Or.inl ⟨by rfl, ?_⟩) ?_ ?_
    rotate_left
    · intro w'
      go_simp
      with_reducible rfl
    rotate_left
    · simp only [Act.put, List.setIfInBounds_toArray, List.set_cons_zero, List.set_cons_succ, i64_w, i32_w]
      rfl
    refine pure_ (i := 3) (N := some 14) (v := ?_) (a' := ?_) #[true, true, true, true, false, false, false, false, false, false, false, false, false, false, false, false, false, false, false, false, false, false, false] rfl rfl (any_of HT_.out (by kernel_rfl)) (fun _ _ _ h => h) (Or.inl ⟨by rfl, ?_⟩) ?_ ?_
    rotate_left
    · intro w'
      go_simp
      with_reducible rfl
    rotate_left
    · simp only [Act.put, List.setIfInBounds_toArray, List.set_cons_zero, List.set_cons_succ, i64_w, i32_w]
      rfl
    refine pure_ (i := 4) (N := some 15) (v := ?_) (a' := ?_) #[true, true, true, true, true, false, false, false, false, false, false, false, false, false, false, false, false, false, false, false, false, false, false] rfl rfl (any_of HT_.out (by kernel_rfl)) (fun _ _ _ h => h) (Or.inl ⟨by rfl, ?_⟩) ?_ ?_
    rotate_left
    · intro w'
      go_simp
      with_reducible rfl
    rotate_left
    · simp only [Act.put, List.setIfInBounds_toArray, List.set_cons_zero, List.set_cons_succ, i64_w, i32_w]
      rfl
    refine take_ (i := 5) (N := some 16) (v := ?_) (a' := ?_) #[true, true, true, true, true, true, false, false, false, false, false, false, false, false, false, false, false, false, false, false, false, false, false] rfl rfl (take_ofW HT_.out HW_.out (by kernel_rfl)) (fun _ _ _ h => h) (Or.inl ⟨by rfl, ?_⟩) hHeld ?_ ?_
    rotate_left
    · rintro w' ⟨s0, s1, s2, s3⟩
      go_simp
      with_reducible rfl
    rotate_left
    · simp only [Act.put, List.setIfInBounds_toArray, List.set_cons_zero, List.set_cons_succ, i64_w, i32_w]
      rfl
    refine pure_ (i := 6) (N := some 17) (v := ?_) (a' := ?_) #[true, true, true, true, true, true, true, false, false, false, false, false, false, false, false, false, false, false, false, false, false, false, false] rfl rfl (any_of HT_.out (by kernel_rfl)) (fun _ _ _ h => h) (Or.inl ⟨by rfl, ?_⟩) ?_ ?_
    rotate_left
    · intro w'
      go_simp
      with_reducible rfl
    rotate_left
    · simp only [Act.put, List.setIfInBounds_toArray, List.set_cons_zero, List.set_cons_succ, i64_w, i32_w]
      rfl
    refine take_ (i := 7) (N := some 18) (v := ?_) (a' := ?_) #[true, true, true, true, true, true, true, true, false, false, false, false, false, false, false, false, false, false, false, false, false, false, false] rfl rfl (take_ofW HT_.out HW_.out (by kernel_rfl)) (fun _ _ _ h => h) (Or.inl ⟨by rfl, ?_⟩) hHeld ?_ ?_
    rotate_left
    · rintro w' ⟨s0, s1, s2, s3⟩
      go_simp
      with_reducible rfl
    rotate_left
    · simp only [Act.put, List.setIfInBounds_toArray, List.set_cons_zero, List.set_cons_succ, i64_w, i32_w]
      rfl
    refine pure_ (i := 8) (N := some 19) (v := ?_) (a' := ?_) #[true, true, true, true, true, true, true, true, true, false, false, false, false, false, false, false, false, false, false, false, false, false, false] rfl rfl (any_of HT_.out (by kernel_rfl)) (fun _ _ _ h => h) (Or.inl ⟨by rfl, ?_⟩) ?_ ?_
    rotate_left
    · intro w'
      go_simp
      with_reducible rfl
    rotate_left
    · simp only [Act.put, List.setIfInBounds_toArray, List.set_cons_zero, List.set_cons_succ, i64_w, i32_w]
      rfl
    refine pure_ (i := 9) (N := some 20) (v := ?_) (a' := ?_) #[true, true, true, true, true, true, true, true, true, true, false, false, false, false, false, false, false, false, false, false, false, false, false] rfl rfl (any_of HT_.out (by kernel_rfl)) (fun _ _ _ h => h) (Or.inl ⟨by rfl, ?_⟩) ?_ ?_
    rotate_left
    · intro w'
      go_simp
      with_reducible rfl
    rotate_left
    · simp only [Act.put, List.setIfInBounds_toArray, List.set_cons_zero, List.set_cons_succ, i64_w, i32_w]
      rfl
    refine pure_ (i := 10) (N := some 21) (v := ?_) (a' := ?_) #[true, true, true, true, true, true, true, true, true, true, true, false, false, false, false, false, false, false, false, false, false, false, false] rfl rfl (any_of HT_.out (by kernel_rfl)) (fun _ _ _ h => h) (Or.inl ⟨by rfl, ?_⟩) ?_ ?_
    rotate_left
    · intro w'
      go_simp
      with_reducible rfl
    rotate_left
    · simp only [Act.put, List.setIfInBounds_toArray, List.set_cons_zero, List.set_cons_succ, i64_w, i32_w]
      rfl
    refine pure_ (i := 11) (N := some 22) (v := ?_) (a' := ?_) #[true, true, true, true, true, true, true, true, true, true, true, true, false, false, false, false, false, false, false, false, false, false, false] rfl rfl (any_of HT_.out (by kernel_rfl)) (fun _ _ _ h => h) (Or.inl ⟨by rfl, ?_⟩) ?_ ?_
    rotate_left
    · intro w'
      go_simp
      with_reducible rfl
    rotate_left
    · simp only [Act.put, List.setIfInBounds_toArray, List.set_cons_zero, List.set_cons_succ, i64_w, i32_w]
      rfl
    refine pure_ (i := 12) (N := some 23) (v := ?_) (a' := ?_) #[true, true, true, true, true, true, true, true, true, true, true, true, true, false, false, false, false, false, false, false, false, false, false] rfl rfl (any_of HT_.out (by kernel_rfl)) (fun _ _ _ h => h) (Or.inl ⟨by rfl, ?_⟩) ?_ ?_
    rotate_left
    · intro w'
      go_simp
      with_reducible rfl
    rotate_left
    · simp only [Act.put, List.setIfInBounds_toArray, List.set_cons_zero, List.set_cons_succ, i64_w, i32_w]
      rfl
    refine take_ (i := 13) (N := some 24) (v := ?_) (a' := ?_) #[true, true, true, true, true, true, true, true, true, true, true, true, true, true, false, false, false, false, false, false, false, false, false] rfl rfl (take_ofW HT_.out HW_.out (by kernel_rfl)) (fun _ _ _ h => h) (Or.inl ⟨by rfl, ?_⟩) hHeld ?_ ?_
    rotate_left
    · rintro w' ⟨s0, s1, s2, s3⟩
      go_simp
      with_reducible rfl
    rotate_left
    · simp only [Act.put, List.setIfInBounds_toArray, List.set_cons_zero, List.set_cons_succ, i64_w, i32_w]
      rfl
    refine pure_ (i := 14) (N := some 25) (v := ?_) (a' := ?_) #[true, true, true, true, true, true, true, true, true, true, true, true, true, true, true, false, false, false, false, false, false, false, false] rfl rfl (any_of HT_.out (by kernel_rfl)) (fun _ _ _ h => h) (Or.inl ⟨by rfl, ?_⟩) ?_ ?_
    rotate_left
    · intro w'
      go_simp
      with_reducible rfl
    rotate_left
    · simp only [Act.put, List.setIfInBounds_toArray, List.set_cons_zero, List.set_cons_succ, i64_w, i32_w]
      rfl
    refine take_ (i := 15) (N := some 26) (v := ?_) (a' := ?_) #[true, true, true, true, true, true, true, true, true, true, true, true, true, true, true, true, false, false, false, false, false, false, false] rfl rfl (take_ofW HT_.out HW_.out (by kernel_rfl)) (fun _ _ _ h => h) (Or.inl ⟨by rfl, ?_⟩) hHeld ?_ ?_
    rotate_left
    · rintro w' ⟨s0, s1, s2, s3⟩
      go_simp
      with_reducible rfl
    rotate_left
    · simp only [Act.put, List.setIfInBounds_toArray, List.set_cons_zero, List.set_cons_succ, i64_w, i32_w]
      rfl
    refine pure_ (i := 16) (N := some 27) (v := ?_) (a' := ?_) #[true, true, true, true, true, true, true, true, true, true, true, true, true, true, true, true, true, false, false, false, false, false, false] rfl rfl (any_of HT_.out (by kernel_rfl)) (fun _ _ _ h => h) (Or.inl ⟨by rfl, ?_⟩) ?_ ?_
    rotate_left
    · intro w'
      go_simp
      with_reducible rfl
    rotate_left
    · simp only [Act.put, List.setIfInBounds_toArray, List.set_cons_zero, List.set_cons_succ, i64_w, i32_w]
      rfl
    refine pure_ (i := 17) (N := some 28) (v := ?_) (a' := ?_) #[true, true, true, true, true, true, true, true, true, true, true, true, true, true, true, true, true, true, false, false, false, false, false] rfl rfl (any_of HT_.out (by kernel_rfl)) (fun _ _ _ h => h) (Or.inl ⟨by rfl, ?_⟩) ?_ ?_
    rotate_left
    · intro w'
      go_simp
      with_reducible rfl
    rotate_left
    · simp only [Act.put, List.setIfInBounds_toArray, List.set_cons_zero, List.set_cons_succ, i64_w, i32_w]
      rfl
    refine take_ (i := 18) (N := some 29) (v := ?_) (a' := ?_) #[true, true, true, true, true, true, true, true, true, true, true, true, true, true, true, true, true, true, true, false, false, false, false] rfl rfl (take_ofW HT_.out HW_.out (by kernel_rfl)) (fun _ _ _ h => h) (Or.inl ⟨by rfl, ?_⟩) hHeld ?_ ?_
    rotate_left
    · rintro w' ⟨s0, s1, s2, s3⟩
      go_simp
      with_reducible rfl
    rotate_left
    · simp only [Act.put, List.setIfInBounds_toArray, List.set_cons_zero, List.set_cons_succ, i64_w, i32_w]
      rfl
    refine pure_ (i := 19) (N := some 30) (v := ?_) (a' := ?_) #[true, true, true, true, true, true, true, true, true, true, true, true, true, true, true, true, true, true, true, true, false, false, false] rfl rfl (any_of HT_.out (by kernel_rfl)) (fun _ _ _ h => h) (Or.inl ⟨by rfl, ?_⟩) ?_ ?_
    rotate_left
    · intro w'
      go_simp
      with_reducible rfl
    rotate_left
    · simp only [Act.put, List.setIfInBounds_toArray, List.set_cons_zero, List.set_cons_succ, i64_w, i32_w]
      rfl
    refine take_ (i := 20) (N := some 31) (v := ?_) (a' := ?_) #[true, true, true, true, true, true, true, true, true, true, true, true, true, true, true, true, true, true, true, true, true, false, false] rfl rfl (take_ofW HT_.out HW_.out (by kernel_rfl)) (fun _ _ _ h => h) (Or.inl ⟨by rfl, ?_⟩) hHeld ?_ ?_
    rotate_left
    · rintro w' ⟨s0, s1, s2, s3⟩
      go_simp
      with_reducible rfl
    rotate_left
    · simp only [Act.put, List.setIfInBounds_toArray, List.set_cons_zero, List.set_cons_succ, i64_w, i32_w]
      rfl
    refine pure_ (i := 21) (N := some 32) (v := ?_) (a' := ?_) #[true, true, true, true, true, true, true, true, true, true, true, true, true, true, true, true, true, true, true, true, true, true, false] rfl rfl (any_of HT_.out (by kernel_rfl)) (fun _ _ _ h => h) (Or.inl ⟨by rfl, ?_⟩) ?_ ?_
    rotate_left
    · intro w'
      go_simp
      with_reducible rfl
    rotate_left
    · simp only [Act.put, List.setIfInBounds_toArray, List.set_cons_zero, List.set_cons_succ, i64_w, i32_w]
      rfl
    refine pure_ (i := 22) (N := some 33) (v := ?_) (a' := ?_) #[true, true, true, true, true, true, true, true, true, true, true, true, true, true, true, true, true, true, true, true, true, true, true] rfl rfl (any_of HT_.out (by kernel_rfl)) (fun _ _ _ h => h) (Or.inl ⟨by rfl, ?_⟩) ?_ ?_
    rotate_left
    · intro w'
      go_simp
      with_reducible rfl
    rotate_left
    · simp only [Act.put, List.setIfInBounds_toArray, List.set_cons_zero, List.set_cons_succ, i64_w, i32_w]
      rfl
    refine done_ (done_of HT_.out (by kernel_rfl)) ?_
    have hgr0 : wd.cell? ⟨gr, 0, none⟩ = some (.int .i64 0) := (blk_cell Bgr.out 0).trans rfl
    have hf0 := blk_frozen Bgr.out 0
    have hgr1 : wd.cell? ⟨gr, 1, none⟩ = some (.slice none 0 0) := (blk_cell Bgr.out 1).trans rfl
    have hf1 := blk_frozen Bgr.out 1
    go_wp2
    refine bodyPost_ret (results_ct rfl _ _ gr 29 #[.int .i64 0, .slice none 0 0] (0, 0) _ rfl (by (with_reducible repeat (first | refine blk_alloc ?_ _)); refine blk_put (cs := #[.int .i64 0, .slice none 0 0]) ?_ 1 _ rfl; refine blk_put (cs := #[.int .i64 0, .slice none 0 0]) ?_ 0 _ rfl; exact Bgr.out) Try.underlying29 rfl (by kernel_rfl)) rfl ?_
    exact ⟨_, rfl, Kd.R_nil _ _ _ _ _, below_set (below_set HB.out Ggr.out) Ggr.out⟩
  rw [if_pos hE] at h
  have hEb : (x.f0 != a1_0) = false := bne_eq_false_iff_eq.mpr hE
  have hEc : (x.f0 == a1_0) = true := beq_iff_eq.mpr hE
  clear hE
  refine start_ (n := 23) (S := fun w' => w'.cell? ⟨gc, 0, none⟩ = some (.int .i64 p) ∧ w'.cell? ⟨gp, 3, none⟩ = some (.slice (some ad) l0_3.length c0_3) ∧ w'.cell? ⟨gs, 0, none⟩ = some (.int .i64 a1_0) ∧ w'.cell? (ad.add (p * 7)) = some (.int .i64 x.f0)) (ds := []) #[false, false, false, false, false, false, false, false, false, false, false, false, false, false, false, false, false, false, false, false, false, false, false] (by kernel_rfl) rfl rfl ⟨(blk_cell Bgc.out 0).trans rfl, (blk_cell Bgp.out 3).trans rfl, (blk_cell Bgs.out 0).trans rfl, HXX.out.1⟩ (fun hHeld => ?_); refine with_tabW run_step.tab1 run_step.bits1 (fun HT_ HW_ => ?_)
  generalize hwd_ : w6.drew = wd at HB Bgp Bgs Bgc Bgr HXX hHeld ⊢
  clear hwd_
  refine pure_ (i := 0) (N := some 11) (v := ?_) (a' := ?_) #[true, false, false, false, false, false, false, false, false, false, false, false, false, false, false, false, false, false, false, false, false, false, false] rfl rfl (any_of HT_.out (by kernel_rfl)) (fun _ _ _ h => h) (Or.inl ⟨by rfl, ?_⟩) ?_ ?_
  rotate_left
  · intro w'
    go_simp
    with_reducible rfl
  rotate_left
  · simp only [Act.put, List.setIfInBounds_toArray, List.set_cons_zero, List.set_cons_succ, i64_w, i32_w]
    rfl
  refine take_ (i := 1) (N := some 12) (v := ?_) (a' := ?_) #[true, true, false, false, false, false, false, false, false, false, false, false, false, false, false, false, false, false, false, false, false, false, false] rfl rfl (take_ofW HT_.out HW_.out (by kernel_rfl)) (fun _ _ _ h => h) (Or.inl ⟨by rfl, ?_⟩) hHeld ?_ ?_
  rotate_left
  · rintro w' ⟨s0, s1, s2, s3⟩
    go_simp
    with_reducible rfl
  rotate_left
  · simp only [Act.put, List.setIfInBounds_toArray, List.set_cons_zero, List.set_cons_succ, i64_w, i32_w]
    rfl
  refine pure_ (i := 2) (N := some 13) (v := ?_) (a' := ?_) #[true, true, true, false, false, false, false, false, false, false, false, false, false, false, false, false, false, false, false, false, false, false, false] rfl rfl (any_of HT_.out (by kernel_rfl)) (fun _ _ _ h => h) (Or.inl ⟨by rfl, ?_⟩) ?_ ?_
  rotate_left
  · intro w'
    go_simp
    with_reducible rfl
  rotate_left
  · simp only [Act.put, List.setIfInBounds_toArray, List.set_cons_zero, List.set_cons_succ, i64_w, i32_w]
    rfl
  refine pure_ (i := 3) (N := some 14) (v := ?_) (a' := ?_) #[true, true, true, true, false, false, false, false, false, false, false, false, false, false, false, false, false, false, false, false, false, false, false] rfl rfl (any_of HT_.out (by kernel_rfl)) (fun _ _ _ h => h) (Or.inl ⟨by rfl, ?_⟩) ?_ ?_
  rotate_left
  · intro w'
    go_simp
    with_reducible rfl
  rotate_left
  · simp only [Act.put, List.setIfInBounds_toArray, List.set_cons_zero, List.set_cons_succ, i64_w, i32_w]
    rfl
  refine pure_ (i := 4) (N := some 15) (v := ?_) (a' := ?_) #[true, true, true, true, true, false, false, false, false, false, false, false, false, false, false, false, false, false, false, false, false, false, false] rfl rfl (any_of HT_.out (by kernel_rfl)) (fun _ _ _ h => h) (Or.inl ⟨by rfl, ?_⟩) ?_ ?_
  rotate_left
  · intro w'
    go_simp
    with_reducible rfl
  rotate_left
  · simp only [Act.put, List.setIfInBounds_toArray, List.set_cons_zero, List.set_cons_succ, i64_w, i32_w]
    rfl
  refine take_ (i := 5) (N := some 16) (v := ?_) (a' := ?_) #[true, true, true, true, true, true, false, false, false, false, false, false, false, false, false, false, false, false, false, false, false, false, false] rfl rfl (take_ofW HT_.out HW_.out (by kernel_rfl)) (fun _ _ _ h => h) (Or.inl ⟨by rfl, ?_⟩) hHeld ?_ ?_
  rotate_left
  · rintro w' ⟨s0, s1, s2, s3⟩
    go_simp
    with_reducible rfl
  rotate_left
  · simp only [Act.put, List.setIfInBounds_toArray, List.set_cons_zero, List.set_cons_succ, i64_w, i32_w]
    rfl
  refine pure_ (i := 6) (N := some 17) (v := ?_) (a' := ?_) #[true, true, true, true, true, true, true, false, false, false, false, false, false, false, false, false, false, false, false, false, false, false, false] rfl rfl (any_of HT_.out (by kernel_rfl)) (fun _ _ _ h => h) (Or.inl ⟨by rfl, ?_⟩) ?_ ?_
  rotate_left
  · intro w'
    go_simp
    with_reducible rfl
  rotate_left
  · simp only [Act.put, List.setIfInBounds_toArray, List.set_cons_zero, List.set_cons_succ, i64_w, i32_w]
    rfl
  refine take_ (i := 7) (N := some 18) (v := ?_) (a' := ?_) #[true, true, true, true, true, true, true, true, false, false, false, false, false, false, false, false, false, false, false, false, false, false, false] rfl rfl (take_ofW HT_.out HW_.out (by kernel_rfl)) (fun _ _ _ h => h) (Or.inl ⟨by rfl, ?_⟩) hHeld ?_ ?_
  rotate_left
  · rintro w' ⟨s0, s1, s2, s3⟩
    go_simp
    with_reducible rfl
  rotate_left
  · simp only [Act.put, List.setIfInBounds_toArray, List.set_cons_zero, List.set_cons_succ, i64_w, i32_w]
    rfl
  refine pure_ (i := 8) (N := some 19) (v := ?_) (a' := ?_) #[true, true, true, true, true, true, true, true, true, false, false, false, false, false, false, false, false, false, false, false, false, false, false] rfl rfl (any_of HT_.out (by kernel_rfl)) (fun _ _ _ h => h) (Or.inl ⟨by rfl, ?_⟩) ?_ ?_
  rotate_left
  · intro w'
    go_simp
    with_reducible rfl
  rotate_left
  · simp only [Act.put, List.setIfInBounds_toArray, List.set_cons_zero, List.set_cons_succ, i64_w, i32_w]
    rfl
  refine pure_ (i := 9) (N := some 20) (v := ?_) (a' := ?_) #[true, true, true, true, true, true, true, true, true, true, false, false, false, false, false, false, false, false, false, false, false, false, false] rfl rfl (any_of HT_.out (by kernel_rfl)) (fun _ _ _ h => h) (Or.inl ⟨by rfl, ?_⟩) ?_ ?_
  rotate_left
  · intro w'
    go_simp
    with_reducible rfl
  rotate_left
  · simp only [Act.put, List.setIfInBounds_toArray, List.set_cons_zero, List.set_cons_succ, i64_w, i32_w]
    rfl
  refine pure_ (i := 10) (N := some 21) (v := ?_) (a' := ?_) #[true, true, true, true, true, true, true, true, true, true, true, false, false, false, false, false, false, false, false, false, false, false, false] rfl rfl (any_of HT_.out (by kernel_rfl)) (fun _ _ _ h => h) (Or.inl ⟨by rfl, ?_⟩) ?_ ?_
  rotate_left
  · intro w'
    go_simp
    with_reducible rfl
  rotate_left
  · simp only [Act.put, List.setIfInBounds_toArray, List.set_cons_zero, List.set_cons_succ, i64_w, i32_w]
    rfl
  refine pure_ (i := 11) (N := some 22) (v := ?_) (a' := ?_) #[true, true, true, true, true, true, true, true, true, true, true, true, false, false, false, false, false, false, false, false, false, false, false] rfl rfl (any_of HT_.out (by kernel_rfl)) (fun _ _ _ h => h) (Or.inl ⟨by rfl, ?_⟩) ?_ ?_
  rotate_left
  · intro w'
    go_simp
    with_reducible rfl
  rotate_left
  · simp only [Act.put, List.setIfInBounds_toArray, List.set_cons_zero, List.set_cons_succ, i64_w, i32_w]
    rfl
  refine pure_ (i := 12) (N := some 23) (v := ?_) (a' := ?_) #[true, true, true, true, true, true, true, true, true, true, true, true, true, false, false, false, false, false, false, false, false, false, false] rfl rfl (any_of HT_.out (by kernel_rfl)) (fun _ _ _ h => h) (Or.inl ⟨by rfl, ?_⟩) ?_ ?_
  rotate_left
  · intro w'
    go_simp
    with_reducible rfl
  rotate_left
  · simp only [Act.put, List.setIfInBounds_toArray, List.set_cons_zero, List.set_cons_succ, i64_w, i32_w]
    rfl
  refine take_ (i := 13) (N := some 24) (v := ?_) (a' := ?_) #[true, true, true, true, true, true, true, true, true, true, true, true, true, true, false, false, false, false, false, false, false, false, false] rfl rfl (take_ofW HT_.out HW_.out (by kernel_rfl)) (fun _ _ _ h => h) (Or.inl ⟨by rfl, ?_⟩) hHeld ?_ ?_
  rotate_left
  · rintro w' ⟨s0, s1, s2, s3⟩
    go_simp
    with_reducible rfl
  rotate_left
  · simp only [Act.put, List.setIfInBounds_toArray, List.set_cons_zero, List.set_cons_succ, i64_w, i32_w]
    rfl
  refine pure_ (i := 14) (N := some 25) (v := ?_) (a' := ?_) #[true, true, true, true, true, true, true, true, true, true, true, true, true, true, true, false, false, false, false, false, false, false, false] rfl rfl (any_of HT_.out (by kernel_rfl)) (fun _ _ _ h => h) (Or.inl ⟨by rfl, ?_⟩) ?_ ?_
  rotate_left
  · intro w'
    go_simp
    with_reducible rfl
  rotate_left
  · simp only [Act.put, List.setIfInBounds_toArray, List.set_cons_zero, List.set_cons_succ, i64_w, i32_w]
    rfl
  refine take_ (i := 15) (N := some 26) (v := ?_) (a' := ?_) #[true, true, true, true, true, true, true, true, true, true, true, true, true, true, true, true, false, false, false, false, false, false, false] rfl rfl (take_ofW HT_.out HW_.out (by kernel_rfl)) (fun _ _ _ h => h) (Or.inl ⟨by rfl, ?_⟩) hHeld ?_ ?_
  rotate_left
  · rintro w' ⟨s0, s1, s2, s3⟩
    go_simp
    with_reducible rfl
  rotate_left
  · simp only [Act.put, List.setIfInBounds_toArray, List.set_cons_zero, List.set_cons_succ, i64_w, i32_w]
    rfl
  refine pure_ (i := 16) (N := some 27) (v := ?_) (a' := ?_) #[true, true, true, true, true, true, true, true, true, true, true, true, true, true, true, true, true, false, false, false, false, false, false] rfl rfl (any_of HT_.out (by kernel_rfl)) (fun _ _ _ h => h) (Or.inl ⟨by rfl, ?_⟩) ?_ ?_
  rotate_left
  · intro w'
    go_simp
    with_reducible rfl
  rotate_left
  · simp only [Act.put, List.setIfInBounds_toArray, List.set_cons_zero, List.set_cons_succ, i64_w, i32_w]
    rfl
  refine pure_ (i := 17) (N := some 28) (v := ?_) (a' := ?_) #[true, true, true, true, true, true, true, true, true, true, true, true, true, true, true, true, true, true, false, false, false, false, false] rfl rfl (any_of HT_.out (by kernel_rfl)) (fun _ _ _ h => h) (Or.inl ⟨by rfl, ?_⟩) ?_ ?_
  rotate_left
  · intro w'
    go_simp
    with_reducible rfl
  rotate_left
  · simp only [Act.put, List.setIfInBounds_toArray, List.set_cons_zero, List.set_cons_succ, i64_w, i32_w]
    rfl
  refine take_ (i := 18) (N := some 29) (v := ?_) (a' := ?_) #[true, true, true, true, true, true, true, true, true, true, true, true, true, true, true, true, true, true, true, false, false, false, false] rfl rfl (take_ofW HT_.out HW_.out (by kernel_rfl)) (fun _ _ _ h => h) (Or.inl ⟨by rfl, ?_⟩) hHeld ?_ ?_
  rotate_left
  · rintro w' ⟨s0, s1, s2, s3⟩
    go_simp
    with_reducible rfl
  rotate_left
  · simp only [Act.put, List.setIfInBounds_toArray, List.set_cons_zero, List.set_cons_succ, i64_w, i32_w]
    rfl
  refine pure_ (i := 19) (N := some 30) (v := ?_) (a' := ?_) #[true, true, true, true, true, true, true, true, true, true, true, true, true, true, true, true, true, true, true, true, false, false, false] rfl rfl (any_of HT_.out (by kernel_rfl)) (fun _ _ _ h => h) (Or.inl ⟨by rfl, ?_⟩) ?_ ?_
  rotate_left
  · intro w'
    go_simp
    with_reducible rfl
  rotate_left
  · simp only [Act.put, List.setIfInBounds_toArray, List.set_cons_zero, List.set_cons_succ, i64_w, i32_w]
    rfl
  refine take_ (i := 20) (N := some 31) (v := ?_) (a' := ?_) #[true, true, true, true, true, true, true, true, true, true, true, true, true, true, true, true, true, true, true, true, true, false, false] rfl rfl (take_ofW HT_.out HW_.out (by kernel_rfl)) (fun _ _ _ h => h) (Or.inl ⟨by rfl, ?_⟩) hHeld ?_ ?_
  rotate_left
  · rintro w' ⟨s0, s1, s2, s3⟩
    go_simp
    with_reducible rfl
  rotate_left
  · simp only [Act.put, List.setIfInBounds_toArray, List.set_cons_zero, List.set_cons_succ, i64_w, i32_w]
    rfl
  refine pure_ (i := 21) (N := some 32) (v := ?_) (a' := ?_) #[true, true, true, true, true, true, true, true, true, true, true, true, true, true, true, true, true, true, true, true, true, true, false] rfl rfl (any_of HT_.out (by kernel_rfl)) (fun _ _ _ h => h) (Or.inl ⟨by rfl, ?_⟩) ?_ ?_
  rotate_left
  · intro w'
    go_simp
    with_reducible rfl
  rotate_left
  · simp only [Act.put, List.setIfInBounds_toArray, List.set_cons_zero, List.set_cons_succ, i64_w, i32_w]
    rfl
  refine pure_ (i := 22) (N := some 33) (v := ?_) (a' := ?_) #[true, true, true, true, true, true, true, true, true, true, true, true, true, true, true, true, true, true, true, true, true, true, true] rfl rfl (any_of HT_.out (by kernel_rfl)) (fun _ _ _ h => h) (Or.inl ⟨by rfl, ?_⟩) ?_ ?_
  rotate_left
  · intro w'
    go_simp
    with_reducible rfl
  rotate_left
  · simp only [Act.put, List.setIfInBounds_toArray, List.set_cons_zero, List.set_cons_succ, i64_w, i32_w]
    rfl
  refine done_ (done_of HT_.out (by kernel_rfl)) ?_
  have hgp0 : wd.cell? ⟨gp, 0, none⟩ = some (.string a0_0) := (blk_cell Bgp.out 0).trans rfl
  have hgp1 : wd.cell? ⟨gp, 1, none⟩ = some (.slice A0_1 l0_1.length c0_1) := (blk_cell Bgp.out 1).trans rfl
  have hgp2 : wd.cell? ⟨gp, 2, none⟩ = some (.slice A0_2 l0_2.length c0_2) := (blk_cell Bgp.out 2).trans rfl
  have hgp3 : wd.cell? ⟨gp, 3, none⟩ = some (.slice (some ad) l0_3.length c0_3) := (blk_cell Bgp.out 3).trans rfl
  have hgs0 : wd.cell? ⟨gs, 0, none⟩ = some (.int .i64 a1_0) := (blk_cell Bgs.out 0).trans rfl
  have hgs1 : wd.cell? ⟨gs, 1, none⟩ = some (.slice A1_1 l1_1.length c1_1) := (blk_cell Bgs.out 1).trans rfl
  have hgc0 : wd.cell? ⟨gc, 0, none⟩ = some (.int .i64 p) := (blk_cell Bgc.out 0).trans rfl
  have hgc1 : wd.cell? ⟨gc, 1, none⟩ = some (.int .i64 a2_1) := (blk_cell Bgc.out 1).trans rfl
  have hgr0 : wd.cell? ⟨gr, 0, none⟩ = some (.int .i64 0) := (blk_cell Bgr.out 0).trans rfl
  have hgr1 : wd.cell? ⟨gr, 1, none⟩ = some (.slice none 0 0) := (blk_cell Bgr.out 1).trans rfl
  obtain ⟨hx0, hx1, hx2, hx3, hx4, hx5, hx6⟩ := HXX.out
  go_wp2_with (first | ((with_reducible refine gate_dst (N := 8) rfl ?_); refine bx_ (N := 8) (cs := #[.int .i64 0, .int .i64 0, .int .i64 0, .int .i64 0, .int .i64 0, .int .i64 0, .int .i64 0]) (t := 57) ?_; intro ge hg w8 hbox hb; (try clear hgp0 hgp1 hgp2 hgp3 hgs0 hgs1 hgc0 hgc1 hgr0 hgr1); have n_ := a_ (bb_ Bgp hb) (a_ (bb_ Bgs hb) (a_ (bb_ Bgc hb) (a_ (bb_ Bgr hb) (a_ (bs_ HB hb) (a_ (Aside0.mk hbox) (gs_ HB hg)))))); clear HB Bgp Bgs Bgc Bgr hbox hb hg; obtain ⟨Bgp, Bgs, Bgc, Bgr, HB, Bge, Gge⟩ := n_; have hgp0 : w8.cell? ⟨gp, 0, none⟩ = some (.string a0_0) := (blk_cell Bgp.out 0).trans rfl; have hgp1 : w8.cell? ⟨gp, 1, none⟩ = some (.slice A0_1 l0_1.length c0_1) := (blk_cell Bgp.out 1).trans rfl; have hgp2 : w8.cell? ⟨gp, 2, none⟩ = some (.slice A0_2 l0_2.length c0_2) := (blk_cell Bgp.out 2).trans rfl; have hgp3 : w8.cell? ⟨gp, 3, none⟩ = some (.slice (some ad) l0_3.length c0_3) := (blk_cell Bgp.out 3).trans rfl; have hgs0 : w8.cell? ⟨gs, 0, none⟩ = some (.int .i64 a1_0) := (blk_cell Bgs.out 0).trans rfl; have hgs1 : w8.cell? ⟨gs, 1, none⟩ = some (.slice A1_1 l1_1.length c1_1) := (blk_cell Bgs.out 1).trans rfl; have hgc0 : w8.cell? ⟨gc, 0, none⟩ = some (.int .i64 p) := (blk_cell Bgc.out 0).trans rfl; have hgc1 : w8.cell? ⟨gc, 1, none⟩ = some (.int .i64 a2_1) := (blk_cell Bgc.out 1).trans rfl; have hgr0 : w8.cell? ⟨gr, 0, none⟩ = some (.int .i64 0) := (blk_cell Bgr.out 0).trans rfl; have hgr1 : w8.cell? ⟨gr, 1, none⟩ = some (.slice none 0 0) := (blk_cell Bgr.out 1).trans rfl; have hge0 : w8.cell? ⟨ge, 0, none⟩ = some (.int .i64 0) := (blk_cell Bge.out 0).trans rfl; have hge1 : w8.cell? ⟨ge, 1, none⟩ = some (.int .i64 0) := (blk_cell Bge.out 1).trans rfl; have hge2 : w8.cell? ⟨ge, 2, none⟩ = some (.int .i64 0) := (blk_cell Bge.out 2).trans rfl; have hge3 : w8.cell? ⟨ge, 3, none⟩ = some (.int .i64 0) := (blk_cell Bge.out 3).trans rfl; have hge4 : w8.cell? ⟨ge, 4, none⟩ = some (.int .i64 0) := (blk_cell Bge.out 4).trans rfl; have hge5 : w8.cell? ⟨ge, 5, none⟩ = some (.int .i64 0) := (blk_cell Bge.out 5).trans rfl; have hge6 : w8.cell? ⟨ge, 6, none⟩ = some (.int .i64 0) := (blk_cell Bge.out 6).trans rfl; have hfge0 := blk_frozen Bge.out 0; have hfge1 := blk_frozen Bge.out 1; have hfge2 := blk_frozen Bge.out 2; have hfge3 := blk_frozen Bge.out 3; have hfge4 := blk_frozen Bge.out 4; have hfge5 := blk_frozen Bge.out 5; have hfge6 := blk_frozen Bge.out 6))
  refine wp_world (Q := fun w' => w'.heap[ge]? = some (.cells #[.int .i64 x.f0, .int .i64 x.f1, .int .i64 x.f2.f0, .int .i64 x.f2.f1, .int .i64 x.f2.f2, .int .i64 x.f2.f3, .int .i64 x.f2.f4] 57 (0, 0)) ∧ w'.heap[gp]? = some (.cells #[.string a0_0, .slice A0_1 l0_1.length c0_1, .slice A0_2 l0_2.length c0_2, .slice (some ad) l0_3.length c0_3] 26 (0, 0)) ∧ w'.heap[gs]? = some (.cells #[.int .i64 a1_0, .slice A1_1 l1_1.length c1_1] 29 (0, 0)) ∧ w'.heap[gc]? = some (.cells #[.int .i64 p, .int .i64 a2_1] 31 (0, 0)) ∧ w'.heap[gr]? = some (.cells #[.int .i64 0, .slice none 0 0] 29 (0, 0)) ∧ Below w.heap.size w w') ⟨(by refine blk_put (cs := #[.int .i64 x.f0, .int .i64 x.f1, .int .i64 x.f2.f0, .int .i64 x.f2.f1, .int .i64 x.f2.f2, .int .i64 x.f2.f3, .int .i64 0]) ?_ 6 _ rfl; refine blk_put (cs := #[.int .i64 x.f0, .int .i64 x.f1, .int .i64 x.f2.f0, .int .i64 x.f2.f1, .int .i64 x.f2.f2, .int .i64 0, .int .i64 0]) ?_ 5 _ rfl; refine blk_put (cs := #[.int .i64 x.f0, .int .i64 x.f1, .int .i64 x.f2.f0, .int .i64 x.f2.f1, .int .i64 0, .int .i64 0, .int .i64 0]) ?_ 4 _ rfl; refine blk_put (cs := #[.int .i64 x.f0, .int .i64 x.f1, .int .i64 x.f2.f0, .int .i64 0, .int .i64 0, .int .i64 0, .int .i64 0]) ?_ 3 _ rfl; refine blk_put (cs := #[.int .i64 x.f0, .int .i64 x.f1, .int .i64 0, .int .i64 0, .int .i64 0, .int .i64 0, .int .i64 0]) ?_ 2 _ rfl; refine blk_put (cs := #[.int .i64 x.f0, .int .i64 0, .int .i64 0, .int .i64 0, .int .i64 0, .int .i64 0, .int .i64 0]) ?_ 1 _ rfl; refine blk_put (cs := #[.int .i64 0, .int .i64 0, .int .i64 0, .int .i64 0, .int .i64 0, .int .i64 0, .int .i64 0]) ?_ 0 _ rfl; exact Bge.out), (blk_far (blk_far (blk_far (blk_far (blk_far (blk_far (blk_far Bgp.out (blk_ne Bgp.out Bge.out (by decide)) _) (blk_ne Bgp.out Bge.out (by decide)) _) (blk_ne Bgp.out Bge.out (by decide)) _) (blk_ne Bgp.out Bge.out (by decide)) _) (blk_ne Bgp.out Bge.out (by decide)) _) (blk_ne Bgp.out Bge.out (by decide)) _) (blk_ne Bgp.out Bge.out (by decide)) _), (blk_far (blk_far (blk_far (blk_far (blk_far (blk_far (blk_far Bgs.out (blk_ne Bgs.out Bge.out (by decide)) _) (blk_ne Bgs.out Bge.out (by decide)) _) (blk_ne Bgs.out Bge.out (by decide)) _) (blk_ne Bgs.out Bge.out (by decide)) _) (blk_ne Bgs.out Bge.out (by decide)) _) (blk_ne Bgs.out Bge.out (by decide)) _) (blk_ne Bgs.out Bge.out (by decide)) _), (blk_far (blk_far (blk_far (blk_far (blk_far (blk_far (blk_far Bgc.out (blk_ne Bgc.out Bge.out (by decide)) _) (blk_ne Bgc.out Bge.out (by decide)) _) (blk_ne Bgc.out Bge.out (by decide)) _) (blk_ne Bgc.out Bge.out (by decide)) _) (blk_ne Bgc.out Bge.out (by decide)) _) (blk_ne Bgc.out Bge.out (by decide)) _) (blk_ne Bgc.out Bge.out (by decide)) _), (blk_far (blk_far (blk_far (blk_far (blk_far (blk_far (blk_far Bgr.out (blk_ne Bgr.out Bge.out (by decide)) _) (blk_ne Bgr.out Bge.out (by decide)) _) (blk_ne Bgr.out Bge.out (by decide)) _) (blk_ne Bgr.out Bge.out (by decide)) _) (blk_ne Bgr.out Bge.out (by decide)) _) (blk_ne Bgr.out Bge.out (by decide)) _) (blk_ne Bgr.out Bge.out (by decide)) _), (below_set (below_set (below_set (below_set (below_set (below_set (below_set HB.out Gge.out) Gge.out) Gge.out) Gge.out) Gge.out) Gge.out) Gge.out)⟩ ?_
  clear HB Bgp Bgs Bgc Bgr Bge HXX hx0 hx1 hx2 hx3 hx4 hx5 hx6 hgp0 hgp1 hgp2 hgp3 hgs0 hgs1 hgc0 hgc1 hgr0 hgr1 hge0 hge1 hge2 hge3 hge4 hge5 hge6 hfge0 hfge1 hfge2 hfge3 hfge4 hfge5 hfge6
  rintro w9 ⟨hge, hgp, hgs, hgc, hgr, hb⟩
  have HB := Aside0.mk hb
  have Bge := Aside0.mk hge
  have Bgp := Aside0.mk hgp
  have Bgs := Aside0.mk hgs
  have Bgc := Aside0.mk hgc
  have Bgr := Aside0.mk hgr
  clear hb hge hgp hgs hgc hgr
  have n_ := a_ (Aside0.mk (blk_drew Bgp.out)) (a_ (Aside0.mk (blk_drew Bgs.out)) (a_ (Aside0.mk (blk_drew Bgc.out)) (a_ (Aside0.mk (blk_drew Bgr.out)) (a_ (Aside0.mk (blk_drew Bge.out)) (Aside0.mk HB.out.drew)))))
  clear Bgp Bgs Bgc Bgr Bge HB
  obtain ⟨Bgp, Bgs, Bgc, Bgr, Bge, HB⟩ := n_
  refine start_ (n := 10) (S := fun w' => w'.cell? ⟨ge, 2, none⟩ = some (.int .i64 x.f2.f0) ∧ w'.cell? ⟨ge, 3, none⟩ = some (.int .i64 x.f2.f1) ∧ w'.cell? ⟨ge, 4, none⟩ = some (.int .i64 x.f2.f2) ∧ w'.cell? ⟨ge, 5, none⟩ = some (.int .i64 x.f2.f3) ∧ w'.cell? ⟨ge, 6, none⟩ = some (.int .i64 x.f2.f4) ∧ w'.cell? ⟨gs, 1, none⟩ = some (.slice A1_1 l1_1.length c1_1) ∧ w'.cell? ⟨gc, 1, none⟩ = some (.int .i64 a2_1)) (ds := []) #[false, false, false, false, false, false, false, false, false, false] (by kernel_rfl) rfl rfl ⟨(blk_cell Bge.out 2).trans rfl, (blk_cell Bge.out 3).trans rfl, (blk_cell Bge.out 4).trans rfl, (blk_cell Bge.out 5).trans rfl, (blk_cell Bge.out 6).trans rfl, (blk_cell Bgs.out 1).trans rfl, (blk_cell Bgc.out 1).trans rfl⟩ (fun hHeld => ?_); refine with_tabW run_step.tab4 run_step.bits4 (fun HT_ HW_ => ?_)
  generalize hwd_ : w9.drew = wd at HB Bgp Bgs Bgc Bgr Bge hHeld ⊢
  clear hwd_
  refine pure_ (i := 0) (N := some 41) (v := ?_) (a' := ?_) #[true, false, false, false, false, false, false, false, false, false] rfl rfl (any_of HT_.out (by kernel_rfl)) (fun _ _ _ h => h) (Or.inl ⟨by rfl, ?_⟩) ?_ ?_
  rotate_left
  · intro w'
    go_simp
    with_reducible rfl
  rotate_left
  · simp only [Act.put, List.setIfInBounds_toArray, List.set_cons_zero, List.set_cons_succ, i64_w, i32_w]
    rfl
  refine take_ (i := 1) (N := some 42) (v := ?_) (a' := ?_) #[true, true, false, false, false, false, false, false, false, false] rfl rfl (take_ofW HT_.out HW_.out (by kernel_rfl)) (fun _ _ _ h => h) (Or.inl ⟨by rfl, ?_⟩) hHeld ?_ ?_
  rotate_left
  · rintro w' ⟨s0, s1, s2, s3, s4, s5, s6⟩
    go_simp
    with_reducible rfl
  rotate_left
  · simp only [Act.put, List.setIfInBounds_toArray, List.set_cons_zero, List.set_cons_succ, i64_w, i32_w]
    rfl
  refine pure_ (i := 2) (N := some 43) (v := ?_) (a' := ?_) #[true, true, true, false, false, false, false, false, false, false] rfl rfl (any_of HT_.out (by kernel_rfl)) (fun _ _ _ h => h) (Or.inl ⟨by rfl, ?_⟩) ?_ ?_
  rotate_left
  · intro w'
    go_simp
    with_reducible rfl
  rotate_left
  · simp only [Act.put, List.setIfInBounds_toArray, List.set_cons_zero, List.set_cons_succ, i64_w, i32_w]
    rfl
  refine take_ (i := 3) (N := some 44) (v := ?_) (a' := ?_) #[true, true, true, true, false, false, false, false, false, false] rfl rfl (take_ofW HT_.out HW_.out (by kernel_rfl)) (fun _ _ _ h => h) (Or.inl ⟨by rfl, ?_⟩) hHeld ?_ ?_
  rotate_left
  · rintro w' ⟨s0, s1, s2, s3, s4, s5, s6⟩
    go_simp
    with_reducible rfl
  rotate_left
  · simp only [Act.put, List.setIfInBounds_toArray, List.set_cons_zero, List.set_cons_succ, i64_w, i32_w]
    rfl
  refine pure_ (i := 5) (N := some 46) (v := ?_) (a' := ?_) #[true, true, true, true, false, true, false, false, false, false] rfl rfl (any_of HT_.out (by kernel_rfl)) (fun _ _ _ h => h) (Or.inl ⟨by rfl, ?_⟩) ?_ ?_
  rotate_left
  · intro w'
    go_simp
    with_reducible rfl
  rotate_left
  · simp only [Act.put, List.setIfInBounds_toArray, List.set_cons_zero, List.set_cons_succ, i64_w, i32_w]
    rfl
  refine take_ (i := 6) (N := some 47) (v := ?_) (a' := ?_) #[true, true, true, true, false, true, true, false, false, false] rfl rfl (take_ofW HT_.out HW_.out (by kernel_rfl)) (fun _ _ _ h => h) (Or.inl ⟨by rfl, ?_⟩) hHeld ?_ ?_
  rotate_left
  · rintro w' ⟨s0, s1, s2, s3, s4, s5, s6⟩
    go_simp
    with_reducible rfl
  rotate_left
  · simp only [Act.put, List.setIfInBounds_toArray, List.set_cons_zero, List.set_cons_succ, i64_w, i32_w]
    rfl
  refine one_ (i := 4) (N := some 45) #[true, true, true, true, true, true, true, false, false, false] rfl rfl (one_of HT_.out (by kernel_rfl)) (by decide) (fun K hK => ?_)
  refine goes_ Try.func31 (by kernel_rfl) rfl #[.slice A1_1 l1_1.length c1_1] (by rfl) rfl rfl (by (try simp only [List.map_toArray, List.map_cons, List.map_nil]); first | done | rfl | (simp only [List.length_drop, List.length_take]; rfl)) ?_
  with_reducible refine (slices_Clone_int_int.calls A1_1 c1_1 l1_1 l1_1 _ (Kd.C_below HR4.out HB.out) HC4.out (run_step.clone l1_1 HL1.out)).mono ?_
  rintro e_ w10 ⟨v0_, rfl, ho, hb⟩
  obtain ⟨AV, cap, rfl⟩ := Kd.R_slice ho
  refine ⟨_, rfl, ?_⟩
  have HO := Aside0.mk (Kd.R_lower ho (below_size HB.out))
  clear ho
  have n_ := a_ (Aside0.mk (blk_below Bgp.out hb)) (a_ (Aside0.mk (blk_below Bgs.out hb)) (a_ (Aside0.mk (blk_below Bgc.out hb)) (a_ (Aside0.mk (blk_below Bgr.out hb)) (a_ (Aside0.mk (blk_below Bge.out hb)) (a_ (HO) (bs_ HB hb))))))
  clear Bgp Bgs Bgc Bgr Bge HO HB hb
  obtain ⟨Bgp, Bgs, Bgc, Bgr, Bge, HO, HB⟩ := n_
  refine hK.out _ _ ⟨(blk_cell Bge.out 2).trans rfl, (blk_cell Bge.out 3).trans rfl, (blk_cell Bge.out 4).trans rfl, (blk_cell Bge.out 5).trans rfl, (blk_cell Bge.out 6).trans rfl, (blk_cell Bgs.out 1).trans rfl, (blk_cell Bgc.out 1).trans rfl⟩ (fun hHeld => ?_)
  clear hK K
  refine norm_ (a' := ?_) ?_ ?_
  rotate_left
  · show Act.put _ (some 45) _ = _
    simp only [Act.put, List.setIfInBounds_toArray, List.set_cons_zero, List.set_cons_succ, i64_w, i32_w]
    rfl
  refine pure_ (i := 7) (N := some 48) (v := ?_) (a' := ?_) #[true, true, true, true, true, true, true, true, false, false] rfl rfl (any_of HT_.out (by kernel_rfl)) (fun _ _ _ h => h) (Or.inl ⟨by rfl, ?_⟩) ?_ ?_
  rotate_left
  · intro w'
    go_simp
    with_reducible rfl
  rotate_left
  · simp only [Act.put, List.setIfInBounds_toArray, List.set_cons_zero, List.set_cons_succ, i64_w, i32_w]
    rfl
  refine one_ (i := 8) (N := some 49) #[true, true, true, true, true, true, true, true, true, false] rfl rfl (one_of HT_.out (by kernel_rfl)) (by decide) (fun K hK => ?_)
  refine box_step (by rfl) (N := 49) rfl (cs := #[.int .i64 x.f2.f0, .int .i64 x.f2.f1, .int .i64 x.f2.f2, .int .i64 x.f2.f3, .int .i64 x.f2.f4, .slice AV l1_1.length cap, .int .i64 a2_1]) (t := 73) (by first | (go_simp; done) | (go_simp; rfl)) ?_
  intro gm hg w11 hbox hb
  have Bgm := Aside0.mk hbox
  clear hg hbox
  have n_ := a_ (Aside0.mk (blk_below Bgp.out hb)) (a_ (Aside0.mk (blk_below Bgs.out hb)) (a_ (Aside0.mk (blk_below Bgc.out hb)) (a_ (Aside0.mk (blk_below Bgr.out hb)) (a_ (Aside0.mk (blk_below Bge.out hb)) (a_ (Aside0.mk (Kd.R_below HO.out hb)) (bs_ HB hb))))))
  clear Bgp Bgs Bgc Bgr Bge HO HB hb
  obtain ⟨Bgp, Bgs, Bgc, Bgr, Bge, HO, HB⟩ := n_
  refine hK.out _ _ ⟨(blk_cell Bge.out 2).trans rfl, (blk_cell Bge.out 3).trans rfl, (blk_cell Bge.out 4).trans rfl, (blk_cell Bge.out 5).trans rfl, (blk_cell Bge.out 6).trans rfl, (blk_cell Bgs.out 1).trans rfl, (blk_cell Bgc.out 1).trans rfl⟩ (fun hHeld => ?_)
  clear hK K
  refine norm_ (a' := ?_) ?_ ?_
  rotate_left
  · show Act.put _ (some 49) _ = _
    simp only [Act.put, List.setIfInBounds_toArray, List.set_cons_zero, List.set_cons_succ, i64_w, i32_w]
    rfl
  refine pure_ (i := 9) (N := some 9) (v := ?_) (a' := ?_) #[true, true, true, true, true, true, true, true, true, true] rfl rfl (any_of HT_.out (by kernel_rfl)) (fun _ _ _ h => h) (Or.inl ⟨by rfl, ?_⟩) ?_ ?_
  rotate_left
  · intro w'
    go_simp
    with_reducible rfl
  rotate_left
  · simp only [Act.put, List.setIfInBounds_toArray, List.set_cons_zero, List.set_cons_succ, i64_w, i32_w]
    rfl
  refine done_ (done_of HT_.out (by kernel_rfl)) ?_
  go_wp2
  have n_ := a_ (Aside0.mk (blk_drew Bgr.out)) (a_ (Aside0.mk (blk_drew Bge.out)) (a_ (Aside0.mk (blk_drew Bgm.out)) (a_ (Aside0.mk (Kd.R_drew HO.out)) (Aside0.mk HB.out.drew))))
  clear Bgr Bge Bgm HO HB
  obtain ⟨Bgr, Bge, Bgm, HO, HB⟩ := n_
  refine start_ (n := 8) (S := fun w' => w'.cell? ⟨ge, 2, none⟩ = some (.int .i64 x.f2.f0) ∧ w'.cell? ⟨ge, 1, none⟩ = some (.int .i64 x.f1)) (ds := []) #[false, false, false, false, false, false, false, false] (by kernel_rfl) rfl rfl ⟨(blk_cell Bge.out 2).trans rfl, (blk_cell Bge.out 1).trans rfl⟩ (fun hHeld => ?_); refine with_tabW run_step.tab5 run_step.bits5 (fun HT_ HW_ => ?_)
  generalize hwd_ : w11.drew = wd at HB Bgr Bge Bgm HO hHeld ⊢
  clear hwd_
  refine pure_ (i := 1) (N := some 51) (v := ?_) (a' := ?_) #[false, true, false, false, false, false, false, false] rfl rfl (any_of HT_.out (by kernel_rfl)) (fun _ _ _ h => h) (Or.inl ⟨by rfl, ?_⟩) ?_ ?_
  rotate_left
  · intro w'
    go_simp
    with_reducible rfl
  rotate_left
  · simp only [Act.put, List.setIfInBounds_toArray, List.set_cons_zero, List.set_cons_succ, i64_w, i32_w]
    rfl
  refine pure_ (i := 2) (N := some 52) (v := ?_) (a' := ?_) #[false, true, true, false, false, false, false, false] rfl rfl (any_of HT_.out (by kernel_rfl)) (fun _ _ _ h => h) (Or.inl ⟨by rfl, ?_⟩) ?_ ?_
  rotate_left
  · intro w'
    go_simp
    with_reducible rfl
  rotate_left
  · simp only [Act.put, List.setIfInBounds_toArray, List.set_cons_zero, List.set_cons_succ, i64_w, i32_w]
    rfl
  refine pure_ (i := 5) (N := some 55) (v := ?_) (a' := ?_) #[false, true, true, false, false, true, false, false] rfl rfl (any_of HT_.out (by kernel_rfl)) (fun _ _ _ h => h) (Or.inl ⟨by rfl, ?_⟩) ?_ ?_
  rotate_left
  · intro w'
    go_simp
    with_reducible rfl
  rotate_left
  · simp only [Act.put, List.setIfInBounds_toArray, List.set_cons_zero, List.set_cons_succ, i64_w, i32_w]
    rfl
  refine take_ (i := 3) (N := some 53) (v := ?_) (a' := ?_) #[false, true, true, true, false, true, false, false] rfl rfl (take_ofW HT_.out HW_.out (by kernel_rfl)) (fun _ _ _ h => h) (Or.inl ⟨by rfl, ?_⟩) hHeld ?_ ?_
  rotate_left
  · rintro w' ⟨s0, s1⟩
    go_simp
    with_reducible rfl
  rotate_left
  · simp only [Act.put, List.setIfInBounds_toArray, List.set_cons_zero, List.set_cons_succ, i64_w, i32_w]
    rfl
  refine one_ (i := 0) (N := some 50) #[true, true, true, true, false, true, false, false] rfl rfl (one_of HT_.out (by kernel_rfl)) (by decide) (fun K hK => ?_)
  refine goes_ Try.func44 (by kernel_rfl) rfl #[] (by rfl) rfl rfl (by (try simp only [List.map_toArray, List.map_cons, List.map_nil]); first | done | rfl | (simp only [List.length_drop, List.length_take]; rfl)) ?_
  with_reducible refine (run_moves.calls _).mono ?_
  rintro e_ w12 ⟨rfl, hb⟩
  refine ⟨_, rfl, ?_⟩
  have n_ := a_ (Aside0.mk (blk_below Bgr.out hb)) (a_ (Aside0.mk (blk_below Bge.out hb)) (a_ (Aside0.mk (blk_below Bgm.out hb)) (a_ (Aside0.mk (Kd.R_below HO.out hb)) (bs_ HB hb))))
  clear Bgr Bge Bgm HO HB hb
  obtain ⟨Bgr, Bge, Bgm, HO, HB⟩ := n_
  refine hK.out _ _ ⟨(blk_cell Bge.out 2).trans rfl, (blk_cell Bge.out 1).trans rfl⟩ (fun hHeld => ?_)
  clear hK K
  refine norm_ (a' := ?_) ?_ ?_
  rotate_left
  · show Act.put _ (some 50) _ = _
    simp only [Act.put, List.setIfInBounds_toArray, List.set_cons_zero, List.set_cons_succ, i64_w, i32_w]
    rfl
  have hix := HIX.out
  unfold run_moves.V at hix ⊢
  refine pure_ (i := 4) (N := some 54) (v := ?_) (a' := ?_) #[true, true, true, true, true, true, false, false] rfl rfl (any_of HT_.out (by kernel_rfl)) (fun _ _ _ h => h) (Or.inl ⟨by rfl, ?_⟩) ?_ ?_
  rotate_left
  · intro w'
    go_simp
    with_reducible rfl
  rotate_left
  · simp only [Act.put, List.setIfInBounds_toArray, List.set_cons_zero, List.set_cons_succ, i64_w, i32_w]
    rfl
  clear hix
  refine one_ (i := 6) (N := some 56) #[true, true, true, true, true, true, true, false] rfl rfl (one_of HT_.out (by kernel_rfl)) (by decide) (fun K hK => ?_)
  refine goesT_ HF.out.1 HF.out.2.1 HF.out.2.2 #[.pointer (some ⟨gm, 0, none⟩)] (by rfl) rfl rfl rfl MP_ ?_
  with_reducible refine (HMV.out AV cap gm w.heap.size (fun _ => True) _ Bgm.out HO.out).mono ?_
  rintro e_ w13 ⟨rfl, hr, hg⟩
  refine ⟨_, rfl, ?_⟩
  have n_ := a_ (Aside0.mk (blk_grown Bgr.out hg (Kd.R_ne HO.out Bgr.out (by decide)))) (a_ (Aside0.mk (blk_grown Bge.out hg (Kd.R_ne HO.out Bge.out (by decide)))) (a_ (Aside0.mk (blk_grown Bgm.out hg (Kd.R_ne HO.out Bgm.out (by decide)))) (a_ (Aside0.mk hr) (Aside0.mk (HB.out.grown hg (below_size HB.out) (fun k hk => Kd.R_base HO.out k hk))))))
  clear Bgr Bge Bgm HO HB hr hg
  obtain ⟨Bgr, Bge, Bgm, HO, HB⟩ := n_
  refine hK.out _ _ ⟨(blk_cell Bge.out 2).trans rfl, (blk_cell Bge.out 1).trans rfl⟩ (fun hHeld => ?_)
  clear hK K
  refine norm_ (a' := ?_) ?_ ?_
  rotate_left
  · show Act.put _ (some 56) _ = _
    simp only [Act.put, List.setIfInBounds_toArray, List.set_cons_zero, List.set_cons_succ, i64_w, i32_w]
    rfl
  refine pure_ (i := 7) (N := some 10) (v := ?_) (a' := ?_) #[true, true, true, true, true, true, true, true] rfl rfl (any_of HT_.out (by kernel_rfl)) (fun _ _ _ h => h) (Or.inl ⟨by rfl, ?_⟩) ?_ ?_
  rotate_left
  · intro w'
    go_simp
    with_reducible rfl
  rotate_left
  · simp only [Act.put, List.setIfInBounds_toArray, List.set_cons_zero, List.set_cons_succ, i64_w, i32_w]
    rfl
  refine done_ (done_of HT_.out (by kernel_rfl)) ?_
  by_cases h0 : rf = 0
  rotate_left
  · have h0b : (rf != 0) = true := bne_iff_ne.mpr h0
    have h0c : (rf == 0) = false := beq_eq_false_iff_ne.mpr h0
    rw [if_neg h0] at h
    obtain ⟨rfl, rfl, rfl⟩ : 0 = r1 ∧ [] = r2 ∧ rf = r3 := by simpa using h
    clear h h0
    have hgr0 : w13.cell? ⟨gr, 0, none⟩ = some (.int .i64 0) := (blk_cell Bgr.out 0).trans rfl
    have hf0 := blk_frozen Bgr.out 0
    have hgr1 : w13.cell? ⟨gr, 1, none⟩ = some (.slice none 0 0) := (blk_cell Bgr.out 1).trans rfl
    have hf1 := blk_frozen Bgr.out 1
    go_wp2
    refine bodyPost_ret (results_ct rfl _ _ gr 29 #[.int .i64 0, .slice none 0 0] (0, 0) _ rfl (by (with_reducible repeat (first | refine blk_alloc ?_ _)); refine blk_put (cs := #[.int .i64 0, .slice none 0 0]) ?_ 1 _ rfl; refine blk_put (cs := #[.int .i64 0, .slice none 0 0]) ?_ 0 _ rfl; exact Bgr.out) Try.underlying29 rfl (by kernel_rfl)) rfl ?_
    exact ⟨_, rfl, Kd.R_nil _ _ _ _ _, below_set (below_set HB.out Ggr.out) Ggr.out⟩
  rw [if_pos h0] at h
  obtain ⟨rfl, rfl, rfl⟩ : x.f1 = r1 ∧ vs = r2 ∧ 0 = r3 := by simpa using h
  subst h0
  clear h
  go_wp2
  have n_ := a_ (Aside0.mk (blk_drew Bgr.out)) (a_ (Aside0.mk (blk_drew Bge.out)) (a_ (Aside0.mk (blk_drew Bgm.out)) (a_ (Aside0.mk (Kd.R_drew HO.out)) (Aside0.mk HB.out.drew))))
  clear Bgr Bge Bgm HO HB
  obtain ⟨Bgr, Bge, Bgm, HO, HB⟩ := n_
  refine start_ (n := 9) (S := fun w' => w'.cell? ⟨ge, 1, none⟩ = some (.int .i64 x.f1) ∧ w'.cell? ⟨gm, 5, none⟩ = some (.slice AV l1_1.length cap)) (ds := []) #[false, false, false, false, false, false, false, false, false] (by kernel_rfl) rfl rfl ⟨(blk_cell Bge.out 1).trans rfl, (blk_cell Bgm.out 5).trans rfl⟩ (fun hHeld => ?_); refine with_tabW run_step.tab8 run_step.bits8 (fun HT_ HW_ => ?_)
  generalize hwd_ : w13.drew = wd at HB Bgr Bge Bgm HO hHeld ⊢
  clear hwd_
  refine pure_ (i := 0) (N := some 61) (v := ?_) (a' := ?_) #[true, false, false, false, false, false, false, false, false] rfl rfl (any_of HT_.out (by kernel_rfl)) (fun _ _ _ h => h) (Or.inl ⟨by rfl, ?_⟩) ?_ ?_
  rotate_left
  · intro w'
    go_simp
    with_reducible rfl
  rotate_left
  · simp only [Act.put, List.setIfInBounds_toArray, List.set_cons_zero, List.set_cons_succ, i64_w, i32_w]
    rfl
  refine take_ (i := 1) (N := some 62) (v := ?_) (a' := ?_) #[true, true, false, false, false, false, false, false, false] rfl rfl (take_ofW HT_.out HW_.out (by kernel_rfl)) (fun _ _ _ h => h) (Or.inl ⟨by rfl, ?_⟩) hHeld ?_ ?_
  rotate_left
  · rintro w' ⟨s0, s1⟩
    go_simp
    with_reducible rfl
  rotate_left
  · simp only [Act.put, List.setIfInBounds_toArray, List.set_cons_zero, List.set_cons_succ, i64_w, i32_w]
    rfl
  refine pure_ (i := 2) (N := some 63) (v := ?_) (a' := ?_) #[true, true, true, false, false, false, false, false, false] rfl rfl (any_of HT_.out (by kernel_rfl)) (fun _ _ _ h => h) (Or.inl ⟨by rfl, ?_⟩) ?_ ?_
  rotate_left
  · intro w'
    go_simp
    with_reducible rfl
  rotate_left
  · simp only [Act.put, List.setIfInBounds_toArray, List.set_cons_zero, List.set_cons_succ, i64_w, i32_w]
    rfl
  refine pure_ (i := 3) (N := some 64) (v := ?_) (a' := ?_) #[true, true, true, true, false, false, false, false, false] rfl rfl (any_of HT_.out (by kernel_rfl)) (fun _ _ _ h => h) (Or.inl ⟨by rfl, ?_⟩) ?_ ?_
  rotate_left
  · intro w'
    go_simp
    with_reducible rfl
  rotate_left
  · simp only [Act.put, List.setIfInBounds_toArray, List.set_cons_zero, List.set_cons_succ, i64_w, i32_w]
    rfl
  refine pure_ (i := 4) (N := some 65) (v := ?_) (a' := ?_) #[true, true, true, true, true, false, false, false, false] rfl rfl (any_of HT_.out (by kernel_rfl)) (fun _ _ _ h => h) (Or.inl ⟨by rfl, ?_⟩) ?_ ?_
  rotate_left
  · intro w'
    go_simp
    with_reducible rfl
  rotate_left
  · simp only [Act.put, List.setIfInBounds_toArray, List.set_cons_zero, List.set_cons_succ, i64_w, i32_w]
    rfl
  refine take_ (i := 5) (N := some 66) (v := ?_) (a' := ?_) #[true, true, true, true, true, true, false, false, false] rfl rfl (take_ofW HT_.out HW_.out (by kernel_rfl)) (fun _ _ _ h => h) (Or.inl ⟨by rfl, ?_⟩) hHeld ?_ ?_
  rotate_left
  · rintro w' ⟨s0, s1⟩
    go_simp
    with_reducible rfl
  rotate_left
  · simp only [Act.put, List.setIfInBounds_toArray, List.set_cons_zero, List.set_cons_succ, i64_w, i32_w]
    rfl
  refine pure_ (i := 6) (N := some 67) (v := ?_) (a' := ?_) #[true, true, true, true, true, true, true, false, false] rfl rfl (any_of HT_.out (by kernel_rfl)) (fun _ _ _ h => h) (Or.inl ⟨by rfl, ?_⟩) ?_ ?_
  rotate_left
  · intro w'
    go_simp
    with_reducible rfl
  rotate_left
  · simp only [Act.put, List.setIfInBounds_toArray, List.set_cons_zero, List.set_cons_succ, i64_w, i32_w]
    rfl
  have hgr0 : wd.cell? ⟨gr, 0, none⟩ = some (.int .i64 0) := (blk_cell Bgr.out 0).trans rfl
  have hf0 := blk_frozen Bgr.out 0
  have hgr1 : wd.cell? ⟨gr, 1, none⟩ = some (.slice none 0 0) := (blk_cell Bgr.out 1).trans rfl
  have hf1 := blk_frozen Bgr.out 1
  refine one_ (i := 7) (N := none) #[true, true, true, true, true, true, true, true, false] rfl rfl (one_of HT_.out (by kernel_rfl)) (by decide) (fun K hK => ?_)
  refine skip_ (w1 := ?_) (by rfl) rfl ?_ ?_
  rotate_left
  · go_simp
    rfl
  refine hK.out _ _ ⟨(blk_cell (blk_far (blk_far Bge.out (blk_ne Bge.out Bgr.out (by decide)) _) (blk_ne Bge.out Bgr.out (by decide)) _) 1).trans rfl, (blk_cell (blk_far (blk_far Bgm.out (blk_ne Bgm.out Bgr.out (by decide)) _) (blk_ne Bgm.out Bgr.out (by decide)) _) 5).trans rfl⟩ (fun hHeld => ?_)
  clear hK K
  refine pure_ (i := 8) (N := some 7) (v := ?_) (a' := ?_) #[true, true, true, true, true, true, true, true, true] rfl rfl (any_of HT_.out (by kernel_rfl)) (fun _ _ _ h => h) (Or.inl ⟨by rfl, ?_⟩) ?_ ?_
  rotate_left
  · intro w'
    go_simp
    with_reducible rfl
  rotate_left
  · simp only [Act.put, List.setIfInBounds_toArray, List.set_cons_zero, List.set_cons_succ, i64_w, i32_w]
    rfl
  refine done_ (done_of HT_.out (by kernel_rfl)) ?_
  go_wp2
  refine bodyPost_ret (results_ct rfl _ _ gr 29 #[.int .i64 x.f1, .slice AV l1_1.length cap] (0, 0) _ rfl (by (with_reducible repeat (first | refine blk_alloc ?_ _)); refine blk_put (cs := #[.int .i64 x.f1, .slice none 0 0]) ?_ 1 _ rfl; refine blk_put (cs := #[.int .i64 0, .slice none 0 0]) ?_ 0 _ rfl; exact Bgr.out) Try.underlying29 rfl (by kernel_rfl)) rfl ?_
  exact ⟨_, rfl, rf2_ HO Bgr _ _, below_set (below_set HB.out Ggr.out) Ggr.out⟩
end Go.Proofs.Ytpcpbeklaibdfaa.C
