import Derived.Test.YtpcpbeklaibdfaaCx0
import Derived.Test.YtpcpbeklaibdfaaCx19
import Derived.Test.YtpcpbeklaibdfaaCx23
import Derived.Test.YtpcpbeklaibdfaaCx24
import Derived.Test.YtpcpbeklaibdfaaCx33
import Derived.Test.YtpcpbeklaibdfaaCx35
namespace Go.Proofs.Ytpcpbeklaibdfaa.C
open Go.RowKit Go.Proofs.YtpcpbeklaibdfaaW.PrintWords Go.Proofs.YtpcpbeklaibdfaaW.PrintLast Go.Proofs.YtpcpbeklaibdfaaW.PrintMore
attribute [local go_sem] max2_int min2_int max_two min_two max_three min_three max_four min_four   -- for this text's walks alone
set_option linter.unusedVariables false
set_option linter.unusedSimpArgs false
def run_Run.f (a0_0 : ByteArray) (l0_1 : List ByteArray) (l0_2 : List S53) (l0_3 : List S57) (l1 : List Int) (l2 : List S31) : Option (List S29 × Int) :=
  if l1.length < 1000000 ∧ l2.length < 1000000 then (prog_Check.f a0_0 l0_1 l0_2 l0_3).bind fun e => if e = 0 then (if valsB l1 l0_1.length = true then (runO (fun pt vs a b => run_step.f a0_0 l0_1 l0_2 l0_3 pt vs a b) 0 l1 l2).bind (fun q => some (⟨0, l1⟩ :: q.1, q.2)) else some ([], 1)) else some ([], 110) else none
set_option maxHeartbeats 16000000 in
set_option maxRecDepth 100000 in
theorem run_Run.calls (a0_0 : ByteArray) (A0_1 : Option Addr) (c0_1 : Nat) (l0_1 : List ByteArray) (A0_2 : Option Addr) (c0_2 : Nat) (l0_2 : List S53) (A0_3 : Option Addr) (c0_3 : Nat) (l0_3 : List S57) (A1 : Option Addr) (c1 : Nat) (l1 : List Int) (A2 : Option Addr) (c2 : Nat) (l2 : List S31) (r1 : List S29) (r2 : Int) (w : World) (hr0_1 : Kd.C Kd.string w A0_1 l0_1.length l0_1) (hc0_1 : l0_1.length ≤ c0_1) (hr0_2 : Kd.C k53 w A0_2 l0_2.length l0_2) (hc0_2 : l0_2.length ≤ c0_2) (hr0_3 : Kd.C k57 w A0_3 l0_3.length l0_3) (hc0_3 : l0_3.length ≤ c0_3) (hr1 : Kd.C (Kd.int .i64) w A1 l1.length l1) (hc1 : l1.length ≤ c1) (hr2 : Kd.C k31 w A2 l2.length l2) (hc2 : l2.length ≤ c2) (h : run_Run.f a0_0 l0_1 l0_2 l0_3 l1 l2 = some (r1, r2)) :
    Calls Try.prog 15 #[.agg #[.string a0_0, .slice A0_1 l0_1.length c0_1, .slice A0_2 l0_2.length c0_2, .slice A0_3 l0_3.length c0_3], .slice A1 l1.length c1, .slice A2 l2.length c2] w fun e w' => ∃ v1_ : Value, e = .returned (.tuple #[v1_, .int .i64 r2]) ∧ Kd.R k29 29 w' w.heap.size (fun _ => True) v1_ r1 ∧ Below w.heap.size w w' := by
  have hu1 := Try.underlying26
  have hu2 := Try.underlying29
  have hu3 := Try.underlying31
  unfold run_Run.f at h
  by_cases hlen : l1.length < 1000000 ∧ l2.length < 1000000
  rotate_left
  · rw [if_neg hlen] at h; cases h
  rw [if_pos hlen] at h
  obtain ⟨ec, hec, h⟩ := Option.bind_eq_some_iff.1 h
  have HEC := Aside0.mk hec
  have HR1 := Aside0.mk hr0_1
  have HC1 := Aside0.mk hc0_1
  have HR2 := Aside0.mk hr0_2
  have HC2 := Aside0.mk hc0_2
  have HR3 := Aside0.mk hr0_3
  have HC3 := Aside0.mk hc0_3
  have HRv := Aside0.mk hr1
  have HCv := Aside0.mk hc1
  have HRc := Aside0.mk hr2
  have HCc := Aside0.mk hc2
  have HLN := Aside0.mk hlen
  have HB := Aside0.mk (Below.refl w.heap.size w)
  have hm2 := Kd.C_max hr2
  clear hec hlen hr0_1 hr0_2 hr0_3 hc0_1 hc0_2 hc0_3 hr1 hc1 hr2 hc2
  go_enter Try.func15, Try.ntmps15
  by_cases he : ec = 0
  rotate_left
  · rw [if_neg he] at h
    obtain ⟨rfl, rfl⟩ : [] = r1 ∧ 110 = r2 := by simpa using h
    have heb : (ec != 0) = true := bne_iff_ne.mpr he
    have hec : (ec == 0) = false := beq_eq_false_iff_ne.mpr he
    clear h he
    go_wp2_with (first | ((with_reducible refine gate_dst (N := 3) rfl ?_); refine bx_ (N := 3) (cs := #[.string a0_0, .slice A0_1 l0_1.length c0_1, .slice A0_2 l0_2.length c0_2, .slice A0_3 l0_3.length c0_3]) (t := 26) ?_; intro gp hg w3 hbox hb; have Ggp := gs_ HB hg; have Bgp := Aside0.mk hbox; clear hbox hg; have n_ := bs_ HB hb; clear HB; have HB := n_; clear n_; clear hb; have hgp0 : w3.cell? ⟨gp, 0, none⟩ = some (.string a0_0) := (blk_cell Bgp.out 0).trans rfl; have hgp1 : w3.cell? ⟨gp, 1, none⟩ = some (.slice A0_1 l0_1.length c0_1) := (blk_cell Bgp.out 1).trans rfl; have hgp2 : w3.cell? ⟨gp, 2, none⟩ = some (.slice A0_2 l0_2.length c0_2) := (blk_cell Bgp.out 2).trans rfl; have hgp3 : w3.cell? ⟨gp, 3, none⟩ = some (.slice A0_3 l0_3.length c0_3) := (blk_cell Bgp.out 3).trans rfl) | ((with_reducible refine gate_callee (f := 21) rfl ?_); (with_reducible refine gate_dst (N := 16) rfl ?_); refine goesL_ (some 16) rfl rfl Try.func21 (by kernel_rfl) rfl #[.agg #[.string a0_0, .slice A0_1 l0_1.length c0_1, .slice A0_2 l0_2.length c0_2, .slice A0_3 l0_3.length c0_3]] rfl MP_ ?_; refine (prog_Check.calls a0_0 A0_1 c0_1 l0_1 A0_2 c0_2 l0_2 A0_3 c0_3 l0_3 _ _ (Kd.C_below HR1.out HB.out) HC1.out (Kd.C_below HR2.out HB.out) HC2.out (Kd.C_below HR3.out HB.out) HC3.out HEC.out).mono ?_; rintro e w4 ⟨rfl, hb⟩; refine ⟨_, rfl, ?_⟩; (try clear hgp0 hgp1 hgp2 hgp3); have n_ := a_ (bb_ Bgp hb) (bs_ HB hb); clear Bgp HB; obtain ⟨Bgp, HB⟩ := n_; clear hb; have hgp0 : w4.cell? ⟨gp, 0, none⟩ = some (.string a0_0) := (blk_cell Bgp.out 0).trans rfl; have hgp1 : w4.cell? ⟨gp, 1, none⟩ = some (.slice A0_1 l0_1.length c0_1) := (blk_cell Bgp.out 1).trans rfl; have hgp2 : w4.cell? ⟨gp, 2, none⟩ = some (.slice A0_2 l0_2.length c0_2) := (blk_cell Bgp.out 2).trans rfl; have hgp3 : w4.cell? ⟨gp, 3, none⟩ = some (.slice A0_3 l0_3.length c0_3) := (blk_cell Bgp.out 3).trans rfl))
    go_ret2
    exact ⟨_, rfl, Kd.R_nil _ _ _ _ _, HB.out⟩
  subst he
  rw [if_pos rfl] at h
  by_cases hv : valsB l1 l0_1.length = true
  rotate_left
  · rw [if_neg hv] at h
    obtain ⟨rfl, rfl⟩ : [] = r1 ∧ 1 = r2 := by simpa using h
    have HV := Aside0.mk (show run_vals.f l1 l0_1.length = some false by rw [run_vals.f, Bool.eq_false_iff.mpr hv])
    clear h hv
    go_wp2_with (first | ((with_reducible refine gate_dst (N := 3) rfl ?_); refine bx_ (N := 3) (cs := #[.string a0_0, .slice A0_1 l0_1.length c0_1, .slice A0_2 l0_2.length c0_2, .slice A0_3 l0_3.length c0_3]) (t := 26) ?_; intro gp hg w3 hbox hb; have Ggp := gs_ HB hg; have Bgp := Aside0.mk hbox; clear hbox hg; have n_ := bs_ HB hb; clear HB; have HB := n_; clear n_; clear hb; have hgp0 : w3.cell? ⟨gp, 0, none⟩ = some (.string a0_0) := (blk_cell Bgp.out 0).trans rfl; have hgp1 : w3.cell? ⟨gp, 1, none⟩ = some (.slice A0_1 l0_1.length c0_1) := (blk_cell Bgp.out 1).trans rfl; have hgp2 : w3.cell? ⟨gp, 2, none⟩ = some (.slice A0_2 l0_2.length c0_2) := (blk_cell Bgp.out 2).trans rfl; have hgp3 : w3.cell? ⟨gp, 3, none⟩ = some (.slice A0_3 l0_3.length c0_3) := (blk_cell Bgp.out 3).trans rfl) | ((with_reducible refine gate_callee (f := 21) rfl ?_); (with_reducible refine gate_dst (N := 16) rfl ?_); refine goesL_ (some 16) rfl rfl Try.func21 (by kernel_rfl) rfl #[.agg #[.string a0_0, .slice A0_1 l0_1.length c0_1, .slice A0_2 l0_2.length c0_2, .slice A0_3 l0_3.length c0_3]] rfl MP_ ?_; refine (prog_Check.calls a0_0 A0_1 c0_1 l0_1 A0_2 c0_2 l0_2 A0_3 c0_3 l0_3 _ _ (Kd.C_below HR1.out HB.out) HC1.out (Kd.C_below HR2.out HB.out) HC2.out (Kd.C_below HR3.out HB.out) HC3.out HEC.out).mono ?_; rintro e w4 ⟨rfl, hb⟩; refine ⟨_, rfl, ?_⟩; (try clear hgp0 hgp1 hgp2 hgp3); have n_ := a_ (bb_ Bgp hb) (bs_ HB hb); clear Bgp HB; obtain ⟨Bgp, HB⟩ := n_; clear hb; have hgp0 : w4.cell? ⟨gp, 0, none⟩ = some (.string a0_0) := (blk_cell Bgp.out 0).trans rfl; have hgp1 : w4.cell? ⟨gp, 1, none⟩ = some (.slice A0_1 l0_1.length c0_1) := (blk_cell Bgp.out 1).trans rfl; have hgp2 : w4.cell? ⟨gp, 2, none⟩ = some (.slice A0_2 l0_2.length c0_2) := (blk_cell Bgp.out 2).trans rfl; have hgp3 : w4.cell? ⟨gp, 3, none⟩ = some (.slice A0_3 l0_3.length c0_3) := (blk_cell Bgp.out 3).trans rfl) | ((with_reducible refine gate_callee (f := 30) rfl ?_); (with_reducible refine gate_dst (N := 23) rfl ?_); refine goesL_ (some 23) rfl rfl Try.func30 (by kernel_rfl) rfl #[.slice A1 l1.length c1, .int .i64 l0_1.length] rfl MP_ ?_; refine (run_vals.calls A1 c1 l1 l0_1.length false _ (Kd.C_below HRv.out HB.out) HCv.out HV.out).mono ?_; rintro e w5 ⟨rfl, hb⟩; refine ⟨_, rfl, ?_⟩; (try clear hgp0 hgp1 hgp2 hgp3); have n_ := a_ (bb_ Bgp hb) (bs_ HB hb); clear Bgp HB; obtain ⟨Bgp, HB⟩ := n_; clear hb; have hgp0 : w5.cell? ⟨gp, 0, none⟩ = some (.string a0_0) := (blk_cell Bgp.out 0).trans rfl; have hgp1 : w5.cell? ⟨gp, 1, none⟩ = some (.slice A0_1 l0_1.length c0_1) := (blk_cell Bgp.out 1).trans rfl; have hgp2 : w5.cell? ⟨gp, 2, none⟩ = some (.slice A0_2 l0_2.length c0_2) := (blk_cell Bgp.out 2).trans rfl; have hgp3 : w5.cell? ⟨gp, 3, none⟩ = some (.slice A0_3 l0_3.length c0_3) := (blk_cell Bgp.out 3).trans rfl))
    go_ret2
    exact ⟨_, rfl, Kd.R_nil _ _ _ _ _, HB.out⟩
  rw [if_pos hv] at h
  have HV := Aside0.mk (show run_vals.f l1 l0_1.length = some true by rw [run_vals.f, hv])
  have HD := Aside0.mk (show runR (fun pt vs a b => run_step.f a0_0 l0_1 l0_2 l0_3 pt vs a b) 0 l1 l2 [⟨0, l1⟩] r1 r2 from h)
  clear h hv
  go_upto_region 6 with (first | ((with_reducible refine gate_dst (N := 3) rfl ?_); refine bx_ (N := 3) (cs := #[.string a0_0, .slice A0_1 l0_1.length c0_1, .slice A0_2 l0_2.length c0_2, .slice A0_3 l0_3.length c0_3]) (t := 26) ?_; intro gp hg w3 hbox hb; have Ggp := gs_ HB hg; have Bgp := Aside0.mk hbox; clear hbox hg; have n_ := bs_ HB hb; clear HB; have HB := n_; clear n_; clear hb; have hgp0 : w3.cell? ⟨gp, 0, none⟩ = some (.string a0_0) := (blk_cell Bgp.out 0).trans rfl; have hgp1 : w3.cell? ⟨gp, 1, none⟩ = some (.slice A0_1 l0_1.length c0_1) := (blk_cell Bgp.out 1).trans rfl; have hgp2 : w3.cell? ⟨gp, 2, none⟩ = some (.slice A0_2 l0_2.length c0_2) := (blk_cell Bgp.out 2).trans rfl; have hgp3 : w3.cell? ⟨gp, 3, none⟩ = some (.slice A0_3 l0_3.length c0_3) := (blk_cell Bgp.out 3).trans rfl) | ((with_reducible refine gate_callee (f := 21) rfl ?_); (with_reducible refine gate_dst (N := 16) rfl ?_); refine goesL_ (some 16) rfl rfl Try.func21 (by kernel_rfl) rfl #[.agg #[.string a0_0, .slice A0_1 l0_1.length c0_1, .slice A0_2 l0_2.length c0_2, .slice A0_3 l0_3.length c0_3]] rfl MP_ ?_; refine (prog_Check.calls a0_0 A0_1 c0_1 l0_1 A0_2 c0_2 l0_2 A0_3 c0_3 l0_3 _ _ (Kd.C_below HR1.out HB.out) HC1.out (Kd.C_below HR2.out HB.out) HC2.out (Kd.C_below HR3.out HB.out) HC3.out HEC.out).mono ?_; rintro e w4 ⟨rfl, hb⟩; refine ⟨_, rfl, ?_⟩; (try clear hgp0 hgp1 hgp2 hgp3); have n_ := a_ (bb_ Bgp hb) (bs_ HB hb); clear Bgp HB; obtain ⟨Bgp, HB⟩ := n_; clear hb; have hgp0 : w4.cell? ⟨gp, 0, none⟩ = some (.string a0_0) := (blk_cell Bgp.out 0).trans rfl; have hgp1 : w4.cell? ⟨gp, 1, none⟩ = some (.slice A0_1 l0_1.length c0_1) := (blk_cell Bgp.out 1).trans rfl; have hgp2 : w4.cell? ⟨gp, 2, none⟩ = some (.slice A0_2 l0_2.length c0_2) := (blk_cell Bgp.out 2).trans rfl; have hgp3 : w4.cell? ⟨gp, 3, none⟩ = some (.slice A0_3 l0_3.length c0_3) := (blk_cell Bgp.out 3).trans rfl) | ((with_reducible refine gate_callee (f := 30) rfl ?_); (with_reducible refine gate_dst (N := 23) rfl ?_); refine goesL_ (some 23) rfl rfl Try.func30 (by kernel_rfl) rfl #[.slice A1 l1.length c1, .int .i64 l0_1.length] rfl MP_ ?_; refine (run_vals.calls A1 c1 l1 l0_1.length true _ (Kd.C_below HRv.out HB.out) HCv.out HV.out).mono ?_; rintro e w5 ⟨rfl, hb⟩; refine ⟨_, rfl, ?_⟩; (try clear hgp0 hgp1 hgp2 hgp3); have n_ := a_ (bb_ Bgp hb) (bs_ HB hb); clear Bgp HB; obtain ⟨Bgp, HB⟩ := n_; clear hb; have hgp0 : w5.cell? ⟨gp, 0, none⟩ = some (.string a0_0) := (blk_cell Bgp.out 0).trans rfl; have hgp1 : w5.cell? ⟨gp, 1, none⟩ = some (.slice A0_1 l0_1.length c0_1) := (blk_cell Bgp.out 1).trans rfl; have hgp2 : w5.cell? ⟨gp, 2, none⟩ = some (.slice A0_2 l0_2.length c0_2) := (blk_cell Bgp.out 2).trans rfl; have hgp3 : w5.cell? ⟨gp, 3, none⟩ = some (.slice A0_3 l0_3.length c0_3) := (blk_cell Bgp.out 3).trans rfl) | ((with_reducible refine gate_callee (f := 31) rfl ?_); (with_reducible refine gate_dst (N := 26) rfl ?_); refine goesL_ (some 26) rfl rfl Try.func31 (by kernel_rfl) rfl #[.slice A1 l1.length c1] rfl MP_ ?_; refine (slices_Clone_int_int.calls A1 c1 l1 l1 _ (Kd.C_below HRv.out HB.out) HCv.out (run_step.clone l1 HLN.out.1)).mono ?_; rintro e w6 ⟨v0_, rfl, ho, hb⟩; obtain ⟨AV, cap, ev_⟩ := Kd.R_slice ho; subst ev_; have HS := Aside0.mk (Kd.R_lower ho (below_size HB.out)); clear ho; refine ⟨_, rfl, ?_⟩; (try clear hgp0 hgp1 hgp2 hgp3); have n_ := a_ (bb_ Bgp hb) (bs_ HB hb); clear Bgp HB; obtain ⟨Bgp, HB⟩ := n_; clear hb; have hgp0 : w6.cell? ⟨gp, 0, none⟩ = some (.string a0_0) := (blk_cell Bgp.out 0).trans rfl; have hgp1 : w6.cell? ⟨gp, 1, none⟩ = some (.slice A0_1 l0_1.length c0_1) := (blk_cell Bgp.out 1).trans rfl; have hgp2 : w6.cell? ⟨gp, 2, none⟩ = some (.slice A0_2 l0_2.length c0_2) := (blk_cell Bgp.out 2).trans rfl; have hgp3 : w6.cell? ⟨gp, 3, none⟩ = some (.slice A0_3 l0_3.length c0_3) := (blk_cell Bgp.out 3).trans rfl) | ((with_reducible refine gate_dst (N := 8) rfl ?_); refine bx_ (N := 8) (cs := #[.int .i64 0, .slice none 0 0]) (t := 29) ?_; intro gs hg w7 hbox hb; have Ggs := gs_ HB hg; have Bgs := Aside0.mk hbox; clear hbox hg; (try clear hgp0 hgp1 hgp2 hgp3); have n_ := a_ (bb_ Bgp hb) (a_ (Aside0.mk (Kd.R_below HS.out hb)) (bs_ HB hb)); clear Bgp HS HB; obtain ⟨Bgp, HS, HB⟩ := n_; clear hb; have hgp0 : w7.cell? ⟨gp, 0, none⟩ = some (.string a0_0) := (blk_cell Bgp.out 0).trans rfl; have hgp1 : w7.cell? ⟨gp, 1, none⟩ = some (.slice A0_1 l0_1.length c0_1) := (blk_cell Bgp.out 1).trans rfl; have hgp2 : w7.cell? ⟨gp, 2, none⟩ = some (.slice A0_2 l0_2.length c0_2) := (blk_cell Bgp.out 2).trans rfl; have hgp3 : w7.cell? ⟨gp, 3, none⟩ = some (.slice A0_3 l0_3.length c0_3) := (blk_cell Bgp.out 3).trans rfl; have hgs0 : w7.cell? ⟨gs, 0, none⟩ = some (.int .i64 0) := (blk_cell Bgs.out 0).trans rfl; have hgs1 : w7.cell? ⟨gs, 1, none⟩ = some (.slice none 0 0) := (blk_cell Bgs.out 1).trans rfl; have hfgs0 := blk_frozen Bgs.out 0; have hfgs1 := blk_frozen Bgs.out 1))
  refine wp_world (Q := fun w' => w'.heap[gp]? = some (.cells #[.string a0_0, .slice A0_1 l0_1.length c0_1, .slice A0_2 l0_2.length c0_2, .slice A0_3 l0_3.length c0_3] 26 (0, 0)) ∧ w'.heap[gs]? = some (.cells #[.int .i64 0, .slice AV l1.length cap] 29 (0, 0)) ∧ Kd.R (Kd.int .i64) 3 w' w.heap.size (fun _ => True) (.slice AV l1.length cap) l1 ∧ Below w.heap.size w w') ⟨(blk_far (blk_far Bgp.out (blk_ne Bgp.out Bgs.out (by decide)) _) (blk_ne Bgp.out Bgs.out (by decide)) _), (by refine blk_put (cs := #[.int .i64 0, .slice none 0 0]) ?_ 1 _ rfl; refine blk_put (cs := #[.int .i64 0, .slice none 0 0]) ?_ 0 _ rfl; exact Bgs.out), (rf2_ HS Bgs _ _), (below_set (below_set HB.out Ggs.out) Ggs.out)⟩ ?_
  clear HB Bgp Bgs HS hgp0 hgp1 hgp2 hgp3 hgs0 hgs1 hfgs0 hfgs1
  rintro w8 ⟨hxgp, hxgs, hy0, hb⟩
  have Bgp := Aside0.mk hxgp
  have Bgs := Aside0.mk hxgs
  have HS := Aside0.mk hy0
  have HB := Aside0.mk hb
  clear hb hxgp hxgs hy0
  have hgp0 : w8.cell? ⟨gp, 0, none⟩ = some (.string a0_0) := (blk_cell Bgp.out 0).trans rfl
  have hgp1 : w8.cell? ⟨gp, 1, none⟩ = some (.slice A0_1 l0_1.length c0_1) := (blk_cell Bgp.out 1).trans rfl
  have hgp2 : w8.cell? ⟨gp, 2, none⟩ = some (.slice A0_2 l0_2.length c0_2) := (blk_cell Bgp.out 2).trans rfl
  have hgp3 : w8.cell? ⟨gp, 3, none⟩ = some (.slice A0_3 l0_3.length c0_3) := (blk_cell Bgp.out 3).trans rfl
  have hgs0 : w8.cell? ⟨gs, 0, none⟩ = some (.int .i64 0) := (blk_cell Bgs.out 0).trans rfl
  have hgs1 : w8.cell? ⟨gs, 1, none⟩ = some (.slice AV l1.length cap) := (blk_cell Bgs.out 1).trans rfl
  go_wp2_with (first | ((with_reducible refine gate_dst (N := 29) rfl ?_); refine Kd.R_lit k29 w.heap.size 29 ?hg (N := 29) ?hd (xs := [⟨0, l1⟩]) (inner := [.int .i64 0, .slice AV l1.length cap]) (ok := fun _ => True) (okp := fun _ => True) ?hr ?hp (fun _ hk => hk) trivial HB.out (below_size HB.out) (by simp) ?_; (case hd => rfl); (case hg => rfl); (case hr => first | (go_simp; done) | (go_simp; rfl)); (case hp => exact Reps.c2 (k29_mkM _ _ _ _ HS.out) (Reps.none _ _)); intro v9 w9 ho hb hg_ hnew_; have HO := Aside0.mk ho; have NE := Aside0.mk (own_after (v := .slice none 0 0) Bgs.out (by simp [Value.ownBlock]) (.inr hnew_)); clear ho hnew_; have n_ := a_ (Aside0.mk (blk_grown Bgp.out hg_ (by simp))) (a_ (Aside0.mk (blk_grown Bgs.out hg_ (by simp))) (a_ (Aside0.mk (Kd.R_grown HS.out hg_ (fun k _ => by simp))) (Aside0.mk hb))); (try clear hgp0 hgp1 hgp2 hgp3 hgs0 hgs1); clear Bgp Bgs HS HB hb hg_; obtain ⟨Bgp, Bgs, HS, HB⟩ := n_))
  go_loopg [9, 32] l2.length (fun gg v9 v32 wr => ∃ (i : Nat) (out : List S29) (pt : Int) (sv : List Int) (AV : Option Addr) (cap : Nat), i ≤ l2.length ∧ v32 = .int .i64 i ∧ Aside0 (out.length ≤ i + 1) ∧ Aside0 (l2.length - i ≤ gg) ∧ Aside0 (runR (fun pt vs a b => run_step.f a0_0 l0_1 l0_2 l0_3 pt vs a b) pt sv (l2.drop i) out r1 r2) ∧ Aside0 (wr.heap[gp]? = some (.cells #[.string a0_0, .slice A0_1 l0_1.length c0_1, .slice A0_2 l0_2.length c0_2, .slice A0_3 l0_3.length c0_3] 26 (0, 0))) ∧ Aside0 (wr.heap[gs]? = some (.cells #[.int .i64 pt, .slice AV sv.length cap] 29 (0, 0))) ∧ Aside0 (some gs ≠ v9.ownBlock) ∧ Aside0 (Kd.R k29 29 wr w.heap.size (fun _ => True) v9 out) ∧ Aside0 (Kd.R (Kd.int .i64) 3 wr w.heap.size (fun _ => True) (.slice AV sv.length cap) sv) ∧ Aside0 (Below w.heap.size w wr))
  case atStart => exact ⟨0, _, 0, l1, AV, cap, Nat.zero_le _, rfl, ⟨by simp⟩, ⟨by omega⟩, HD, Bgp, Bgs, NE, HO, HS, HB⟩
  case round =>
    clear HD Bgp Bgs NE HO HS HB
    obtain ⟨i, out, pt, sv, AV, cap, hi, rfl, HLO, HG, HD, Bgp, Bgs, NE, HO, HS, HB⟩ := hrel
    by_cases hlt : i < l2.length
    rotate_left
    · have hltz : ¬ (i : Int) < (l2.length : Int) := by omega
      have hd := HD.out
      rw [List.drop_of_length_le (by omega)] at hd
      obtain ⟨rfl, rfl⟩ := runR_nil hd
      clear hd HD
      go_wp2
      go_ret2
      exact ⟨_, rfl, HO.out, HB.out⟩
    have hltz : (i : Int) < (l2.length : Int) := by omega
    have hi0 : (0 : Int) ≤ (i : Int) := Int.natCast_nonneg _
    obtain ⟨ad, rfl, hx0, hx1⟩ := at_T31 (Kd.C_below HRc.out HB.out) (i : Int) hi0 hltz
    rw [Int.toNat_natCast, rd_T31_at l2 i hlt] at hx0 hx1
    have hd := HD.out
    rw [List.drop_eq_getElem_cons hlt] at hd
    obtain ⟨t1, t2, t3, hst, hgo, hend⟩ := runR_cons hd
    generalize l2[i] = x at hx0 hx1 hst
    have HST := Aside0.mk hst
    have HGO := Aside0.mk hgo
    have HEND := Aside0.mk hend
    clear hst hgo hend hd HD
    have hgp0 : wr.cell? ⟨gp, 0, none⟩ = some (.string a0_0) := (blk_cell Bgp.out 0).trans rfl
    have hgp1 : wr.cell? ⟨gp, 1, none⟩ = some (.slice A0_1 l0_1.length c0_1) := (blk_cell Bgp.out 1).trans rfl
    have hgp2 : wr.cell? ⟨gp, 2, none⟩ = some (.slice A0_2 l0_2.length c0_2) := (blk_cell Bgp.out 2).trans rfl
    have hgp3 : wr.cell? ⟨gp, 3, none⟩ = some (.slice A0_3 l0_3.length c0_3) := (blk_cell Bgp.out 3).trans rfl
    have hgs0 : wr.cell? ⟨gs, 0, none⟩ = some (.int .i64 pt) := (blk_cell Bgs.out 0).trans rfl
    have hgs1 : wr.cell? ⟨gs, 1, none⟩ = some (.slice AV sv.length cap) := (blk_cell Bgs.out 1).trans rfl
    go_upto_region 10 with (first | ((with_reducible refine gate_dst (N := 11) rfl ?_); refine bx_ (N := 11) (cs := #[.int .i64 0, .int .i64 0]) (t := 31) ?_; intro gc hg w12 hbox hb; have Ggc := gs_ HB hg; have Bgc := Aside0.mk hbox; clear hbox hg; (try clear hgp0 hgp1 hgp2 hgp3 hgs0 hgs1); have n_ := a_ (bb_ Bgp hb) (a_ (bb_ Bgs hb) (a_ (Aside0.mk (Kd.R_below HO.out hb)) (a_ (Aside0.mk (Kd.R_below HS.out hb)) (bs_ HB hb)))); clear Bgp Bgs HO HS HB; obtain ⟨Bgp, Bgs, HO, HS, HB⟩ := n_; clear hb; have hgp0 : w12.cell? ⟨gp, 0, none⟩ = some (.string a0_0) := (blk_cell Bgp.out 0).trans rfl; have hgp1 : w12.cell? ⟨gp, 1, none⟩ = some (.slice A0_1 l0_1.length c0_1) := (blk_cell Bgp.out 1).trans rfl; have hgp2 : w12.cell? ⟨gp, 2, none⟩ = some (.slice A0_2 l0_2.length c0_2) := (blk_cell Bgp.out 2).trans rfl; have hgp3 : w12.cell? ⟨gp, 3, none⟩ = some (.slice A0_3 l0_3.length c0_3) := (blk_cell Bgp.out 3).trans rfl; have hgs0 : w12.cell? ⟨gs, 0, none⟩ = some (.int .i64 pt) := (blk_cell Bgs.out 0).trans rfl; have hgs1 : w12.cell? ⟨gs, 1, none⟩ = some (.slice AV sv.length cap) := (blk_cell Bgs.out 1).trans rfl; have hgc0 : w12.cell? ⟨gc, 0, none⟩ = some (.int .i64 0) := (blk_cell Bgc.out 0).trans rfl; have hgc1 : w12.cell? ⟨gc, 1, none⟩ = some (.int .i64 0) := (blk_cell Bgc.out 1).trans rfl; have hfgc0 := blk_frozen Bgc.out 0; have hfgc1 := blk_frozen Bgc.out 1))
    refine wp_world (Q := fun w' => w'.heap[gp]? = some (.cells #[.string a0_0, .slice A0_1 l0_1.length c0_1, .slice A0_2 l0_2.length c0_2, .slice A0_3 l0_3.length c0_3] 26 (0, 0)) ∧ w'.heap[gs]? = some (.cells #[.int .i64 pt, .slice AV sv.length cap] 29 (0, 0)) ∧ w'.heap[gc]? = some (.cells #[.int .i64 x.f0, .int .i64 x.f1] 31 (0, 0)) ∧ Kd.R k29 29 w' w.heap.size (fun _ => True) u9 out ∧ Kd.R (Kd.int .i64) 3 w' w.heap.size (fun _ => True) (.slice AV sv.length cap) sv ∧ Below w.heap.size w w') ⟨(blk_far (blk_far Bgp.out (blk_ne Bgp.out Bgc.out (by decide)) _) (blk_ne Bgp.out Bgc.out (by decide)) _), (blk_far (blk_far Bgs.out (blk_ne Bgs.out Bgc.out (by decide)) _) (blk_ne Bgs.out Bgc.out (by decide)) _), (by refine blk_put (cs := #[.int .i64 x.f0, .int .i64 0]) ?_ 1 _ rfl; refine blk_put (cs := #[.int .i64 0, .int .i64 0]) ?_ 0 _ rfl; exact Bgc.out), (rf2_ HO Bgc _ _), (rf2_ HS Bgc _ _), (below_set (below_set HB.out Ggc.out) Ggc.out)⟩ ?_
    clear HB Bgp Bgs Bgc HO HS hx0 hx1 hgp0 hgp1 hgp2 hgp3 hgs0 hgs1 hgc0 hgc1 hfgc0 hfgc1
    rintro w13 ⟨hxgp, hxgs, hxgc, hy0, hy1, hb⟩
    have Bgp := Aside0.mk hxgp
    have Bgs := Aside0.mk hxgs
    have Bgc := Aside0.mk hxgc
    have HO := Aside0.mk hy0
    have HS := Aside0.mk hy1
    have HB := Aside0.mk hb
    clear hb hxgp hxgs hxgc hy0 hy1
    have hgp0 : w13.cell? ⟨gp, 0, none⟩ = some (.string a0_0) := (blk_cell Bgp.out 0).trans rfl
    have hgp1 : w13.cell? ⟨gp, 1, none⟩ = some (.slice A0_1 l0_1.length c0_1) := (blk_cell Bgp.out 1).trans rfl
    have hgp2 : w13.cell? ⟨gp, 2, none⟩ = some (.slice A0_2 l0_2.length c0_2) := (blk_cell Bgp.out 2).trans rfl
    have hgp3 : w13.cell? ⟨gp, 3, none⟩ = some (.slice A0_3 l0_3.length c0_3) := (blk_cell Bgp.out 3).trans rfl
    have hgs0 : w13.cell? ⟨gs, 0, none⟩ = some (.int .i64 pt) := (blk_cell Bgs.out 0).trans rfl
    have hgs1 : w13.cell? ⟨gs, 1, none⟩ = some (.slice AV sv.length cap) := (blk_cell Bgs.out 1).trans rfl
    have hgc0 : w13.cell? ⟨gc, 0, none⟩ = some (.int .i64 x.f0) := (blk_cell Bgc.out 0).trans rfl
    have hgc1 : w13.cell? ⟨gc, 1, none⟩ = some (.int .i64 x.f1) := (blk_cell Bgc.out 1).trans rfl
    go_upto_region 11 with (first | ((with_reducible refine gate_callee (f := 23) rfl ?_); (with_reducible refine gate_dst (N := 40) rfl ?_); refine goesL_ (some 40) rfl rfl Try.func23 (by kernel_rfl) rfl #[.agg #[.string a0_0, .slice A0_1 l0_1.length c0_1, .slice A0_2 l0_2.length c0_2, .slice A0_3 l0_3.length c0_3], .agg #[.int .i64 pt, .slice AV sv.length cap], .agg #[.int .i64 x.f0, .int .i64 x.f1]] rfl MP_ ?_; refine (run_step.calls a0_0 A0_1 c0_1 l0_1 A0_2 c0_2 l0_2 A0_3 c0_3 l0_3 pt AV cap sv x.f0 x.f1 t1 t2 t3 _ (Kd.C_below HR1.out HB.out) HC1.out (Kd.C_below HR2.out HB.out) HC2.out (Kd.C_below HR3.out HB.out) HC3.out (Kd.R_reads' HS.out).2.2 (Kd.R_reads' HS.out).2.1 HST.out).mono ?_; rintro e w14 ⟨v0_, rfl, ho, hb⟩; obtain ⟨AT, ct, ev_⟩ := Kd.R_slice ho; subst ev_; have HT := Aside0.mk (Kd.R_lower ho (below_size HB.out)); clear ho; refine ⟨_, rfl, ?_⟩; (try clear hgp0 hgp1 hgp2 hgp3 hgs0 hgs1 hgc0 hgc1); have n_ := a_ (bb_ Bgp hb) (a_ (bb_ Bgs hb) (a_ (bb_ Bgc hb) (a_ (Aside0.mk (Kd.R_below HO.out hb)) (a_ (Aside0.mk (Kd.R_below HS.out hb)) (bs_ HB hb))))); clear Bgp Bgs Bgc HO HS HB; obtain ⟨Bgp, Bgs, Bgc, HO, HS, HB⟩ := n_; clear hb; have hgp0 : w14.cell? ⟨gp, 0, none⟩ = some (.string a0_0) := (blk_cell Bgp.out 0).trans rfl; have hgp1 : w14.cell? ⟨gp, 1, none⟩ = some (.slice A0_1 l0_1.length c0_1) := (blk_cell Bgp.out 1).trans rfl; have hgp2 : w14.cell? ⟨gp, 2, none⟩ = some (.slice A0_2 l0_2.length c0_2) := (blk_cell Bgp.out 2).trans rfl; have hgp3 : w14.cell? ⟨gp, 3, none⟩ = some (.slice A0_3 l0_3.length c0_3) := (blk_cell Bgp.out 3).trans rfl; have hgs0 : w14.cell? ⟨gs, 0, none⟩ = some (.int .i64 pt) := (blk_cell Bgs.out 0).trans rfl; have hgs1 : w14.cell? ⟨gs, 1, none⟩ = some (.slice AV sv.length cap) := (blk_cell Bgs.out 1).trans rfl; have hgc0 : w14.cell? ⟨gc, 0, none⟩ = some (.int .i64 x.f0) := (blk_cell Bgc.out 0).trans rfl; have hgc1 : w14.cell? ⟨gc, 1, none⟩ = some (.int .i64 x.f1) := (blk_cell Bgc.out 1).trans rfl) | ((with_reducible refine gate_dst (N := 12) rfl ?_); refine bx_ (N := 12) (cs := #[.int .i64 0, .slice none 0 0]) (t := 29) ?_; intro gt hg w15 hbox hb; have Ngsgt := nl_ Bgs hg; have NT_ : Aside0 (some gt ≠ u9.ownBlock) := ⟨fun e_ => by have h_ := Kd.R_lt HO.out _ e_.symm; omega⟩; have Ggt := gs_ HB hg; have Bgt := Aside0.mk hbox; clear hbox hg; (try clear hgp0 hgp1 hgp2 hgp3 hgs0 hgs1); have n_ := a_ (bb_ Bgp hb) (a_ (bb_ Bgs hb) (a_ (Aside0.mk (Kd.R_below HO.out hb)) (a_ (Aside0.mk (Kd.R_below HS.out hb)) (a_ (Aside0.mk (Kd.R_below HT.out hb)) (bs_ HB hb))))); clear Bgp Bgs HO HS HT HB; obtain ⟨Bgp, Bgs, HO, HS, HT, HB⟩ := n_; clear hb; have hgp0 : w15.cell? ⟨gp, 0, none⟩ = some (.string a0_0) := (blk_cell Bgp.out 0).trans rfl; have hgp1 : w15.cell? ⟨gp, 1, none⟩ = some (.slice A0_1 l0_1.length c0_1) := (blk_cell Bgp.out 1).trans rfl; have hgp2 : w15.cell? ⟨gp, 2, none⟩ = some (.slice A0_2 l0_2.length c0_2) := (blk_cell Bgp.out 2).trans rfl; have hgp3 : w15.cell? ⟨gp, 3, none⟩ = some (.slice A0_3 l0_3.length c0_3) := (blk_cell Bgp.out 3).trans rfl; have hgs0 : w15.cell? ⟨gs, 0, none⟩ = some (.int .i64 pt) := (blk_cell Bgs.out 0).trans rfl; have hgs1 : w15.cell? ⟨gs, 1, none⟩ = some (.slice AV sv.length cap) := (blk_cell Bgs.out 1).trans rfl; have hgt0 : w15.cell? ⟨gt, 0, none⟩ = some (.int .i64 0) := (blk_cell Bgt.out 0).trans rfl; have hgt1 : w15.cell? ⟨gt, 1, none⟩ = some (.slice none 0 0) := (blk_cell Bgt.out 1).trans rfl; have hfgt0 := blk_frozen Bgt.out 0; have hfgt1 := blk_frozen Bgt.out 1))
    refine wp_world (Q := fun w' => w'.heap[gp]? = some (.cells #[.string a0_0, .slice A0_1 l0_1.length c0_1, .slice A0_2 l0_2.length c0_2, .slice A0_3 l0_3.length c0_3] 26 (0, 0)) ∧ w'.heap[gs]? = some (.cells #[.int .i64 pt, .slice AV sv.length cap] 29 (0, 0)) ∧ w'.heap[gt]? = some (.cells #[.int .i64 t1, .slice AT t2.length ct] 29 (0, 0)) ∧ Kd.R k29 29 w' w.heap.size (fun _ => True) u9 out ∧ Kd.R (Kd.int .i64) 3 w' w.heap.size (fun _ => True) (.slice AT t2.length ct) t2 ∧ Below w.heap.size w w') ⟨(blk_far (blk_far Bgp.out (blk_ne Bgp.out Bgt.out (by decide)) _) (blk_ne Bgp.out Bgt.out (by decide)) _), (blk_far (blk_far Bgs.out Ngsgt.out _) Ngsgt.out _), (by refine blk_put (cs := #[.int .i64 t1, .slice none 0 0]) ?_ 1 _ rfl; refine blk_put (cs := #[.int .i64 0, .slice none 0 0]) ?_ 0 _ rfl; exact Bgt.out), (R29_set HO.out Bgt.out NT_.out _ _), (rf2_ HT Bgt _ _), (below_set (below_set HB.out Ggt.out) Ggt.out)⟩ ?_
    clear HB Bgp Bgs Bgt HO HT HS hgp0 hgp1 hgp2 hgp3 hgs0 hgs1 hgt0 hgt1 hfgt0 hfgt1 Bgc hgc0 hgc1
    rintro w16 ⟨hxgp, hxgs, hxgt, hy0, hy1, hb⟩
    have Bgp := Aside0.mk hxgp
    have Bgs := Aside0.mk hxgs
    have Bgt := Aside0.mk hxgt
    have HO := Aside0.mk hy0
    have HT := Aside0.mk hy1
    have HB := Aside0.mk hb
    clear hb hxgp hxgs hxgt hy0 hy1
    by_cases h3 : t3 = 0
    rotate_left
    · obtain ⟨rfl, rfl⟩ := HEND.out h3
      have h3b : (t3 != 0) = true := bne_iff_ne.mpr h3
      have h3c : (t3 == 0) = false := beq_eq_false_iff_ne.mpr h3
      clear h3
      go_wp2
      go_ret2
      exact ⟨_, rfl, HO.out, HB.out⟩
    have HD := Aside0.mk (HGO.out h3)
    subst h3
    clear HGO HEND HST
    have hgp0 : w16.cell? ⟨gp, 0, none⟩ = some (.string a0_0) := (blk_cell Bgp.out 0).trans rfl
    have hgp1 : w16.cell? ⟨gp, 1, none⟩ = some (.slice A0_1 l0_1.length c0_1) := (blk_cell Bgp.out 1).trans rfl
    have hgp2 : w16.cell? ⟨gp, 2, none⟩ = some (.slice A0_2 l0_2.length c0_2) := (blk_cell Bgp.out 2).trans rfl
    have hgp3 : w16.cell? ⟨gp, 3, none⟩ = some (.slice A0_3 l0_3.length c0_3) := (blk_cell Bgp.out 3).trans rfl
    have hgs0 : w16.cell? ⟨gs, 0, none⟩ = some (.int .i64 pt) := (blk_cell Bgs.out 0).trans rfl
    have hgs1 : w16.cell? ⟨gs, 1, none⟩ = some (.slice AV sv.length cap) := (blk_cell Bgs.out 1).trans rfl
    have hgt0 : w16.cell? ⟨gt, 0, none⟩ = some (.int .i64 t1) := (blk_cell Bgt.out 0).trans rfl
    have hgt1 : w16.cell? ⟨gt, 1, none⟩ = some (.slice AT t2.length ct) := (blk_cell Bgt.out 1).trans rfl
    have hfgs0 := blk_frozen Bgs.out 0
    have hfgs1 := blk_frozen Bgs.out 1
    go_upto_region 14 with (first | ((with_reducible refine gate_dst (N := 12) rfl ?_); refine bx_ (N := 12) (cs := #[.int .i64 0, .slice none 0 0]) (t := 29) ?_; intro gt hg w15 hbox hb; have Ngsgt := nl_ Bgs hg; have NT_ : Aside0 (some gt ≠ u9.ownBlock) := ⟨fun e_ => by have h_ := Kd.R_lt HO.out _ e_.symm; omega⟩; have Ggt := gs_ HB hg; have Bgt := Aside0.mk hbox; clear hbox hg; (try clear hgp0 hgp1 hgp2 hgp3 hgs0 hgs1); have n_ := a_ (bb_ Bgp hb) (a_ (bb_ Bgs hb) (a_ (Aside0.mk (Kd.R_below HO.out hb)) (a_ (Aside0.mk (Kd.R_below HS.out hb)) (a_ (Aside0.mk (Kd.R_below HT.out hb)) (bs_ HB hb))))); clear Bgp Bgs HO HS HT HB; obtain ⟨Bgp, Bgs, HO, HS, HT, HB⟩ := n_; clear hb; have hgp0 : w15.cell? ⟨gp, 0, none⟩ = some (.string a0_0) := (blk_cell Bgp.out 0).trans rfl; have hgp1 : w15.cell? ⟨gp, 1, none⟩ = some (.slice A0_1 l0_1.length c0_1) := (blk_cell Bgp.out 1).trans rfl; have hgp2 : w15.cell? ⟨gp, 2, none⟩ = some (.slice A0_2 l0_2.length c0_2) := (blk_cell Bgp.out 2).trans rfl; have hgp3 : w15.cell? ⟨gp, 3, none⟩ = some (.slice A0_3 l0_3.length c0_3) := (blk_cell Bgp.out 3).trans rfl; have hgs0 : w15.cell? ⟨gs, 0, none⟩ = some (.int .i64 pt) := (blk_cell Bgs.out 0).trans rfl; have hgs1 : w15.cell? ⟨gs, 1, none⟩ = some (.slice AV sv.length cap) := (blk_cell Bgs.out 1).trans rfl; have hgt0 : w15.cell? ⟨gt, 0, none⟩ = some (.int .i64 0) := (blk_cell Bgt.out 0).trans rfl; have hgt1 : w15.cell? ⟨gt, 1, none⟩ = some (.slice none 0 0) := (blk_cell Bgt.out 1).trans rfl; have hfgt0 := blk_frozen Bgt.out 0; have hfgt1 := blk_frozen Bgt.out 1))
    refine wp_world (Q := fun w' => w'.heap[gp]? = some (.cells #[.string a0_0, .slice A0_1 l0_1.length c0_1, .slice A0_2 l0_2.length c0_2, .slice A0_3 l0_3.length c0_3] 26 (0, 0)) ∧ w'.heap[gs]? = some (.cells #[.int .i64 t1, .slice AT t2.length ct] 29 (0, 0)) ∧ w'.heap[gt]? = some (.cells #[.int .i64 t1, .slice AT t2.length ct] 29 (0, 0)) ∧ Kd.R k29 29 w' w.heap.size (fun _ => True) u9 out ∧ Kd.R (Kd.int .i64) 3 w' w.heap.size (fun _ => True) (.slice AT t2.length ct) t2 ∧ Below w.heap.size w w') ⟨(blk_far (blk_far Bgp.out (blk_ne Bgp.out Bgs.out (by decide)) _) (blk_ne Bgp.out Bgs.out (by decide)) _), (by refine blk_put (cs := #[.int .i64 t1, .slice AV sv.length cap]) ?_ 1 _ rfl; refine blk_put (cs := #[.int .i64 pt, .slice AV sv.length cap]) ?_ 0 _ rfl; exact Bgs.out), (blk_far (blk_far Bgt.out (fun e_ => Ngsgt.out e_.symm) _) (fun e_ => Ngsgt.out e_.symm) _), (R29_set HO.out Bgs.out NE.out _ _), (rf2_ HT Bgs _ _), (below_set (below_set HB.out Ggs.out) Ggs.out)⟩ ?_
    clear HB Bgp Bgs Bgt HO HT hgp0 hgp1 hgp2 hgp3 hgs0 hgs1 hgt0 hgt1 hfgs0 hfgs1
    rintro w17 ⟨hxgp, hxgs, hxgt, hy0, hy1, hb⟩
    have Bgp := Aside0.mk hxgp
    have Bgs := Aside0.mk hxgs
    have Bgt := Aside0.mk hxgt
    have HO := Aside0.mk hy0
    have HT := Aside0.mk hy1
    have HB := Aside0.mk hb
    clear hb hxgp hxgs hxgt hy0 hy1
    have hgp0 : w17.cell? ⟨gp, 0, none⟩ = some (.string a0_0) := (blk_cell Bgp.out 0).trans rfl
    have hgp1 : w17.cell? ⟨gp, 1, none⟩ = some (.slice A0_1 l0_1.length c0_1) := (blk_cell Bgp.out 1).trans rfl
    have hgp2 : w17.cell? ⟨gp, 2, none⟩ = some (.slice A0_2 l0_2.length c0_2) := (blk_cell Bgp.out 2).trans rfl
    have hgp3 : w17.cell? ⟨gp, 3, none⟩ = some (.slice A0_3 l0_3.length c0_3) := (blk_cell Bgp.out 3).trans rfl
    have hgs0 : w17.cell? ⟨gs, 0, none⟩ = some (.int .i64 t1) := (blk_cell Bgs.out 0).trans rfl
    have hgs1 : w17.cell? ⟨gs, 1, none⟩ = some (.slice AT t2.length ct) := (blk_cell Bgs.out 1).trans rfl
    have hgt0 : w17.cell? ⟨gt, 0, none⟩ = some (.int .i64 t1) := (blk_cell Bgt.out 0).trans rfl
    have hgt1 : w17.cell? ⟨gt, 1, none⟩ = some (.slice AT t2.length ct) := (blk_cell Bgt.out 1).trans rfl
    go_wp2_with (first | ((with_reducible refine gate_dst (N := 50) rfl ?_); refine Kd.R_lit k29 w.heap.size 29 ?hg (N := 50) ?hd (xs := [⟨t1, t2⟩]) (inner := [.int .i64 t1, .slice AT t2.length ct]) (ok := fun k => some k ≠ u9.ownBlock) (okp := fun k => some k ≠ u9.ownBlock) ?hr ?hp (fun _ hk => hk) (fun e_ => by have h_ := Kd.R_lt HO.out _ e_.symm; omega) HB.out (below_size HB.out) (by simp) ?_; (case hd => rfl); (case hg => rfl); (case hr => first | (go_simp; done) | (go_simp; rfl)); (case hp => exact Reps.c2 (k29_mkM _ _ _ _ (R_apart29 HT.out HO.out)) (Reps.none _ _)); intro v50 w50 ho hb hg_ hnew_; obtain ⟨A50, c50, e50⟩ := Kd.R_slice ho; subst e50; have HP := Aside0.mk ho; clear ho hnew_; have n_ := a_ (Aside0.mk (blk_grown Bgp.out hg_ (by simp))) (a_ (Aside0.mk (blk_grown Bgs.out hg_ (by simp))) (a_ (Aside0.mk (Kd.R_grown HO.out hg_ (fun k _ => by simp))) (a_ (Aside0.mk (Kd.R_grown HT.out hg_ (fun k _ => by simp))) (Aside0.mk hb)))); (try clear hgp0 hgp1 hgp2 hgp3 hgs0 hgs1 hgt0 hgt1); clear Bgp Bgs HO HT HB hb hg_; obtain ⟨Bgp, Bgs, HO, HT, HB⟩ := n_) | ((with_reducible refine gate_builtin (b := .append) (xs := #[.tmp 48, .tmp 50]) rfl ?_); (try (refine gate_guard (by rfl) ?_; dsimp only)); at_builtin; refine Kd.R_append_rows k29 (w0 := w) w.heap.size rfl (.tmp 48) (.tmp 50) 42 29 (.agg #[.int .i64 0, .slice none 0 0]) 32 rfl Try.underlying42 info29 rfl (by decide) (by omega) u9 out [⟨t1, t2⟩] A50 1 c50 (fun _ => True) (fun k => some k ≠ u9.ownBlock) rfl rfl HO.out (R_reads29 HP.out) (fun x cs h_ => Kd.M_mono _ (fun k hk => hk.1) h_) (fun k hk => ⟨trivial, hk⟩) (fun _ _ => trivial) HB.out (below_size HB.out) (by have h_ := HLO.out; have h2_ := HLN.out.2; omega) ?_; intro v51 w51 ho hb hg_ hat; have n_ := a_ (Aside0.mk (blk_grown Bgp.out hg_ (Kd.R_ne HO.out Bgp.out (by decide)))) (a_ (Aside0.mk (blk_grown Bgs.out hg_ NE.out)) (a_ (Aside0.mk (R_grown29 HT.out HO.out hg_)) (a_ (Aside0.mk ho) (a_ (Aside0.mk (own_after Bgs.out NE.out hat)) (Aside0.mk hb))))); clear Bgp Bgs HT HO NE HB HP ho hb hg_ hat; obtain ⟨Bgp, Bgs, HT, HO, NE, HB⟩ := n_))
    go_roundg (l2.length - (i + 1))
    case measure => have := HG.out; omega
    case rel =>
      refine ⟨i + 1, out ++ [⟨t1, t2⟩], t1, t2, AT, ct, by omega, by go_num, ⟨by have := HLO.out; simp; omega⟩, ⟨by omega⟩, HD, Bgp, Bgs, NE, HO, HT, HB⟩
end Go.Proofs.Ytpcpbeklaibdfaa.C
