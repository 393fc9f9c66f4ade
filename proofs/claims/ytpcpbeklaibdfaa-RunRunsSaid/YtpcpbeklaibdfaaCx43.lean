import Derived.Test.YtpcpbeklaibdfaaCx0
import Derived.Test.YtpcpbeklaibdfaaCx40
namespace Go.Proofs.Ytpcpbeklaibdfaa.C
open Go.RowKit Go.Proofs.YtpcpbeklaibdfaaW.PrintWords Go.Proofs.YtpcpbeklaibdfaaW.PrintLast Go.Proofs.YtpcpbeklaibdfaaW.PrintMore
attribute [local go_sem] max2_int min2_int max_two min_two max_three min_three max_four min_four   -- for this text's walks alone
set_option linter.unusedVariables false
set_option linter.unusedSimpArgs false
def warrantorref13_Vals.l0 : Nat → List Int → Int → Int → Option (Bool)
 | 0, _, _, _ => none
 | k + 1, x0, x1, x5 => if x5 < (x0.length : Int) then (if 0 ≤ x5 then ((warrantorref06_Is.f (rd x0 x5)).bind fun t246 => (if t246 = true then (warrantorref13_Vals.l0 k x0 x1 (wrap64 (x5 + 1))) else (some false))) else (none)) else (some ((x0.length : Int) == x1))
def warrantorref13_Vals.f (k : Nat) (l0 : List Int) (a1 : Int) : Option (Bool) := warrantorref13_Vals.l0 k l0 a1 0
set_option maxHeartbeats 8000000 in
set_option maxRecDepth 100000 in
theorem warrantorref13_Vals.calls (k : Nat) (A0 : Option Addr) (c0 : Nat) (l0 : List Int) (a1 : Int) (r : Bool) (w : World) (hr0 : Kd.C (Kd.int .i64) w A0 l0.length l0) (hc0 : l0.length ≤ c0) (h : warrantorref13_Vals.f k l0 a1 = some r) :
  Calls Try.prog 16 #[.slice A0 l0.length c0, .int .i64 a1] w fun e w' => e = .returned (.bool r) ∧ Drawn0 w w' := by
 have HR0 := Aside0.mk hr0
 have HC0 := Aside0.mk hc0
 clear hr0 hc0
 have H : (warrantorref13_Vals.l0 k l0 a1 0) = some r := h
 clear h
 have H' := Aside0.mk H
 clear H
 go_enter Try.func16, Try.ntmps16
 go_wp2
 go_loopg [5] k (fun kq v5 w' => ∃ (x5_1 : Int), v5 = .int .i64 x5_1 ∧ Aside0 (warrantorref13_Vals.l0 kq l0 a1 x5_1 = some r) ∧ Aside0 (kq ≤ k) ∧ Drawn0 w w')
 case atStart => exact ⟨(0), (by first | rfl | (simp; done) | (simp [*]; done)), H', ⟨Nat.le_refl _⟩, by repeat (first | exact Drawn0.refl _ | apply Drawn0.step)⟩
 case round =>
  clear H'
  try clear c1
  try clear p2
  obtain ⟨x5_1, rfl, HA, HK1, ⟨m1, rfl⟩⟩ := hrel
  cases gk with
  | zero => exact absurd HA.out (by simp [warrantorref13_Vals.l0])
  | succ k1 =>
   have H := HA.out
   clear HA
   simp only [warrantorref13_Vals.l0] at H
   by_cases c3 : x5_1 < (l0.length : Int)
   rotate_left
   · rw [if_neg c3] at H
     have c3b0 : decide (x5_1 < (l0.length : Int)) = false := decide_eq_false c3
     clear c3
     obtain rfl := Option.some.inj H
     go_wp2
     go_ret
     exact ⟨by first | rfl | (simp; done) | (simp [*]; done), by repeat (first | exact Drawn0.refl _ | apply Drawn0.step)⟩
   rw [if_pos c3] at H
   have c3b0 : decide (x5_1 < (l0.length : Int)) = true := decide_eq_true c3
   clear c3
   replace H := yes_ H
   obtain ⟨c4, H⟩ := H
   have c4b0 : decide (0 ≤ x5_1) = true := decide_eq_true c4
   clear c4
   replace H := bd_ H
   obtain ⟨t246, A5, H⟩ := H
   (try dsimp only at H)
   by_cases c6 : t246 = true
   rotate_left
   · replace c6 := Bool.eq_false_iff.mpr c6
     subst c6
     replace H := ng1_ H
     obtain rfl := Option.some.inj H
     have p245 : 0 ≤ (x5_1 : Int) := of_decide_eq_true (by first | (with_reducible assumption) | assumption)
     have q245 : x5_1 < (l0.length : Int) := of_decide_eq_true (by first | (with_reducible assumption) | assumption)
     obtain ⟨ad245, e245, hx245_0⟩ := Kd.at_int HR0.out x5_1 p245 q245
     cases e245
     replace p245 := eq_true p245
     replace q245 := eq_true q245
     go_wp2_with (first | ((with_reducible refine gate_callee (f := 32) rfl ?_); refine goesL_ (some 16) rfl rfl Try.func32 (by kernel_rfl) rfl #[.int .i64 (rd l0 x5_1)] rfl MP_ ?_; (with_reducible refine (warrantorref06_Is.calls (rd l0 x5_1) false _ A5.out).mono ?_); rintro e w' ⟨rfl, ⟨nd, rfl⟩⟩; refine ⟨_, rfl, ?_⟩))
     go_ret
     exact ⟨by first | rfl | (simp; done) | (simp [*]; done), by repeat (first | exact Drawn0.refl _ | apply Drawn0.step)⟩
   subst c6
   replace H := ps1_ H
   have H' := Aside0.mk H
   clear H
   have p245 : 0 ≤ (x5_1 : Int) := of_decide_eq_true (by first | (with_reducible assumption) | assumption)
   have q245 : x5_1 < (l0.length : Int) := of_decide_eq_true (by first | (with_reducible assumption) | assumption)
   obtain ⟨ad245, e245, hx245_0⟩ := Kd.at_int HR0.out x5_1 p245 q245
   cases e245
   replace p245 := eq_true p245
   replace q245 := eq_true q245
   go_wp2_with (first | ((with_reducible refine gate_callee (f := 32) rfl ?_); refine goesL_ (some 16) rfl rfl Try.func32 (by kernel_rfl) rfl #[.int .i64 (rd l0 x5_1)] rfl MP_ ?_; (with_reducible refine (warrantorref06_Is.calls (rd l0 x5_1) true _ A5.out).mono ?_); rintro e w' ⟨rfl, ⟨nd, rfl⟩⟩; refine ⟨_, rfl, ?_⟩))
   go_roundg k1
   case measure => have := HK1.out; omega
   case rel => exact ⟨(wrap64 (x5_1 + 1)), (by first | rfl | (simp; done) | (simp [*]; done)), H', ⟨by have := HK1.out; omega⟩, by repeat (first | exact Drawn0.refl _ | apply Drawn0.step)⟩
def warrantorref13_Value.f (l0 : List Int) (a1 : Int) : Option (Int) := if a1 = 0 then (some 0) else (if 0 ≤ (wrap64 (a1 - 1)) then (if (wrap64 (a1 - 1)) < (l0.length : Int) then (some (rd l0 (wrap64 (a1 - 1)))) else (none)) else (none))
set_option maxHeartbeats 8000000 in
set_option maxRecDepth 100000 in
theorem warrantorref13_Value.calls (A0 : Option Addr) (c0 : Nat) (l0 : List Int) (a1 : Int) (r : Int) (w : World) (hr0 : Kd.C (Kd.int .i64) w A0 l0.length l0) (hc0 : l0.length ≤ c0) (h : warrantorref13_Value.f l0 a1 = some r) :
   Calls Try.prog 47 #[.slice A0 l0.length c0, .int .i64 a1] w fun e w' => e = .returned (.int .i64 r) ∧ Drawn0 w w' := by
 have HR0 := Aside0.mk hr0
 have HC0 := Aside0.mk hc0
 clear hr0 hc0
 have H : (if a1 = 0 then (some 0) else (if 0 ≤ (wrap64 (a1 - 1)) then (if (wrap64 (a1 - 1)) < (l0.length : Int) then (some (rd l0 (wrap64 (a1 - 1)))) else (none)) else (none))) = some r := h
 clear h
 by_cases c3 : a1 = 0
 · rw [if_pos c3] at H
   have c3b0 : (a1 == 0) = true := beq_iff_eq.mpr c3
   have c3b1 : (a1 != 0) = false := bne_eq_false_iff_eq.mpr c3
   clear c3
   obtain rfl := Option.some.inj H
   go_enter Try.func47, Try.ntmps47
   go_wp2
   go_ret
   exact ⟨by first | rfl | (simp; done) | (simp [*]; done), by repeat (first | exact Drawn0.refl _ | apply Drawn0.step)⟩
 rw [if_neg c3] at H
 have c3b0 : (a1 == 0) = false := beq_eq_false_iff_ne.mpr c3
 have c3b1 : (a1 != 0) = true := bne_iff_ne.mpr c3
 obtain ⟨ji4, hji4⟩ : ∃ j_ : Int, (wrap64 (a1 - 1)) = j_ := ⟨_, rfl⟩
 replace H : (if 0 ≤ (ji4) then (if (ji4) < (l0.length : Int) then (some (rd l0 (ji4))) else (none)) else (none)) = some r := by first | (rw [hji4] at H; exact H) | (simp only [hji4] at H ⊢; exact H)
 have hji4w : (IntKind.i64.wrap (a1 - 1)) = ji4 := (i64_w _).trans hji4
 replace H := yes_ H
 obtain ⟨c5, H⟩ := H
 have c5b0 : decide (0 ≤ (ji4)) = true := decide_eq_true c5
 clear c5
 replace H := yes_ H
 obtain ⟨c6, H⟩ := H
 have c6b0 : decide ((ji4) < (l0.length : Int)) = true := decide_eq_true c6
 clear c6
 obtain rfl := Option.some.inj H
 have p247 : 0 ≤ ((ji4) : Int) := of_decide_eq_true (by first | (with_reducible assumption) | assumption)
 have q247 : (ji4) < (l0.length : Int) := of_decide_eq_true (by first | (with_reducible assumption) | assumption)
 obtain ⟨ad247, e247, hx247_0⟩ := Kd.at_int HR0.out (ji4) p247 q247
 cases e247
 replace p247 := eq_true p247
 replace q247 := eq_true q247
 go_enter Try.func47, Try.ntmps47
 go_wp2
 go_ret
 exact ⟨by first | rfl | (simp; done) | (simp only [← hji4] <;> (first | rfl | simp)) | (simp [*]; done), by repeat (first | exact Drawn0.refl _ | apply Drawn0.step)⟩
def warrantorref13_With.f (l0 : List Int) (a1 : Int) (a2 : Int) : Option (List Int) := (some (([] : List Int) : List Int)).bind fun y248 => (if y248.length + l0.length < 17592186044416 then ((some (y248 ++ l0 : List Int)).bind fun y251 => (if 0 ≤ (wrap64 (a1 - 1)) then (if (wrap64 (a1 - 1)) < (y251.length : Int) then (some (y251.set ((wrap64 (a1 - 1)) : Int).toNat a2)) else (none)) else (none))) else (none))
set_option maxHeartbeats 8000000 in
set_option maxRecDepth 100000 in
theorem warrantorref13_With.calls (A0 : Option Addr) (c0 : Nat) (l0 : List Int) (a1 : Int) (a2 : Int) (r : List Int) (w : World) (hr0 : Kd.C (Kd.int .i64) w A0 l0.length l0) (hc0 : l0.length ≤ c0) (h : warrantorref13_With.f l0 a1 a2 = some r) :
  Calls Try.prog 48 #[.slice A0 l0.length c0, .int .i64 a1, .int .i64 a2] w fun e w' => ∃ v0_ : Value, e = .returned (v0_) ∧ Kd.R (Kd.int .i64) 3 w' w.heap.size (fun _ => True) v0_ r ∧ Below w.heap.size w w' := by
 have HR0 := Aside0.mk hr0
 have HC0 := Aside0.mk hc0
 clear hr0 hc0
 have HB := Aside0.mk (Below.refl w.heap.size w)
 have H : ((some (([] : List Int) : List Int)).bind fun y248 => (if y248.length + l0.length < 17592186044416 then ((some (y248 ++ l0 : List Int)).bind fun y251 => (if 0 ≤ (wrap64 (a1 - 1)) then (if (wrap64 (a1 - 1)) < (y251.length : Int) then (some (y251.set ((wrap64 (a1 - 1)) : Int).toNat a2)) else (none)) else (none))) else (none))) = some r := h
 clear h
 obtain ⟨y248, hy248⟩ : ∃ y_ : List Int, y_ = (([] : List Int)) := ⟨_, rfl⟩
 replace H : (if y248.length + l0.length < 17592186044416 then ((some (y248 ++ l0 : List Int)).bind fun y251 => (if 0 ≤ (wrap64 (a1 - 1)) then (if (wrap64 (a1 - 1)) < (y251.length : Int) then (some (y251.set ((wrap64 (a1 - 1)) : Int).toNat a2)) else (none)) else (none))) else (none)) = some r := by first | (rw [hy248]; with_reducible exact H) | (have H2_ := (Option.bind_some _ _).symm.trans H; rw [hy248]; with_reducible exact H2_) | (have H2_ := (Option.bind_some _ _).symm.trans H; with_reducible exact H2_) | with_reducible exact H | (rw [hy248]; exact H) | exact H
 have Ny248 := Aside0.mk hy248
 clear hy248
 replace H := yes_ H
 obtain ⟨c4, H⟩ := H
 have LMc4 := Aside0.mk c4
 clear c4
 obtain ⟨y251, hy251⟩ : ∃ y_ : List Int, y_ = (y248 ++ l0) := ⟨_, rfl⟩
 replace H : (if 0 ≤ (wrap64 (a1 - 1)) then (if (wrap64 (a1 - 1)) < (y251.length : Int) then (some (y251.set ((wrap64 (a1 - 1)) : Int).toNat a2)) else (none)) else (none)) = some r := by first | (rw [hy251]; with_reducible exact H) | (have H2_ := (Option.bind_some _ _).symm.trans H; rw [hy251]; with_reducible exact H2_) | (have H2_ := (Option.bind_some _ _).symm.trans H; with_reducible exact H2_) | with_reducible exact H | (rw [hy251]; exact H) | exact H
 have Ny251 := Aside0.mk hy251
 clear hy251
 obtain ⟨ji5, hji5⟩ : ∃ j_ : Int, (wrap64 (a1 - 1)) = j_ := ⟨_, rfl⟩
 replace H : (if 0 ≤ (ji5) then (if (ji5) < (y251.length : Int) then (some (y251.set ((ji5) : Int).toNat a2)) else (none)) else (none)) = some r := by first | (rw [hji5] at H; exact H) | (simp only [hji5] at H ⊢; exact H)
 have hji5w : (IntKind.i64.wrap (a1 - 1)) = ji5 := (i64_w _).trans hji5
 replace H := yes_ H
 obtain ⟨c6, H⟩ := H
 have c6b0 : decide (0 ≤ (ji5)) = true := decide_eq_true c6
 clear c6
 replace H := yes_ H
 obtain ⟨c7, H⟩ := H
 have c7b0 : decide ((ji5) < (y251.length : Int)) = true := decide_eq_true c7
 clear c7
 obtain ⟨y254, hy254⟩ : ∃ y_ : List Int, y_ = (y251.set ((ji5) : Int).toNat a2) := ⟨_, rfl⟩
 replace H : (some y254) = some r := by first | (rw [hy254]; with_reducible exact H) | (have H2_ := (Option.bind_some _ _).symm.trans H; rw [hy254]; with_reducible exact H2_) | (have H2_ := (Option.bind_some _ _).symm.trans H; with_reducible exact H2_) | with_reducible exact H | (rw [hy254]; exact H) | exact H
 have Ny254 := Aside0.mk hy254
 clear hy254
 obtain rfl := Option.some.inj H
 go_enter Try.func48, Try.ntmps48
 go_wp2_with (first | ((with_reducible refine gate_dst (N := 8) rfl ?_); refine Kd.R_lit (Kd.int .i64) _ 3 ?hg (N := 8) ?hd (xs := ([] : List Int)) (inner := []) (ok := fun _ => True) (okp := fun _ => True) ?hr ?hp (fun _ hk => hk) trivial (Below.refl _ _) (Nat.le_refl _) (by simp) ?_; (case hd => rfl); (case hg => rfl); (case hr => first | (go_simp; done) | (go_simp; rfl)); (case hp => exact (Reps.none _ _)); intro v249 w9 ho10 hb hg_ hnew_; clear hg_ hnew_; (first | rw [← Ny248.out] at ho10 | (simp only [Int.reduceToNat] at ho10; rw [← Ny248.out] at ho10)); have n_ := a_ (Aside0.mk (Kd.R_lower ho10 (below_size HB_))) (bs_ HB hb); clear HB; obtain ⟨HO250, HB⟩ := n_; clear hb ho10) | ((with_reducible refine gate_builtin (b := .append) (xs := #[.tmp 8, .tmp 9]) rfl ?_); at_builtin; refine Kd.R_append_rows (Kd.int .i64) (w0 := w) w.heap.size rfl (.tmp 8) (.tmp 9) 27 3 (.int .i64 0) 8 rfl Try.underlying27 info3 rfl (by decide) (by omega) v249 y248 l0 _ _ _ (fun _ => True) (fun _ => False) rfl rfl ?aO ?aR (fun _ _ h => h) (fun _ h => h.elim) ?aF ?aB ?aS ?aL ?_; (case aR => exact sd_ (Kd.C_below HR0.out HB.out)); (case aB => exact HB_); (case aF => exact (fun _ _ => trivial)); (case aO => exact (rd_ HO250.out)); (case aS => exact (below_size HB_)); (case aL => have := LMc4.out; omega); intro v252 w11 ho hb hg hat; rw [← Ny251.out] at ho; have n_ := a_ (Aside0.mk hb) (Aside0.mk ho); clear HB HO250; obtain ⟨HB, HO253⟩ := n_; clear ho hb hg hat; have p8 : 0 ≤ ((ji5) : Int) := of_decide_eq_true (by first | (with_reducible assumption) | assumption); have q8 : ((ji5) : Int) < ((y251.length : Int) : Int) := of_decide_eq_true (by first | (with_reducible assumption) | assumption); obtain ⟨go8, co8, eo8, gb8, gl8, cl8, HG8⟩ := Kd.R_form HO253.out (by omega); (first | cases eo8 | (injection eo8 with ea_ en_ ec_; (first | subst ea_ | (injection ea_ with ea_; subst ea_)); subst ec_; clear en_)); have GB8 := Aside0.mk gb8; have GG8 := Aside0.mk HG8; clear gb8 gl8 HG8; obtain ⟨hx8_0, hf8_0⟩ := Kd.R_celln 0 HO253.out ((ji5) : Int) p8 q8; replace p8 := eq_true p8; replace q8 := eq_true q8; obtain ⟨hy12_, hz12_⟩ := Kd.R_celln 0 HO253.out ((ji5) : Int) (of_decide_eq_true (by first | (with_reducible assumption) | assumption)) (of_decide_eq_true (by first | (with_reducible assumption) | assumption)); have HP12 := Kd.R_putg HO253.out ((ji5) : Int) a2) | ((with_reducible refine gate_store (t := 3) (p := 15) rfl ?_); refine store_event (t := 3) (p := 15) (v := ?vo_w13) (w1 := (w11.setCell ⟨go8, ((ji5) : Int).toNat, none⟩ (.int .i64 a2))) ?hg ?ho ?hn ?hr ?_; (case ho => rfl); (case hg => rfl); (case hn => rfl); (case hr => first | (go_simp; done) | (go_simp; rfl)); intro w13 hw; have hg : w11.grownBy w13 (some go8) := (by rw [hw]; exact HP12.2); have hp_ : Kd.R (Kd.int .i64) 3 w13 w.heap.size (fun _ => True) (.slice (some ⟨go8, 0, none⟩) y251.length co8) y254 := (by rw [hw, Ny254.out]; exact HP12.1); clear HP12; have n_ := a_ (Aside0.mk hp_) (Aside0.mk (by rw [hw]; exact below_set (HB.out) GB8.out : Below w.heap.size w w13)); clear HO253 HB; obtain ⟨HO253, HB⟩ := n_; clear hg hw hp_))
 go_ret
 exact ⟨_, by first | rfl | (simp [errW_none, errW_some] <;> rfl) | (simp only [← hji5]; first | rfl | (simp [errW_none, errW_some] <;> rfl)) | (simp [*, errW_none, errW_some] <;> rfl), by (with_reducible repeat (first | apply Kd.R_alloc | apply Kd.R_drewN | apply Kd.R_drew)); exact HO253.out, HB_⟩
def warrantorref13_Does.f (a0_0 : Int) (a0_1 : Int) (a0_2 : Int) (a0_3 : Int) (a0_4 : Int) (l1 : List Int) (a2 : Int) : Option (List Int × Int) := if a0_0 = 2 then ((warrantorref13_Value.f l1 a0_2).bind fun t256 => ((warrantorref06_Is.f (wrap64 (t256 + a0_3))).bind fun t257 => (if t257 = true then ((warrantorref13_With.f l1 a0_1 (wrap64 (t256 + a0_3))).bind fun t258 => (some (t258, 0))) else (some (([] : List Int), 130))))) else (if a0_0 = 3 then (if a2 < a0_3 then (some (([] : List Int), 130)) else (if a2 > a0_4 then (some (([] : List Int), 130)) else ((warrantorref13_With.f l1 a0_1 a2).bind fun t261 => (some (t261, 0))))) else (if a0_0 = 4 then ((warrantorref13_Value.f l1 a0_1).bind fun t264 => ((warrantorref13_Value.f l1 a0_2).bind fun t265 => (if (wrap64 (t264 - t265)) > a0_3 then (some (([] : List Int), 130)) else ((some (([] : List Int) : List Int)).bind fun y266 => (if y266.length + l1.length < 17592186044416 then (some ((y266 ++ l1), 0)) else (none)))))) else (if a0_0 = 5 then ((warrantorref13_Value.f l1 a0_1).bind fun t272 => ((warrantorref13_Value.f l1 a0_2).bind fun t273 => (if (wrap64 (t272 - t273)) > a0_3 then (some (([] : List Int), 131)) else ((some (([] : List Int) : List Int)).bind fun y274 => (if y274.length + l1.length < 17592186044416 then (some ((y274 ++ l1), 0)) else (none)))))) else ((some (([] : List Int) : List Int)).bind fun y280 => (if y280.length + l1.length < 17592186044416 then (some ((y280 ++ l1), 0)) else (none))))))
set_option maxHeartbeats 8000000 in
set_option maxRecDepth 100000 in
theorem warrantorref13_Does.calls (a0_0 : Int) (a0_1 : Int) (a0_2 : Int) (a0_3 : Int) (a0_4 : Int) (A1 : Option Addr) (c1 : Nat) (l1 : List Int) (a2 : Int) (r1 : List Int) (r2 : Int) (w : World) (hr1 : Kd.C (Kd.int .i64) w A1 l1.length l1) (hc1 : l1.length ≤ c1) (h : warrantorref13_Does.f a0_0 a0_1 a0_2 a0_3 a0_4 l1 a2 = some (r1, r2)) :
   Calls Try.prog 29 #[.agg #[.int .i64 a0_0, .int .i64 a0_1, .int .i64 a0_2, .int .i64 a0_3, .int .i64 a0_4], .slice A1 l1.length c1, .int .i64 a2] w fun e w' => ∃ v0_ : Value, e = .returned (.tuple #[v0_, .int .i64 r2]) ∧ Kd.R (Kd.int .i64) 3 w' w.heap.size (fun _ => True) v0_ r1 ∧ Below w.heap.size w w' := by
 have hu55 := Try.underlying55
 have HR1 := Aside0.mk hr1
 have HC1 := Aside0.mk hc1
 clear hr1 hc1
 have HB := Aside0.mk (Below.refl w.heap.size w)
 have H : (if a0_0 = 2 then ((warrantorref13_Value.f l1 a0_2).bind fun t256 => ((warrantorref06_Is.f (wrap64 (t256 + a0_3))).bind fun t257 => (if t257 = true then ((warrantorref13_With.f l1 a0_1 (wrap64 (t256 + a0_3))).bind fun t258 => (some (t258, 0))) else (some (([] : List Int), 130))))) else (if a0_0 = 3 then (if a2 < a0_3 then (some (([] : List Int), 130)) else (if a2 > a0_4 then (some (([] : List Int), 130)) else ((warrantorref13_With.f l1 a0_1 a2).bind fun t261 => (some (t261, 0))))) else (if a0_0 = 4 then ((warrantorref13_Value.f l1 a0_1).bind fun t264 => ((warrantorref13_Value.f l1 a0_2).bind fun t265 => (if (wrap64 (t264 - t265)) > a0_3 then (some (([] : List Int), 130)) else ((some (([] : List Int) : List Int)).bind fun y266 => (if y266.length + l1.length < 17592186044416 then (some ((y266 ++ l1), 0)) else (none)))))) else (if a0_0 = 5 then ((warrantorref13_Value.f l1 a0_1).bind fun t272 => ((warrantorref13_Value.f l1 a0_2).bind fun t273 => (if (wrap64 (t272 - t273)) > a0_3 then (some (([] : List Int), 131)) else ((some (([] : List Int) : List Int)).bind fun y274 => (if y274.length + l1.length < 17592186044416 then (some ((y274 ++ l1), 0)) else (none)))))) else ((some (([] : List Int) : List Int)).bind fun y280 => (if y280.length + l1.length < 17592186044416 then (some ((y280 ++ l1), 0)) else (none))))))) = some (r1, r2) := h
 clear h
 by_cases c4 : a0_0 = 2
 · rw [if_pos c4] at H
   have c4b0 : (a0_0 == 2) = true := beq_iff_eq.mpr c4
   have c4b1 : (a0_0 != 2) = false := bne_eq_false_iff_eq.mpr c4
   clear c4
   replace H := Option.bind_eq_some_iff.mp H
   obtain ⟨t256, A50, H⟩ := H
   replace H : ((warrantorref06_Is.f (wrap64 (t256 + a0_3))).bind fun t257 => (if t257 = true then ((warrantorref13_With.f l1 a0_1 (wrap64 (t256 + a0_3))).bind fun t258 => (some (t258, 0))) else (some (([] : List Int), 130)))) = some (r1, r2) := H
   have A5 := Aside0.mk A50
   clear A50
   replace H := Option.bind_eq_some_iff.mp H
   obtain ⟨t257, A60, H⟩ := H
   replace H : (if t257 = true then ((warrantorref13_With.f l1 a0_1 (wrap64 (t256 + a0_3))).bind fun t258 => (some (t258, 0))) else (some (([] : List Int), 130))) = some (r1, r2) := H
   have A6 := Aside0.mk A60
   clear A60
   by_cases c7 : t257 = true
   rotate_left
   · replace c7 := Bool.eq_false_iff.mpr c7
     subst c7
     have H1 : (some (([] : List Int), 130)) = some (r1, r2) := by rw [if_neg (show ¬ (false = true) by decide)] at H; exact H
     clear H
     have H := H1
     clear H1
     simp only [Option.some.injEq, Prod.mk.injEq] at H
     obtain ⟨rfl, rfl⟩ := H
     go_enter Try.func29, Try.ntmps29
     go_wp2_with (first | ((with_reducible refine gate_dst (N := 3) rfl ?_); refine bx_ (N := 3) (cs := #[.int .i64 a0_0, .int .i64 a0_1, .int .i64 a0_2, .int .i64 a0_3, .int .i64 a0_4]) (t := 55) ?_; intro gb255 hg w12 hbox hb; have n_ := a_ (bs_ HB hb) (a_ (Aside0.mk hbox) (a_ (gs_ HB hg) (gs_ HB hg))); clear HB; obtain ⟨HB, BK255, GW255, GE255⟩ := n_; clear hb hbox hg; obtain ⟨hcz13_0, hcz13_1, hcz13_2, hcz13_3, hcz13_4, hfz13_0, hfz13_1, hfz13_2, hfz13_3, hfz13_4⟩ := cz5_ BK255) | (go_at_call 47; (with_reducible refine (warrantorref13_Value.calls _ _ l1 a0_2 t256 _ ?side1 ?side2 A5.out).mono ?_); (case side1 => exact sd_ (Kd.C_below HR1.out HB.out)); (case side2 => exact HC1.out); rintro e w' ⟨rfl, ⟨nd, rfl⟩⟩; (try first | exact ⟨rfl, _, World.drewN_drewN _ _ _⟩ | exact ⟨rfl, _, Eq.trans (World.drewN_drewN _ _ _) (congrArg (World.drewN _) (Nat.add_assoc _ _ _))⟩)) | (go_at_call 32; (with_reducible refine (warrantorref06_Is.calls (wrap64 (t256 + a0_3)) false _ A6.out).mono ?_); rintro e w' ⟨rfl, ⟨nd, rfl⟩⟩; (try first | exact ⟨rfl, _, World.drewN_drewN _ _ _⟩ | exact ⟨rfl, _, Eq.trans (World.drewN_drewN _ _ _) (congrArg (World.drewN _) (Nat.add_assoc _ _ _))⟩)))
     repeat (go_quiet (first | ((with_reducible refine gate_dst (N := 3) rfl ?_); refine bx_ (N := 3) (cs := #[.int .i64 a0_0, .int .i64 a0_1, .int .i64 a0_2, .int .i64 a0_3, .int .i64 a0_4]) (t := 55) ?_; intro gb255 hg w12 hbox hb; have n_ := a_ (bs_ HB hb) (a_ (Aside0.mk hbox) (a_ (gs_ HB hg) (gs_ HB hg))); clear HB; obtain ⟨HB, BK255, GW255, GE255⟩ := n_; clear hb hbox hg; obtain ⟨hcz13_0, hcz13_1, hcz13_2, hcz13_3, hcz13_4, hfz13_0, hfz13_1, hfz13_2, hfz13_3, hfz13_4⟩ := cz5_ BK255) | (go_at_call 47; (with_reducible refine (warrantorref13_Value.calls _ _ l1 a0_2 t256 _ ?side1 ?side2 A5.out).mono ?_); (case side1 => exact sd_ (Kd.C_below HR1.out HB.out)); (case side2 => exact HC1.out); rintro e w' ⟨rfl, ⟨nd, rfl⟩⟩; (try first | exact ⟨rfl, _, World.drewN_drewN _ _ _⟩ | exact ⟨rfl, _, Eq.trans (World.drewN_drewN _ _ _) (congrArg (World.drewN _) (Nat.add_assoc _ _ _))⟩)) | (go_at_call 32; (with_reducible refine (warrantorref06_Is.calls (wrap64 (t256 + a0_3)) false _ A6.out).mono ?_); rintro e w' ⟨rfl, ⟨nd, rfl⟩⟩; (try first | exact ⟨rfl, _, World.drewN_drewN _ _ _⟩ | exact ⟨rfl, _, Eq.trans (World.drewN_drewN _ _ _) (congrArg (World.drewN _) (Nat.add_assoc _ _ _))⟩))); try go_wp2_with (first | ((with_reducible refine gate_dst (N := 3) rfl ?_); refine bx_ (N := 3) (cs := #[.int .i64 a0_0, .int .i64 a0_1, .int .i64 a0_2, .int .i64 a0_3, .int .i64 a0_4]) (t := 55) ?_; intro gb255 hg w12 hbox hb; have n_ := a_ (bs_ HB hb) (a_ (Aside0.mk hbox) (a_ (gs_ HB hg) (gs_ HB hg))); clear HB; obtain ⟨HB, BK255, GW255, GE255⟩ := n_; clear hb hbox hg; obtain ⟨hcz13_0, hcz13_1, hcz13_2, hcz13_3, hcz13_4, hfz13_0, hfz13_1, hfz13_2, hfz13_3, hfz13_4⟩ := cz5_ BK255) | (go_at_call 47; (with_reducible refine (warrantorref13_Value.calls _ _ l1 a0_2 t256 _ ?side1 ?side2 A5.out).mono ?_); (case side1 => exact sd_ (Kd.C_below HR1.out HB.out)); (case side2 => exact HC1.out); rintro e w' ⟨rfl, ⟨nd, rfl⟩⟩; (try first | exact ⟨rfl, _, World.drewN_drewN _ _ _⟩ | exact ⟨rfl, _, Eq.trans (World.drewN_drewN _ _ _) (congrArg (World.drewN _) (Nat.add_assoc _ _ _))⟩)) | (go_at_call 32; (with_reducible refine (warrantorref06_Is.calls (wrap64 (t256 + a0_3)) false _ A6.out).mono ?_); rintro e w' ⟨rfl, ⟨nd, rfl⟩⟩; (try first | exact ⟨rfl, _, World.drewN_drewN _ _ _⟩ | exact ⟨rfl, _, Eq.trans (World.drewN_drewN _ _ _) (congrArg (World.drewN _) (Nat.add_assoc _ _ _))⟩))))
     go_ret2
     exact ⟨_, by first | rfl | (simp [errW_none, errW_some] <;> rfl) | (simp [*, errW_none, errW_some] <;> rfl), by first | exact Kd.R_nil _ _ _ _ _ | exact Kd.N_nil _ _ _ _ _ | exact Kd.V_nil _ _ _ _ _ | exact Kd.Q_nil _ _ _ _ _ | exact Kd.S_nil _ _ _ _ _, HB_⟩
   subst c7
   have H1 : ((warrantorref13_With.f l1 a0_1 (wrap64 (t256 + a0_3))).bind fun t258 => (some (t258, 0))) = some (r1, r2) := by rw [if_pos rfl] at H; exact H
   clear H
   have H := H1
   clear H1
   replace H := Option.bind_eq_some_iff.mp H
   obtain ⟨t258, A80, H⟩ := H
   replace H : (some (t258, 0)) = some (r1, r2) := H
   have A8 := Aside0.mk A80
   clear A80
   simp only [Option.some.injEq, Prod.mk.injEq] at H
   obtain ⟨rfl, rfl⟩ := H
   go_enter Try.func29, Try.ntmps29
   go_wp2_with (first | ((with_reducible refine gate_dst (N := 3) rfl ?_); refine bx_ (N := 3) (cs := #[.int .i64 a0_0, .int .i64 a0_1, .int .i64 a0_2, .int .i64 a0_3, .int .i64 a0_4]) (t := 55) ?_; intro gb255 hg w9 hbox hb; have n_ := a_ (bs_ HB hb) (a_ (Aside0.mk hbox) (a_ (gs_ HB hg) (gs_ HB hg))); clear HB; obtain ⟨HB, BK255, GW255, GE255⟩ := n_; clear hb hbox hg; obtain ⟨hcz10_0, hcz10_1, hcz10_2, hcz10_3, hcz10_4, hfz10_0, hfz10_1, hfz10_2, hfz10_3, hfz10_4⟩ := cz5_ BK255) | (go_at_call 47; (with_reducible refine (warrantorref13_Value.calls _ _ l1 a0_2 t256 _ ?side1 ?side2 A5.out).mono ?_); (case side1 => exact sd_ (Kd.C_below HR1.out HB.out)); (case side2 => exact HC1.out); rintro e w' ⟨rfl, ⟨nd, rfl⟩⟩; (try first | exact ⟨rfl, _, World.drewN_drewN _ _ _⟩ | exact ⟨rfl, _, Eq.trans (World.drewN_drewN _ _ _) (congrArg (World.drewN _) (Nat.add_assoc _ _ _))⟩)) | (go_at_call 32; (with_reducible refine (warrantorref06_Is.calls (wrap64 (t256 + a0_3)) true _ A6.out).mono ?_); rintro e w' ⟨rfl, ⟨nd, rfl⟩⟩; (try first | exact ⟨rfl, _, World.drewN_drewN _ _ _⟩ | exact ⟨rfl, _, Eq.trans (World.drewN_drewN _ _ _) (congrArg (World.drewN _) (Nat.add_assoc _ _ _))⟩)) | (go_at_call 48; (with_reducible refine (warrantorref13_With.calls _ _ l1 a0_1 (wrap64 (t256 + a0_3)) t258 _ ?side1 ?side2 A8.out).mono ?_); (case side1 => repeat (first | exact (Kd.C_below HR1.out HB_) | (with_reducible refine Kd.C_alloc ?_ _) | (with_reducible refine Kd.C_drewN ?_ _) | (with_reducible refine Kd.C_drew ?_))); (case side2 => exact HC1.out); rintro e w11 ⟨v259, rfl, ho0, hb⟩; have n_ := a_ (Aside0.mk (Kd.R_lower ho0 (below_size HB_))) (a_ (bb_ BK255 hb) (bs_ HB hb)); clear BK255 HB; obtain ⟨HO260, BK255, HB⟩ := n_; (try clear hb); (try clear hb2); (try clear hk); (try clear hi); (try clear ho0)))
   repeat (go_quiet (first | ((with_reducible refine gate_dst (N := 3) rfl ?_); refine bx_ (N := 3) (cs := #[.int .i64 a0_0, .int .i64 a0_1, .int .i64 a0_2, .int .i64 a0_3, .int .i64 a0_4]) (t := 55) ?_; intro gb255 hg w9 hbox hb; have n_ := a_ (bs_ HB hb) (a_ (Aside0.mk hbox) (a_ (gs_ HB hg) (gs_ HB hg))); clear HB; obtain ⟨HB, BK255, GW255, GE255⟩ := n_; clear hb hbox hg; obtain ⟨hcz10_0, hcz10_1, hcz10_2, hcz10_3, hcz10_4, hfz10_0, hfz10_1, hfz10_2, hfz10_3, hfz10_4⟩ := cz5_ BK255) | (go_at_call 47; (with_reducible refine (warrantorref13_Value.calls _ _ l1 a0_2 t256 _ ?side1 ?side2 A5.out).mono ?_); (case side1 => exact sd_ (Kd.C_below HR1.out HB.out)); (case side2 => exact HC1.out); rintro e w' ⟨rfl, ⟨nd, rfl⟩⟩; (try first | exact ⟨rfl, _, World.drewN_drewN _ _ _⟩ | exact ⟨rfl, _, Eq.trans (World.drewN_drewN _ _ _) (congrArg (World.drewN _) (Nat.add_assoc _ _ _))⟩)) | (go_at_call 32; (with_reducible refine (warrantorref06_Is.calls (wrap64 (t256 + a0_3)) true _ A6.out).mono ?_); rintro e w' ⟨rfl, ⟨nd, rfl⟩⟩; (try first | exact ⟨rfl, _, World.drewN_drewN _ _ _⟩ | exact ⟨rfl, _, Eq.trans (World.drewN_drewN _ _ _) (congrArg (World.drewN _) (Nat.add_assoc _ _ _))⟩)) | (go_at_call 48; (with_reducible refine (warrantorref13_With.calls _ _ l1 a0_1 (wrap64 (t256 + a0_3)) t258 _ ?side1 ?side2 A8.out).mono ?_); (case side1 => repeat (first | exact (Kd.C_below HR1.out HB_) | (with_reducible refine Kd.C_alloc ?_ _) | (with_reducible refine Kd.C_drewN ?_ _) | (with_reducible refine Kd.C_drew ?_))); (case side2 => exact HC1.out); rintro e w11 ⟨v259, rfl, ho0, hb⟩; have n_ := a_ (Aside0.mk (Kd.R_lower ho0 (below_size HB_))) (a_ (bb_ BK255 hb) (bs_ HB hb)); clear BK255 HB; obtain ⟨HO260, BK255, HB⟩ := n_; (try clear hb); (try clear hb2); (try clear hk); (try clear hi); (try clear ho0))); try go_wp2_with (first | ((with_reducible refine gate_dst (N := 3) rfl ?_); refine bx_ (N := 3) (cs := #[.int .i64 a0_0, .int .i64 a0_1, .int .i64 a0_2, .int .i64 a0_3, .int .i64 a0_4]) (t := 55) ?_; intro gb255 hg w9 hbox hb; have n_ := a_ (bs_ HB hb) (a_ (Aside0.mk hbox) (a_ (gs_ HB hg) (gs_ HB hg))); clear HB; obtain ⟨HB, BK255, GW255, GE255⟩ := n_; clear hb hbox hg; obtain ⟨hcz10_0, hcz10_1, hcz10_2, hcz10_3, hcz10_4, hfz10_0, hfz10_1, hfz10_2, hfz10_3, hfz10_4⟩ := cz5_ BK255) | (go_at_call 47; (with_reducible refine (warrantorref13_Value.calls _ _ l1 a0_2 t256 _ ?side1 ?side2 A5.out).mono ?_); (case side1 => exact sd_ (Kd.C_below HR1.out HB.out)); (case side2 => exact HC1.out); rintro e w' ⟨rfl, ⟨nd, rfl⟩⟩; (try first | exact ⟨rfl, _, World.drewN_drewN _ _ _⟩ | exact ⟨rfl, _, Eq.trans (World.drewN_drewN _ _ _) (congrArg (World.drewN _) (Nat.add_assoc _ _ _))⟩)) | (go_at_call 32; (with_reducible refine (warrantorref06_Is.calls (wrap64 (t256 + a0_3)) true _ A6.out).mono ?_); rintro e w' ⟨rfl, ⟨nd, rfl⟩⟩; (try first | exact ⟨rfl, _, World.drewN_drewN _ _ _⟩ | exact ⟨rfl, _, Eq.trans (World.drewN_drewN _ _ _) (congrArg (World.drewN _) (Nat.add_assoc _ _ _))⟩)) | (go_at_call 48; (with_reducible refine (warrantorref13_With.calls _ _ l1 a0_1 (wrap64 (t256 + a0_3)) t258 _ ?side1 ?side2 A8.out).mono ?_); (case side1 => repeat (first | exact (Kd.C_below HR1.out HB_) | (with_reducible refine Kd.C_alloc ?_ _) | (with_reducible refine Kd.C_drewN ?_ _) | (with_reducible refine Kd.C_drew ?_))); (case side2 => exact HC1.out); rintro e w11 ⟨v259, rfl, ho0, hb⟩; have n_ := a_ (Aside0.mk (Kd.R_lower ho0 (below_size HB_))) (a_ (bb_ BK255 hb) (bs_ HB hb)); clear BK255 HB; obtain ⟨HO260, BK255, HB⟩ := n_; (try clear hb); (try clear hb2); (try clear hk); (try clear hi); (try clear ho0))))
   go_ret2
   exact ⟨_, by first | rfl | (simp [errW_none, errW_some] <;> rfl) | (simp [*, errW_none, errW_some] <;> rfl), by (with_reducible repeat (first | apply Kd.R_alloc | apply Kd.R_drewN | apply Kd.R_drew)); exact HO260.out, HB_⟩
 rw [if_neg c4] at H
 have c4b0 : (a0_0 == 2) = false := beq_eq_false_iff_ne.mpr c4
 have c4b1 : (a0_0 != 2) = true := bne_iff_ne.mpr c4
 by_cases c14 : a0_0 = 3
 · rw [if_pos c14] at H
   have c14b0 : (a0_0 == 3) = true := beq_iff_eq.mpr c14
   have c14b1 : (a0_0 != 3) = false := bne_eq_false_iff_eq.mpr c14
   clear c14
   by_cases c15 : a2 < a0_3
   · rw [if_pos c15] at H
     have c15b0 : decide (a2 < a0_3) = true := decide_eq_true c15
     clear c15
     simp only [Option.some.injEq, Prod.mk.injEq] at H
     obtain ⟨rfl, rfl⟩ := H
     go_enter Try.func29, Try.ntmps29
     go_wp2_with (first | ((with_reducible refine gate_dst (N := 3) rfl ?_); refine bx_ (N := 3) (cs := #[.int .i64 a0_0, .int .i64 a0_1, .int .i64 a0_2, .int .i64 a0_3, .int .i64 a0_4]) (t := 55) ?_; intro gb255 hg w16 hbox hb; have n_ := a_ (bs_ HB hb) (a_ (Aside0.mk hbox) (a_ (gs_ HB hg) (gs_ HB hg))); clear HB; obtain ⟨HB, BK255, GW255, GE255⟩ := n_; clear hb hbox hg; obtain ⟨hcz17_0, hcz17_1, hcz17_2, hcz17_3, hcz17_4, hfz17_0, hfz17_1, hfz17_2, hfz17_3, hfz17_4⟩ := cz5_ BK255))
     repeat (go_quiet (first | ((with_reducible refine gate_dst (N := 3) rfl ?_); refine bx_ (N := 3) (cs := #[.int .i64 a0_0, .int .i64 a0_1, .int .i64 a0_2, .int .i64 a0_3, .int .i64 a0_4]) (t := 55) ?_; intro gb255 hg w16 hbox hb; have n_ := a_ (bs_ HB hb) (a_ (Aside0.mk hbox) (a_ (gs_ HB hg) (gs_ HB hg))); clear HB; obtain ⟨HB, BK255, GW255, GE255⟩ := n_; clear hb hbox hg; obtain ⟨hcz17_0, hcz17_1, hcz17_2, hcz17_3, hcz17_4, hfz17_0, hfz17_1, hfz17_2, hfz17_3, hfz17_4⟩ := cz5_ BK255)); try go_wp2_with (first | ((with_reducible refine gate_dst (N := 3) rfl ?_); refine bx_ (N := 3) (cs := #[.int .i64 a0_0, .int .i64 a0_1, .int .i64 a0_2, .int .i64 a0_3, .int .i64 a0_4]) (t := 55) ?_; intro gb255 hg w16 hbox hb; have n_ := a_ (bs_ HB hb) (a_ (Aside0.mk hbox) (a_ (gs_ HB hg) (gs_ HB hg))); clear HB; obtain ⟨HB, BK255, GW255, GE255⟩ := n_; clear hb hbox hg; obtain ⟨hcz17_0, hcz17_1, hcz17_2, hcz17_3, hcz17_4, hfz17_0, hfz17_1, hfz17_2, hfz17_3, hfz17_4⟩ := cz5_ BK255)))
     go_ret2
     exact ⟨_, by first | rfl | (simp [errW_none, errW_some] <;> rfl) | (simp [*, errW_none, errW_some] <;> rfl), by first | exact Kd.R_nil _ _ _ _ _ | exact Kd.N_nil _ _ _ _ _ | exact Kd.V_nil _ _ _ _ _ | exact Kd.Q_nil _ _ _ _ _ | exact Kd.S_nil _ _ _ _ _, HB_⟩
   rw [if_neg c15] at H
   have c15b0 : decide (a2 < a0_3) = false := decide_eq_false c15
   clear c15
   by_cases c18 : a2 > a0_4
   · rw [if_pos c18] at H
     have c18b0 : decide (a0_4 < a2) = true := decide_eq_true c18
     clear c18
     simp only [Option.some.injEq, Prod.mk.injEq] at H
     obtain ⟨rfl, rfl⟩ := H
     go_enter Try.func29, Try.ntmps29
     go_wp2_with (first | ((with_reducible refine gate_dst (N := 3) rfl ?_); refine bx_ (N := 3) (cs := #[.int .i64 a0_0, .int .i64 a0_1, .int .i64 a0_2, .int .i64 a0_3, .int .i64 a0_4]) (t := 55) ?_; intro gb255 hg w19 hbox hb; have n_ := a_ (bs_ HB hb) (a_ (Aside0.mk hbox) (a_ (gs_ HB hg) (gs_ HB hg))); clear HB; obtain ⟨HB, BK255, GW255, GE255⟩ := n_; clear hb hbox hg; obtain ⟨hcz20_0, hcz20_1, hcz20_2, hcz20_3, hcz20_4, hfz20_0, hfz20_1, hfz20_2, hfz20_3, hfz20_4⟩ := cz5_ BK255))
     repeat (go_quiet (first | ((with_reducible refine gate_dst (N := 3) rfl ?_); refine bx_ (N := 3) (cs := #[.int .i64 a0_0, .int .i64 a0_1, .int .i64 a0_2, .int .i64 a0_3, .int .i64 a0_4]) (t := 55) ?_; intro gb255 hg w19 hbox hb; have n_ := a_ (bs_ HB hb) (a_ (Aside0.mk hbox) (a_ (gs_ HB hg) (gs_ HB hg))); clear HB; obtain ⟨HB, BK255, GW255, GE255⟩ := n_; clear hb hbox hg; obtain ⟨hcz20_0, hcz20_1, hcz20_2, hcz20_3, hcz20_4, hfz20_0, hfz20_1, hfz20_2, hfz20_3, hfz20_4⟩ := cz5_ BK255)); try go_wp2_with (first | ((with_reducible refine gate_dst (N := 3) rfl ?_); refine bx_ (N := 3) (cs := #[.int .i64 a0_0, .int .i64 a0_1, .int .i64 a0_2, .int .i64 a0_3, .int .i64 a0_4]) (t := 55) ?_; intro gb255 hg w19 hbox hb; have n_ := a_ (bs_ HB hb) (a_ (Aside0.mk hbox) (a_ (gs_ HB hg) (gs_ HB hg))); clear HB; obtain ⟨HB, BK255, GW255, GE255⟩ := n_; clear hb hbox hg; obtain ⟨hcz20_0, hcz20_1, hcz20_2, hcz20_3, hcz20_4, hfz20_0, hfz20_1, hfz20_2, hfz20_3, hfz20_4⟩ := cz5_ BK255)))
     go_ret2
     exact ⟨_, by first | rfl | (simp [errW_none, errW_some] <;> rfl) | (simp [*, errW_none, errW_some] <;> rfl), by first | exact Kd.R_nil _ _ _ _ _ | exact Kd.N_nil _ _ _ _ _ | exact Kd.V_nil _ _ _ _ _ | exact Kd.Q_nil _ _ _ _ _ | exact Kd.S_nil _ _ _ _ _, HB_⟩
   rw [if_neg c18] at H
   have c18b0 : decide (a0_4 < a2) = false := decide_eq_false c18
   clear c18
   replace H := Option.bind_eq_some_iff.mp H
   obtain ⟨t261, A210, H⟩ := H
   replace H : (some (t261, 0)) = some (r1, r2) := H
   have A21 := Aside0.mk A210
   clear A210
   simp only [Option.some.injEq, Prod.mk.injEq] at H
   obtain ⟨rfl, rfl⟩ := H
   go_enter Try.func29, Try.ntmps29
   go_wp2_with (first | ((with_reducible refine gate_dst (N := 3) rfl ?_); refine bx_ (N := 3) (cs := #[.int .i64 a0_0, .int .i64 a0_1, .int .i64 a0_2, .int .i64 a0_3, .int .i64 a0_4]) (t := 55) ?_; intro gb255 hg w22 hbox hb; have n_ := a_ (bs_ HB hb) (a_ (Aside0.mk hbox) (a_ (gs_ HB hg) (gs_ HB hg))); clear HB; obtain ⟨HB, BK255, GW255, GE255⟩ := n_; clear hb hbox hg; obtain ⟨hcz23_0, hcz23_1, hcz23_2, hcz23_3, hcz23_4, hfz23_0, hfz23_1, hfz23_2, hfz23_3, hfz23_4⟩ := cz5_ BK255) | (go_at_call 48; (with_reducible refine (warrantorref13_With.calls _ _ l1 a0_1 a2 t261 _ ?side1 ?side2 A21.out).mono ?_); (case side1 => exact sd_ (Kd.C_below HR1.out HB.out)); (case side2 => exact HC1.out); rintro e w24 ⟨v262, rfl, ho0, hb⟩; have n_ := a_ (Aside0.mk (Kd.R_lower ho0 (below_size HB_))) (a_ (bb_ BK255 hb) (bs_ HB hb)); clear BK255 HB; obtain ⟨HO263, BK255, HB⟩ := n_; (try clear hb); (try clear hb2); (try clear hk); (try clear hi); (try clear ho0)))
   repeat (go_quiet (first | ((with_reducible refine gate_dst (N := 3) rfl ?_); refine bx_ (N := 3) (cs := #[.int .i64 a0_0, .int .i64 a0_1, .int .i64 a0_2, .int .i64 a0_3, .int .i64 a0_4]) (t := 55) ?_; intro gb255 hg w22 hbox hb; have n_ := a_ (bs_ HB hb) (a_ (Aside0.mk hbox) (a_ (gs_ HB hg) (gs_ HB hg))); clear HB; obtain ⟨HB, BK255, GW255, GE255⟩ := n_; clear hb hbox hg; obtain ⟨hcz23_0, hcz23_1, hcz23_2, hcz23_3, hcz23_4, hfz23_0, hfz23_1, hfz23_2, hfz23_3, hfz23_4⟩ := cz5_ BK255) | (go_at_call 48; (with_reducible refine (warrantorref13_With.calls _ _ l1 a0_1 a2 t261 _ ?side1 ?side2 A21.out).mono ?_); (case side1 => exact sd_ (Kd.C_below HR1.out HB.out)); (case side2 => exact HC1.out); rintro e w24 ⟨v262, rfl, ho0, hb⟩; have n_ := a_ (Aside0.mk (Kd.R_lower ho0 (below_size HB_))) (a_ (bb_ BK255 hb) (bs_ HB hb)); clear BK255 HB; obtain ⟨HO263, BK255, HB⟩ := n_; (try clear hb); (try clear hb2); (try clear hk); (try clear hi); (try clear ho0))); try go_wp2_with (first | ((with_reducible refine gate_dst (N := 3) rfl ?_); refine bx_ (N := 3) (cs := #[.int .i64 a0_0, .int .i64 a0_1, .int .i64 a0_2, .int .i64 a0_3, .int .i64 a0_4]) (t := 55) ?_; intro gb255 hg w22 hbox hb; have n_ := a_ (bs_ HB hb) (a_ (Aside0.mk hbox) (a_ (gs_ HB hg) (gs_ HB hg))); clear HB; obtain ⟨HB, BK255, GW255, GE255⟩ := n_; clear hb hbox hg; obtain ⟨hcz23_0, hcz23_1, hcz23_2, hcz23_3, hcz23_4, hfz23_0, hfz23_1, hfz23_2, hfz23_3, hfz23_4⟩ := cz5_ BK255) | (go_at_call 48; (with_reducible refine (warrantorref13_With.calls _ _ l1 a0_1 a2 t261 _ ?side1 ?side2 A21.out).mono ?_); (case side1 => exact sd_ (Kd.C_below HR1.out HB.out)); (case side2 => exact HC1.out); rintro e w24 ⟨v262, rfl, ho0, hb⟩; have n_ := a_ (Aside0.mk (Kd.R_lower ho0 (below_size HB_))) (a_ (bb_ BK255 hb) (bs_ HB hb)); clear BK255 HB; obtain ⟨HO263, BK255, HB⟩ := n_; (try clear hb); (try clear hb2); (try clear hk); (try clear hi); (try clear ho0))))
   go_ret2
   exact ⟨_, by first | rfl | (simp [errW_none, errW_some] <;> rfl) | (simp [*, errW_none, errW_some] <;> rfl), by (with_reducible repeat (first | apply Kd.R_alloc | apply Kd.R_drewN | apply Kd.R_drew)); exact HO263.out, HB_⟩
 rw [if_neg c14] at H
 have c14b0 : (a0_0 == 3) = false := beq_eq_false_iff_ne.mpr c14
 have c14b1 : (a0_0 != 3) = true := bne_iff_ne.mpr c14
 by_cases c25 : a0_0 = 4
 · rw [if_pos c25] at H
   have c25b0 : (a0_0 == 4) = true := beq_iff_eq.mpr c25
   have c25b1 : (a0_0 != 4) = false := bne_eq_false_iff_eq.mpr c25
   clear c25
   replace H := Option.bind_eq_some_iff.mp H
   obtain ⟨t264, A260, H⟩ := H
   replace H : ((warrantorref13_Value.f l1 a0_2).bind fun t265 => (if (wrap64 (t264 - t265)) > a0_3 then (some (([] : List Int), 130)) else ((some (([] : List Int) : List Int)).bind fun y266 => (if y266.length + l1.length < 17592186044416 then (some ((y266 ++ l1), 0)) else (none))))) = some (r1, r2) := H
   have A26 := Aside0.mk A260
   clear A260
   replace H := Option.bind_eq_some_iff.mp H
   obtain ⟨t265, A270, H⟩ := H
   replace H : (if (wrap64 (t264 - t265)) > a0_3 then (some (([] : List Int), 130)) else ((some (([] : List Int) : List Int)).bind fun y266 => (if y266.length + l1.length < 17592186044416 then (some ((y266 ++ l1), 0)) else (none)))) = some (r1, r2) := H
   have A27 := Aside0.mk A270
   clear A270
   by_cases c28 : (wrap64 (t264 - t265)) > a0_3
   · rw [if_pos c28] at H
     have c28b0 : decide (a0_3 < (wrap64 (t264 - t265))) = true := decide_eq_true c28
     have c28b0v : decide (a0_3 < (IntKind.i64.wrap (t264 - t265))) = true := by (try simp only [i64_w]); exact c28b0
     clear c28
     simp only [Option.some.injEq, Prod.mk.injEq] at H
     obtain ⟨rfl, rfl⟩ := H
     go_enter Try.func29, Try.ntmps29
     go_wp2_with (first | ((with_reducible refine gate_dst (N := 3) rfl ?_); refine bx_ (N := 3) (cs := #[.int .i64 a0_0, .int .i64 a0_1, .int .i64 a0_2, .int .i64 a0_3, .int .i64 a0_4]) (t := 55) ?_; intro gb255 hg w29 hbox hb; have n_ := a_ (bs_ HB hb) (a_ (Aside0.mk hbox) (a_ (gs_ HB hg) (gs_ HB hg))); clear HB; obtain ⟨HB, BK255, GW255, GE255⟩ := n_; clear hb hbox hg; obtain ⟨hcz30_0, hcz30_1, hcz30_2, hcz30_3, hcz30_4, hfz30_0, hfz30_1, hfz30_2, hfz30_3, hfz30_4⟩ := cz5_ BK255) | (go_at_call 47; (with_reducible refine (warrantorref13_Value.calls _ _ l1 a0_1 t264 _ ?side1 ?side2 A26.out).mono ?_); (case side1 => exact sd_ (Kd.C_below HR1.out HB.out)); (case side2 => exact HC1.out); rintro e w' ⟨rfl, ⟨nd, rfl⟩⟩; (try first | exact ⟨rfl, _, World.drewN_drewN _ _ _⟩ | exact ⟨rfl, _, Eq.trans (World.drewN_drewN _ _ _) (congrArg (World.drewN _) (Nat.add_assoc _ _ _))⟩); (try clear A26)) | (go_at_call 47; (with_reducible refine (warrantorref13_Value.calls _ _ l1 a0_2 t265 _ ?side1 ?side2 A27.out).mono ?_); (case side1 => repeat (first | exact (Kd.C_below HR1.out HB_) | (with_reducible refine Kd.C_alloc ?_ _) | (with_reducible refine Kd.C_drewN ?_ _) | (with_reducible refine Kd.C_drew ?_))); (case side2 => exact HC1.out); rintro e w' ⟨rfl, ⟨nd, rfl⟩⟩; (try first | exact ⟨rfl, _, World.drewN_drewN _ _ _⟩ | exact ⟨rfl, _, Eq.trans (World.drewN_drewN _ _ _) (congrArg (World.drewN _) (Nat.add_assoc _ _ _))⟩)))
     repeat (go_quiet (first | ((with_reducible refine gate_dst (N := 3) rfl ?_); refine bx_ (N := 3) (cs := #[.int .i64 a0_0, .int .i64 a0_1, .int .i64 a0_2, .int .i64 a0_3, .int .i64 a0_4]) (t := 55) ?_; intro gb255 hg w29 hbox hb; have n_ := a_ (bs_ HB hb) (a_ (Aside0.mk hbox) (a_ (gs_ HB hg) (gs_ HB hg))); clear HB; obtain ⟨HB, BK255, GW255, GE255⟩ := n_; clear hb hbox hg; obtain ⟨hcz30_0, hcz30_1, hcz30_2, hcz30_3, hcz30_4, hfz30_0, hfz30_1, hfz30_2, hfz30_3, hfz30_4⟩ := cz5_ BK255) | (go_at_call 47; (with_reducible refine (warrantorref13_Value.calls _ _ l1 a0_1 t264 _ ?side1 ?side2 A26.out).mono ?_); (case side1 => exact sd_ (Kd.C_below HR1.out HB.out)); (case side2 => exact HC1.out); rintro e w' ⟨rfl, ⟨nd, rfl⟩⟩; (try first | exact ⟨rfl, _, World.drewN_drewN _ _ _⟩ | exact ⟨rfl, _, Eq.trans (World.drewN_drewN _ _ _) (congrArg (World.drewN _) (Nat.add_assoc _ _ _))⟩)) | (go_at_call 47; (with_reducible refine (warrantorref13_Value.calls _ _ l1 a0_2 t265 _ ?side1 ?side2 A27.out).mono ?_); (case side1 => repeat (first | exact (Kd.C_below HR1.out HB_) | (with_reducible refine Kd.C_alloc ?_ _) | (with_reducible refine Kd.C_drewN ?_ _) | (with_reducible refine Kd.C_drew ?_))); (case side2 => exact HC1.out); rintro e w' ⟨rfl, ⟨nd, rfl⟩⟩; (try first | exact ⟨rfl, _, World.drewN_drewN _ _ _⟩ | exact ⟨rfl, _, Eq.trans (World.drewN_drewN _ _ _) (congrArg (World.drewN _) (Nat.add_assoc _ _ _))⟩))); try go_wp2_with (first | ((with_reducible refine gate_dst (N := 3) rfl ?_); refine bx_ (N := 3) (cs := #[.int .i64 a0_0, .int .i64 a0_1, .int .i64 a0_2, .int .i64 a0_3, .int .i64 a0_4]) (t := 55) ?_; intro gb255 hg w29 hbox hb; have n_ := a_ (bs_ HB hb) (a_ (Aside0.mk hbox) (a_ (gs_ HB hg) (gs_ HB hg))); clear HB; obtain ⟨HB, BK255, GW255, GE255⟩ := n_; clear hb hbox hg; obtain ⟨hcz30_0, hcz30_1, hcz30_2, hcz30_3, hcz30_4, hfz30_0, hfz30_1, hfz30_2, hfz30_3, hfz30_4⟩ := cz5_ BK255) | (go_at_call 47; (with_reducible refine (warrantorref13_Value.calls _ _ l1 a0_1 t264 _ ?side1 ?side2 A26.out).mono ?_); (case side1 => exact sd_ (Kd.C_below HR1.out HB.out)); (case side2 => exact HC1.out); rintro e w' ⟨rfl, ⟨nd, rfl⟩⟩; (try first | exact ⟨rfl, _, World.drewN_drewN _ _ _⟩ | exact ⟨rfl, _, Eq.trans (World.drewN_drewN _ _ _) (congrArg (World.drewN _) (Nat.add_assoc _ _ _))⟩)) | (go_at_call 47; (with_reducible refine (warrantorref13_Value.calls _ _ l1 a0_2 t265 _ ?side1 ?side2 A27.out).mono ?_); (case side1 => repeat (first | exact (Kd.C_below HR1.out HB_) | (with_reducible refine Kd.C_alloc ?_ _) | (with_reducible refine Kd.C_drewN ?_ _) | (with_reducible refine Kd.C_drew ?_))); (case side2 => exact HC1.out); rintro e w' ⟨rfl, ⟨nd, rfl⟩⟩; (try first | exact ⟨rfl, _, World.drewN_drewN _ _ _⟩ | exact ⟨rfl, _, Eq.trans (World.drewN_drewN _ _ _) (congrArg (World.drewN _) (Nat.add_assoc _ _ _))⟩))))
     go_ret2
     exact ⟨_, by first | rfl | (simp [errW_none, errW_some] <;> rfl) | (simp [*, errW_none, errW_some] <;> rfl), by first | exact Kd.R_nil _ _ _ _ _ | exact Kd.N_nil _ _ _ _ _ | exact Kd.V_nil _ _ _ _ _ | exact Kd.Q_nil _ _ _ _ _ | exact Kd.S_nil _ _ _ _ _, HB_⟩
   rw [if_neg c28] at H
   have c28b0 : decide (a0_3 < (wrap64 (t264 - t265))) = false := decide_eq_false c28
   have c28b0v : decide (a0_3 < (IntKind.i64.wrap (t264 - t265))) = false := by (try simp only [i64_w]); exact c28b0
   clear c28
   obtain ⟨y266, hy266⟩ : ∃ y_ : List Int, y_ = (([] : List Int)) := ⟨_, rfl⟩
   replace H : (if y266.length + l1.length < 17592186044416 then (some ((y266 ++ l1), 0)) else (none)) = some (r1, r2) := by first | (rw [hy266]; with_reducible exact H) | (have H2_ := (Option.bind_some _ _).symm.trans H; rw [hy266]; with_reducible exact H2_) | (have H2_ := (Option.bind_some _ _).symm.trans H; with_reducible exact H2_) | with_reducible exact H | (rw [hy266]; exact H) | exact H
   have Ny266 := Aside0.mk hy266
   clear hy266
   replace H := yes_ H
   obtain ⟨c31, H⟩ := H
   have LMc31 := Aside0.mk c31
   clear c31
   obtain ⟨y269, hy269⟩ : ∃ y_ : List Int, y_ = (y266 ++ l1) := ⟨_, rfl⟩
   replace H : (some (y269, 0)) = some (r1, r2) := by first | (rw [hy269]; with_reducible exact H) | (have H2_ := (Option.bind_some _ _).symm.trans H; rw [hy269]; with_reducible exact H2_) | (have H2_ := (Option.bind_some _ _).symm.trans H; with_reducible exact H2_) | with_reducible exact H | (rw [hy269]; exact H) | exact H
   have Ny269 := Aside0.mk hy269
   clear hy269
   simp only [Option.some.injEq, Prod.mk.injEq] at H
   obtain ⟨rfl, rfl⟩ := H
   go_enter Try.func29, Try.ntmps29
   go_wp2_with (first | ((with_reducible refine gate_dst (N := 3) rfl ?_); refine bx_ (N := 3) (cs := #[.int .i64 a0_0, .int .i64 a0_1, .int .i64 a0_2, .int .i64 a0_3, .int .i64 a0_4]) (t := 55) ?_; intro gb255 hg w32 hbox hb; have n_ := a_ (bs_ HB hb) (a_ (Aside0.mk hbox) (a_ (gs_ HB hg) (gs_ HB hg))); clear HB; obtain ⟨HB, BK255, GW255, GE255⟩ := n_; clear hb hbox hg; obtain ⟨hcz33_0, hcz33_1, hcz33_2, hcz33_3, hcz33_4, hfz33_0, hfz33_1, hfz33_2, hfz33_3, hfz33_4⟩ := cz5_ BK255) | (go_at_call 47; (with_reducible refine (warrantorref13_Value.calls _ _ l1 a0_1 t264 _ ?side1 ?side2 A26.out).mono ?_); (case side1 => exact sd_ (Kd.C_below HR1.out HB.out)); (case side2 => exact HC1.out); rintro e w' ⟨rfl, ⟨nd, rfl⟩⟩; (try first | exact ⟨rfl, _, World.drewN_drewN _ _ _⟩ | exact ⟨rfl, _, Eq.trans (World.drewN_drewN _ _ _) (congrArg (World.drewN _) (Nat.add_assoc _ _ _))⟩); (try clear A26)) | (go_at_call 47; (with_reducible refine (warrantorref13_Value.calls _ _ l1 a0_2 t265 _ ?side1 ?side2 A27.out).mono ?_); (case side1 => repeat (first | exact (Kd.C_below HR1.out HB_) | (with_reducible refine Kd.C_alloc ?_ _) | (with_reducible refine Kd.C_drewN ?_ _) | (with_reducible refine Kd.C_drew ?_))); (case side2 => exact HC1.out); rintro e w' ⟨rfl, ⟨nd, rfl⟩⟩; (try first | exact ⟨rfl, _, World.drewN_drewN _ _ _⟩ | exact ⟨rfl, _, Eq.trans (World.drewN_drewN _ _ _) (congrArg (World.drewN _) (Nat.add_assoc _ _ _))⟩)) | ((with_reducible refine gate_dst (N := 73) rfl ?_); refine Kd.R_lit (Kd.int .i64) _ 3 ?hg (N := 73) ?hd (xs := ([] : List Int)) (inner := []) (ok := fun _ => True) (okp := fun _ => True) ?hr ?hp (fun _ hk => hk) trivial (Below.refl _ _) (Nat.le_refl _) (by simp) ?_; (case hd => rfl); (case hg => rfl); (case hr => first | (go_simp; done) | (go_simp; rfl)); (case hp => exact (Reps.none _ _)); intro v267 w34 ho35 hb hg_ hnew_; clear hg_ hnew_; (first | rw [← Ny266.out] at ho35 | (simp only [Int.reduceToNat] at ho35; rw [← Ny266.out] at ho35)); have n_ := a_ (Aside0.mk (Kd.R_lower ho35 (below_size HB_))) (a_ (bb_ BK255 hb) (bs_ HB hb)); clear BK255 HB; obtain ⟨HO268, BK255, HB⟩ := n_; clear hb ho35) | ((with_reducible refine gate_builtin (b := .append) (xs := #[.tmp 73, .tmp 74]) rfl ?_); at_builtin; refine Kd.R_append_rows (Kd.int .i64) (w0 := w) w.heap.size rfl (.tmp 73) (.tmp 74) 27 3 (.int .i64 0) 8 rfl Try.underlying27 info3 rfl (by decide) (by omega) v267 y266 l1 _ _ _ (fun _ => True) (fun _ => False) rfl rfl ?aO ?aR (fun _ _ h => h) (fun _ h => h.elim) ?aF ?aB ?aS ?aL ?_; (case aR => exact sd_ (Kd.C_below HR1.out HB.out)); (case aB => exact HB_); (case aF => exact (fun _ _ => trivial)); (case aO => exact (rd_ HO268.out)); (case aS => exact (below_size HB_)); (case aL => have := LMc31.out; omega); intro v270 w36 ho hb hg hat; rw [← Ny269.out] at ho; have n_ := a_ (Aside0.mk (blk_grown (g := gb255) (o := .cells #[.int .i64 a0_0, .int .i64 a0_1, .int .i64 a0_2, .int .i64 a0_3, .int .i64 a0_4] 55 (0, 0)) (bk_ BK255.out) hg (Kd.R_ne HO268.out BK255.out (by decide)))) (a_ (Aside0.mk hb) (Aside0.mk ho)); clear BK255 HB HO268; obtain ⟨BK255, HB, HO271⟩ := n_; clear ho hb hg hat))
   repeat (go_quiet (first | ((with_reducible refine gate_dst (N := 3) rfl ?_); refine bx_ (N := 3) (cs := #[.int .i64 a0_0, .int .i64 a0_1, .int .i64 a0_2, .int .i64 a0_3, .int .i64 a0_4]) (t := 55) ?_; intro gb255 hg w32 hbox hb; have n_ := a_ (bs_ HB hb) (a_ (Aside0.mk hbox) (a_ (gs_ HB hg) (gs_ HB hg))); clear HB; obtain ⟨HB, BK255, GW255, GE255⟩ := n_; clear hb hbox hg; obtain ⟨hcz33_0, hcz33_1, hcz33_2, hcz33_3, hcz33_4, hfz33_0, hfz33_1, hfz33_2, hfz33_3, hfz33_4⟩ := cz5_ BK255) | (go_at_call 47; (with_reducible refine (warrantorref13_Value.calls _ _ l1 a0_1 t264 _ ?side1 ?side2 A26.out).mono ?_); (case side1 => exact sd_ (Kd.C_below HR1.out HB.out)); (case side2 => exact HC1.out); rintro e w' ⟨rfl, ⟨nd, rfl⟩⟩; (try first | exact ⟨rfl, _, World.drewN_drewN _ _ _⟩ | exact ⟨rfl, _, Eq.trans (World.drewN_drewN _ _ _) (congrArg (World.drewN _) (Nat.add_assoc _ _ _))⟩)) | (go_at_call 47; (with_reducible refine (warrantorref13_Value.calls _ _ l1 a0_2 t265 _ ?side1 ?side2 A27.out).mono ?_); (case side1 => repeat (first | exact (Kd.C_below HR1.out HB_) | (with_reducible refine Kd.C_alloc ?_ _) | (with_reducible refine Kd.C_drewN ?_ _) | (with_reducible refine Kd.C_drew ?_))); (case side2 => exact HC1.out); rintro e w' ⟨rfl, ⟨nd, rfl⟩⟩; (try first | exact ⟨rfl, _, World.drewN_drewN _ _ _⟩ | exact ⟨rfl, _, Eq.trans (World.drewN_drewN _ _ _) (congrArg (World.drewN _) (Nat.add_assoc _ _ _))⟩)) | ((with_reducible refine gate_dst (N := 73) rfl ?_); refine Kd.R_lit (Kd.int .i64) _ 3 ?hg (N := 73) ?hd (xs := ([] : List Int)) (inner := []) (ok := fun _ => True) (okp := fun _ => True) ?hr ?hp (fun _ hk => hk) trivial (Below.refl _ _) (Nat.le_refl _) (by simp) ?_; (case hd => rfl); (case hg => rfl); (case hr => first | (go_simp; done) | (go_simp; rfl)); (case hp => exact (Reps.none _ _)); intro v267 w34 ho35 hb hg_ hnew_; clear hg_ hnew_; (first | rw [← Ny266.out] at ho35 | (simp only [Int.reduceToNat] at ho35; rw [← Ny266.out] at ho35)); have n_ := a_ (Aside0.mk (Kd.R_lower ho35 (below_size HB_))) (a_ (bb_ BK255 hb) (bs_ HB hb)); clear BK255 HB; obtain ⟨HO268, BK255, HB⟩ := n_; clear hb ho35) | ((with_reducible refine gate_builtin (b := .append) (xs := #[.tmp 73, .tmp 74]) rfl ?_); at_builtin; refine Kd.R_append_rows (Kd.int .i64) (w0 := w) w.heap.size rfl (.tmp 73) (.tmp 74) 27 3 (.int .i64 0) 8 rfl Try.underlying27 info3 rfl (by decide) (by omega) v267 y266 l1 _ _ _ (fun _ => True) (fun _ => False) rfl rfl ?aO ?aR (fun _ _ h => h) (fun _ h => h.elim) ?aF ?aB ?aS ?aL ?_; (case aR => exact sd_ (Kd.C_below HR1.out HB.out)); (case aB => exact HB_); (case aF => exact (fun _ _ => trivial)); (case aO => exact (rd_ HO268.out)); (case aS => exact (below_size HB_)); (case aL => have := LMc31.out; omega); intro v270 w36 ho hb hg hat; rw [← Ny269.out] at ho; have n_ := a_ (Aside0.mk (blk_grown (g := gb255) (o := .cells #[.int .i64 a0_0, .int .i64 a0_1, .int .i64 a0_2, .int .i64 a0_3, .int .i64 a0_4] 55 (0, 0)) (bk_ BK255.out) hg (Kd.R_ne HO268.out BK255.out (by decide)))) (a_ (Aside0.mk hb) (Aside0.mk ho)); clear BK255 HB HO268; obtain ⟨BK255, HB, HO271⟩ := n_; clear ho hb hg hat)); try go_wp2_with (first | ((with_reducible refine gate_dst (N := 3) rfl ?_); refine bx_ (N := 3) (cs := #[.int .i64 a0_0, .int .i64 a0_1, .int .i64 a0_2, .int .i64 a0_3, .int .i64 a0_4]) (t := 55) ?_; intro gb255 hg w32 hbox hb; have n_ := a_ (bs_ HB hb) (a_ (Aside0.mk hbox) (a_ (gs_ HB hg) (gs_ HB hg))); clear HB; obtain ⟨HB, BK255, GW255, GE255⟩ := n_; clear hb hbox hg; obtain ⟨hcz33_0, hcz33_1, hcz33_2, hcz33_3, hcz33_4, hfz33_0, hfz33_1, hfz33_2, hfz33_3, hfz33_4⟩ := cz5_ BK255) | (go_at_call 47; (with_reducible refine (warrantorref13_Value.calls _ _ l1 a0_1 t264 _ ?side1 ?side2 A26.out).mono ?_); (case side1 => exact sd_ (Kd.C_below HR1.out HB.out)); (case side2 => exact HC1.out); rintro e w' ⟨rfl, ⟨nd, rfl⟩⟩; (try first | exact ⟨rfl, _, World.drewN_drewN _ _ _⟩ | exact ⟨rfl, _, Eq.trans (World.drewN_drewN _ _ _) (congrArg (World.drewN _) (Nat.add_assoc _ _ _))⟩)) | (go_at_call 47; (with_reducible refine (warrantorref13_Value.calls _ _ l1 a0_2 t265 _ ?side1 ?side2 A27.out).mono ?_); (case side1 => repeat (first | exact (Kd.C_below HR1.out HB_) | (with_reducible refine Kd.C_alloc ?_ _) | (with_reducible refine Kd.C_drewN ?_ _) | (with_reducible refine Kd.C_drew ?_))); (case side2 => exact HC1.out); rintro e w' ⟨rfl, ⟨nd, rfl⟩⟩; (try first | exact ⟨rfl, _, World.drewN_drewN _ _ _⟩ | exact ⟨rfl, _, Eq.trans (World.drewN_drewN _ _ _) (congrArg (World.drewN _) (Nat.add_assoc _ _ _))⟩)) | ((with_reducible refine gate_dst (N := 73) rfl ?_); refine Kd.R_lit (Kd.int .i64) _ 3 ?hg (N := 73) ?hd (xs := ([] : List Int)) (inner := []) (ok := fun _ => True) (okp := fun _ => True) ?hr ?hp (fun _ hk => hk) trivial (Below.refl _ _) (Nat.le_refl _) (by simp) ?_; (case hd => rfl); (case hg => rfl); (case hr => first | (go_simp; done) | (go_simp; rfl)); (case hp => exact (Reps.none _ _)); intro v267 w34 ho35 hb hg_ hnew_; clear hg_ hnew_; (first | rw [← Ny266.out] at ho35 | (simp only [Int.reduceToNat] at ho35; rw [← Ny266.out] at ho35)); have n_ := a_ (Aside0.mk (Kd.R_lower ho35 (below_size HB_))) (a_ (bb_ BK255 hb) (bs_ HB hb)); clear BK255 HB; obtain ⟨HO268, BK255, HB⟩ := n_; clear hb ho35) | ((with_reducible refine gate_builtin (b := .append) (xs := #[.tmp 73, .tmp 74]) rfl ?_); at_builtin; refine Kd.R_append_rows (Kd.int .i64) (w0 := w) w.heap.size rfl (.tmp 73) (.tmp 74) 27 3 (.int .i64 0) 8 rfl Try.underlying27 info3 rfl (by decide) (by omega) v267 y266 l1 _ _ _ (fun _ => True) (fun _ => False) rfl rfl ?aO ?aR (fun _ _ h => h) (fun _ h => h.elim) ?aF ?aB ?aS ?aL ?_; (case aR => exact sd_ (Kd.C_below HR1.out HB.out)); (case aB => exact HB_); (case aF => exact (fun _ _ => trivial)); (case aO => exact (rd_ HO268.out)); (case aS => exact (below_size HB_)); (case aL => have := LMc31.out; omega); intro v270 w36 ho hb hg hat; rw [← Ny269.out] at ho; have n_ := a_ (Aside0.mk (blk_grown (g := gb255) (o := .cells #[.int .i64 a0_0, .int .i64 a0_1, .int .i64 a0_2, .int .i64 a0_3, .int .i64 a0_4] 55 (0, 0)) (bk_ BK255.out) hg (Kd.R_ne HO268.out BK255.out (by decide)))) (a_ (Aside0.mk hb) (Aside0.mk ho)); clear BK255 HB HO268; obtain ⟨BK255, HB, HO271⟩ := n_; clear ho hb hg hat)))
   go_ret2
   exact ⟨_, by first | rfl | (simp [errW_none, errW_some] <;> rfl) | (simp [*, errW_none, errW_some] <;> rfl), by (with_reducible repeat (first | apply Kd.R_alloc | apply Kd.R_drewN | apply Kd.R_drew)); exact HO271.out, HB_⟩
 rw [if_neg c25] at H
 have c25b0 : (a0_0 == 4) = false := beq_eq_false_iff_ne.mpr c25
 have c25b1 : (a0_0 != 4) = true := bne_iff_ne.mpr c25
 by_cases c37 : a0_0 = 5
 rotate_left
 · rw [if_neg c37] at H
   have c37b0 : (a0_0 == 5) = false := beq_eq_false_iff_ne.mpr c37
   have c37b1 : (a0_0 != 5) = true := bne_iff_ne.mpr c37
   obtain ⟨y280, hy280⟩ : ∃ y_ : List Int, y_ = (([] : List Int)) := ⟨_, rfl⟩
   replace H : (if y280.length + l1.length < 17592186044416 then (some ((y280 ++ l1), 0)) else (none)) = some (r1, r2) := by first | (rw [hy280]; with_reducible exact H) | (have H2_ := (Option.bind_some _ _).symm.trans H; rw [hy280]; with_reducible exact H2_) | (have H2_ := (Option.bind_some _ _).symm.trans H; with_reducible exact H2_) | with_reducible exact H | (rw [hy280]; exact H) | exact H
   have Ny280 := Aside0.mk hy280
   clear hy280
   replace H := yes_ H
   obtain ⟨c49, H⟩ := H
   have LMc49 := Aside0.mk c49
   clear c49
   obtain ⟨y283, hy283⟩ : ∃ y_ : List Int, y_ = (y280 ++ l1) := ⟨_, rfl⟩
   replace H : (some (y283, 0)) = some (r1, r2) := by first | (rw [hy283]; with_reducible exact H) | (have H2_ := (Option.bind_some _ _).symm.trans H; rw [hy283]; with_reducible exact H2_) | (have H2_ := (Option.bind_some _ _).symm.trans H; with_reducible exact H2_) | with_reducible exact H | (rw [hy283]; exact H) | exact H
   have Ny283 := Aside0.mk hy283
   clear hy283
   simp only [Option.some.injEq, Prod.mk.injEq] at H
   obtain ⟨rfl, rfl⟩ := H
   go_enter Try.func29, Try.ntmps29
   go_wp2_with (first | ((with_reducible refine gate_dst (N := 3) rfl ?_); refine bx_ (N := 3) (cs := #[.int .i64 a0_0, .int .i64 a0_1, .int .i64 a0_2, .int .i64 a0_3, .int .i64 a0_4]) (t := 55) ?_; intro gb255 hg w50 hbox hb; have n_ := a_ (bs_ HB hb) (a_ (Aside0.mk hbox) (a_ (gs_ HB hg) (gs_ HB hg))); clear HB; obtain ⟨HB, BK255, GW255, GE255⟩ := n_; clear hb hbox hg; obtain ⟨hcz51_0, hcz51_1, hcz51_2, hcz51_3, hcz51_4, hfz51_0, hfz51_1, hfz51_2, hfz51_3, hfz51_4⟩ := cz5_ BK255) | ((with_reducible refine gate_dst (N := 73) rfl ?_); refine Kd.R_lit (Kd.int .i64) _ 3 ?hg (N := 73) ?hd (xs := ([] : List Int)) (inner := []) (ok := fun _ => True) (okp := fun _ => True) ?hr ?hp (fun _ hk => hk) trivial (Below.refl _ _) (Nat.le_refl _) (by simp) ?_; (case hd => rfl); (case hg => rfl); (case hr => first | (go_simp; done) | (go_simp; rfl)); (case hp => exact (Reps.none _ _)); intro v281 w52 ho53 hb hg_ hnew_; clear hg_ hnew_; (first | rw [← Ny280.out] at ho53 | (simp only [Int.reduceToNat] at ho53; rw [← Ny280.out] at ho53)); have n_ := a_ (Aside0.mk (Kd.R_lower ho53 (below_size HB_))) (a_ (bb_ BK255 hb) (bs_ HB hb)); clear BK255 HB; obtain ⟨HO282, BK255, HB⟩ := n_; clear hb ho53) | ((with_reducible refine gate_builtin (b := .append) (xs := #[.tmp 73, .tmp 74]) rfl ?_); at_builtin; refine Kd.R_append_rows (Kd.int .i64) (w0 := w) w.heap.size rfl (.tmp 73) (.tmp 74) 27 3 (.int .i64 0) 8 rfl Try.underlying27 info3 rfl (by decide) (by omega) v281 y280 l1 _ _ _ (fun _ => True) (fun _ => False) rfl rfl ?aO ?aR (fun _ _ h => h) (fun _ h => h.elim) ?aF ?aB ?aS ?aL ?_; (case aR => exact sd_ (Kd.C_below HR1.out HB.out)); (case aB => exact HB_); (case aF => exact (fun _ _ => trivial)); (case aO => exact (rd_ HO282.out)); (case aS => exact (below_size HB_)); (case aL => have := LMc49.out; omega); intro v284 w54 ho hb hg hat; rw [← Ny283.out] at ho; have n_ := a_ (Aside0.mk (blk_grown (g := gb255) (o := .cells #[.int .i64 a0_0, .int .i64 a0_1, .int .i64 a0_2, .int .i64 a0_3, .int .i64 a0_4] 55 (0, 0)) (bk_ BK255.out) hg (Kd.R_ne HO282.out BK255.out (by decide)))) (a_ (Aside0.mk hb) (Aside0.mk ho)); clear BK255 HB HO282; obtain ⟨BK255, HB, HO285⟩ := n_; clear ho hb hg hat))
   repeat (go_quiet (first | ((with_reducible refine gate_dst (N := 3) rfl ?_); refine bx_ (N := 3) (cs := #[.int .i64 a0_0, .int .i64 a0_1, .int .i64 a0_2, .int .i64 a0_3, .int .i64 a0_4]) (t := 55) ?_; intro gb255 hg w50 hbox hb; have n_ := a_ (bs_ HB hb) (a_ (Aside0.mk hbox) (a_ (gs_ HB hg) (gs_ HB hg))); clear HB; obtain ⟨HB, BK255, GW255, GE255⟩ := n_; clear hb hbox hg; obtain ⟨hcz51_0, hcz51_1, hcz51_2, hcz51_3, hcz51_4, hfz51_0, hfz51_1, hfz51_2, hfz51_3, hfz51_4⟩ := cz5_ BK255) | ((with_reducible refine gate_dst (N := 73) rfl ?_); refine Kd.R_lit (Kd.int .i64) _ 3 ?hg (N := 73) ?hd (xs := ([] : List Int)) (inner := []) (ok := fun _ => True) (okp := fun _ => True) ?hr ?hp (fun _ hk => hk) trivial (Below.refl _ _) (Nat.le_refl _) (by simp) ?_; (case hd => rfl); (case hg => rfl); (case hr => first | (go_simp; done) | (go_simp; rfl)); (case hp => exact (Reps.none _ _)); intro v281 w52 ho53 hb hg_ hnew_; clear hg_ hnew_; (first | rw [← Ny280.out] at ho53 | (simp only [Int.reduceToNat] at ho53; rw [← Ny280.out] at ho53)); have n_ := a_ (Aside0.mk (Kd.R_lower ho53 (below_size HB_))) (a_ (bb_ BK255 hb) (bs_ HB hb)); clear BK255 HB; obtain ⟨HO282, BK255, HB⟩ := n_; clear hb ho53) | ((with_reducible refine gate_builtin (b := .append) (xs := #[.tmp 73, .tmp 74]) rfl ?_); at_builtin; refine Kd.R_append_rows (Kd.int .i64) (w0 := w) w.heap.size rfl (.tmp 73) (.tmp 74) 27 3 (.int .i64 0) 8 rfl Try.underlying27 info3 rfl (by decide) (by omega) v281 y280 l1 _ _ _ (fun _ => True) (fun _ => False) rfl rfl ?aO ?aR (fun _ _ h => h) (fun _ h => h.elim) ?aF ?aB ?aS ?aL ?_; (case aR => exact sd_ (Kd.C_below HR1.out HB.out)); (case aB => exact HB_); (case aF => exact (fun _ _ => trivial)); (case aO => exact (rd_ HO282.out)); (case aS => exact (below_size HB_)); (case aL => have := LMc49.out; omega); intro v284 w54 ho hb hg hat; rw [← Ny283.out] at ho; have n_ := a_ (Aside0.mk (blk_grown (g := gb255) (o := .cells #[.int .i64 a0_0, .int .i64 a0_1, .int .i64 a0_2, .int .i64 a0_3, .int .i64 a0_4] 55 (0, 0)) (bk_ BK255.out) hg (Kd.R_ne HO282.out BK255.out (by decide)))) (a_ (Aside0.mk hb) (Aside0.mk ho)); clear BK255 HB HO282; obtain ⟨BK255, HB, HO285⟩ := n_; clear ho hb hg hat)); try go_wp2_with (first | ((with_reducible refine gate_dst (N := 3) rfl ?_); refine bx_ (N := 3) (cs := #[.int .i64 a0_0, .int .i64 a0_1, .int .i64 a0_2, .int .i64 a0_3, .int .i64 a0_4]) (t := 55) ?_; intro gb255 hg w50 hbox hb; have n_ := a_ (bs_ HB hb) (a_ (Aside0.mk hbox) (a_ (gs_ HB hg) (gs_ HB hg))); clear HB; obtain ⟨HB, BK255, GW255, GE255⟩ := n_; clear hb hbox hg; obtain ⟨hcz51_0, hcz51_1, hcz51_2, hcz51_3, hcz51_4, hfz51_0, hfz51_1, hfz51_2, hfz51_3, hfz51_4⟩ := cz5_ BK255) | ((with_reducible refine gate_dst (N := 73) rfl ?_); refine Kd.R_lit (Kd.int .i64) _ 3 ?hg (N := 73) ?hd (xs := ([] : List Int)) (inner := []) (ok := fun _ => True) (okp := fun _ => True) ?hr ?hp (fun _ hk => hk) trivial (Below.refl _ _) (Nat.le_refl _) (by simp) ?_; (case hd => rfl); (case hg => rfl); (case hr => first | (go_simp; done) | (go_simp; rfl)); (case hp => exact (Reps.none _ _)); intro v281 w52 ho53 hb hg_ hnew_; clear hg_ hnew_; (first | rw [← Ny280.out] at ho53 | (simp only [Int.reduceToNat] at ho53; rw [← Ny280.out] at ho53)); have n_ := a_ (Aside0.mk (Kd.R_lower ho53 (below_size HB_))) (a_ (bb_ BK255 hb) (bs_ HB hb)); clear BK255 HB; obtain ⟨HO282, BK255, HB⟩ := n_; clear hb ho53) | ((with_reducible refine gate_builtin (b := .append) (xs := #[.tmp 73, .tmp 74]) rfl ?_); at_builtin; refine Kd.R_append_rows (Kd.int .i64) (w0 := w) w.heap.size rfl (.tmp 73) (.tmp 74) 27 3 (.int .i64 0) 8 rfl Try.underlying27 info3 rfl (by decide) (by omega) v281 y280 l1 _ _ _ (fun _ => True) (fun _ => False) rfl rfl ?aO ?aR (fun _ _ h => h) (fun _ h => h.elim) ?aF ?aB ?aS ?aL ?_; (case aR => exact sd_ (Kd.C_below HR1.out HB.out)); (case aB => exact HB_); (case aF => exact (fun _ _ => trivial)); (case aO => exact (rd_ HO282.out)); (case aS => exact (below_size HB_)); (case aL => have := LMc49.out; omega); intro v284 w54 ho hb hg hat; rw [← Ny283.out] at ho; have n_ := a_ (Aside0.mk (blk_grown (g := gb255) (o := .cells #[.int .i64 a0_0, .int .i64 a0_1, .int .i64 a0_2, .int .i64 a0_3, .int .i64 a0_4] 55 (0, 0)) (bk_ BK255.out) hg (Kd.R_ne HO282.out BK255.out (by decide)))) (a_ (Aside0.mk hb) (Aside0.mk ho)); clear BK255 HB HO282; obtain ⟨BK255, HB, HO285⟩ := n_; clear ho hb hg hat)))
   go_ret2
   exact ⟨_, by first | rfl | (simp [errW_none, errW_some] <;> rfl) | (simp [*, errW_none, errW_some] <;> rfl), by (with_reducible repeat (first | apply Kd.R_alloc | apply Kd.R_drewN | apply Kd.R_drew)); exact HO285.out, HB_⟩
 rw [if_pos c37] at H
 have c37b0 : (a0_0 == 5) = true := beq_iff_eq.mpr c37
 have c37b1 : (a0_0 != 5) = false := bne_eq_false_iff_eq.mpr c37
 clear c37
 replace H := Option.bind_eq_some_iff.mp H
 obtain ⟨t272, A380, H⟩ := H
 replace H : ((warrantorref13_Value.f l1 a0_2).bind fun t273 => (if (wrap64 (t272 - t273)) > a0_3 then (some (([] : List Int), 131)) else ((some (([] : List Int) : List Int)).bind fun y274 => (if y274.length + l1.length < 17592186044416 then (some ((y274 ++ l1), 0)) else (none))))) = some (r1, r2) := H
 have A38 := Aside0.mk A380
 clear A380
 replace H := Option.bind_eq_some_iff.mp H
 obtain ⟨t273, A390, H⟩ := H
 replace H : (if (wrap64 (t272 - t273)) > a0_3 then (some (([] : List Int), 131)) else ((some (([] : List Int) : List Int)).bind fun y274 => (if y274.length + l1.length < 17592186044416 then (some ((y274 ++ l1), 0)) else (none)))) = some (r1, r2) := H
 have A39 := Aside0.mk A390
 clear A390
 by_cases c40 : (wrap64 (t272 - t273)) > a0_3
 · rw [if_pos c40] at H
   have c40b0 : decide (a0_3 < (wrap64 (t272 - t273))) = true := decide_eq_true c40
   have c40b0v : decide (a0_3 < (IntKind.i64.wrap (t272 - t273))) = true := by (try simp only [i64_w]); exact c40b0
   clear c40
   simp only [Option.some.injEq, Prod.mk.injEq] at H
   obtain ⟨rfl, rfl⟩ := H
   go_enter Try.func29, Try.ntmps29
   go_wp2_with (first | ((with_reducible refine gate_dst (N := 3) rfl ?_); refine bx_ (N := 3) (cs := #[.int .i64 a0_0, .int .i64 a0_1, .int .i64 a0_2, .int .i64 a0_3, .int .i64 a0_4]) (t := 55) ?_; intro gb255 hg w41 hbox hb; have n_ := a_ (bs_ HB hb) (a_ (Aside0.mk hbox) (a_ (gs_ HB hg) (gs_ HB hg))); clear HB; obtain ⟨HB, BK255, GW255, GE255⟩ := n_; clear hb hbox hg; obtain ⟨hcz42_0, hcz42_1, hcz42_2, hcz42_3, hcz42_4, hfz42_0, hfz42_1, hfz42_2, hfz42_3, hfz42_4⟩ := cz5_ BK255) | (go_at_call 47; (with_reducible refine (warrantorref13_Value.calls _ _ l1 a0_1 t272 _ ?side1 ?side2 A38.out).mono ?_); (case side1 => exact sd_ (Kd.C_below HR1.out HB.out)); (case side2 => exact HC1.out); rintro e w' ⟨rfl, ⟨nd, rfl⟩⟩; (try first | exact ⟨rfl, _, World.drewN_drewN _ _ _⟩ | exact ⟨rfl, _, Eq.trans (World.drewN_drewN _ _ _) (congrArg (World.drewN _) (Nat.add_assoc _ _ _))⟩); (try clear A38)) | (go_at_call 47; (with_reducible refine (warrantorref13_Value.calls _ _ l1 a0_2 t273 _ ?side1 ?side2 A39.out).mono ?_); (case side1 => repeat (first | exact (Kd.C_below HR1.out HB_) | (with_reducible refine Kd.C_alloc ?_ _) | (with_reducible refine Kd.C_drewN ?_ _) | (with_reducible refine Kd.C_drew ?_))); (case side2 => exact HC1.out); rintro e w' ⟨rfl, ⟨nd, rfl⟩⟩; (try first | exact ⟨rfl, _, World.drewN_drewN _ _ _⟩ | exact ⟨rfl, _, Eq.trans (World.drewN_drewN _ _ _) (congrArg (World.drewN _) (Nat.add_assoc _ _ _))⟩)))
   repeat (go_quiet (first | ((with_reducible refine gate_dst (N := 3) rfl ?_); refine bx_ (N := 3) (cs := #[.int .i64 a0_0, .int .i64 a0_1, .int .i64 a0_2, .int .i64 a0_3, .int .i64 a0_4]) (t := 55) ?_; intro gb255 hg w41 hbox hb; have n_ := a_ (bs_ HB hb) (a_ (Aside0.mk hbox) (a_ (gs_ HB hg) (gs_ HB hg))); clear HB; obtain ⟨HB, BK255, GW255, GE255⟩ := n_; clear hb hbox hg; obtain ⟨hcz42_0, hcz42_1, hcz42_2, hcz42_3, hcz42_4, hfz42_0, hfz42_1, hfz42_2, hfz42_3, hfz42_4⟩ := cz5_ BK255) | (go_at_call 47; (with_reducible refine (warrantorref13_Value.calls _ _ l1 a0_1 t272 _ ?side1 ?side2 A38.out).mono ?_); (case side1 => exact sd_ (Kd.C_below HR1.out HB.out)); (case side2 => exact HC1.out); rintro e w' ⟨rfl, ⟨nd, rfl⟩⟩; (try first | exact ⟨rfl, _, World.drewN_drewN _ _ _⟩ | exact ⟨rfl, _, Eq.trans (World.drewN_drewN _ _ _) (congrArg (World.drewN _) (Nat.add_assoc _ _ _))⟩)) | (go_at_call 47; (with_reducible refine (warrantorref13_Value.calls _ _ l1 a0_2 t273 _ ?side1 ?side2 A39.out).mono ?_); (case side1 => repeat (first | exact (Kd.C_below HR1.out HB_) | (with_reducible refine Kd.C_alloc ?_ _) | (with_reducible refine Kd.C_drewN ?_ _) | (with_reducible refine Kd.C_drew ?_))); (case side2 => exact HC1.out); rintro e w' ⟨rfl, ⟨nd, rfl⟩⟩; (try first | exact ⟨rfl, _, World.drewN_drewN _ _ _⟩ | exact ⟨rfl, _, Eq.trans (World.drewN_drewN _ _ _) (congrArg (World.drewN _) (Nat.add_assoc _ _ _))⟩))); try go_wp2_with (first | ((with_reducible refine gate_dst (N := 3) rfl ?_); refine bx_ (N := 3) (cs := #[.int .i64 a0_0, .int .i64 a0_1, .int .i64 a0_2, .int .i64 a0_3, .int .i64 a0_4]) (t := 55) ?_; intro gb255 hg w41 hbox hb; have n_ := a_ (bs_ HB hb) (a_ (Aside0.mk hbox) (a_ (gs_ HB hg) (gs_ HB hg))); clear HB; obtain ⟨HB, BK255, GW255, GE255⟩ := n_; clear hb hbox hg; obtain ⟨hcz42_0, hcz42_1, hcz42_2, hcz42_3, hcz42_4, hfz42_0, hfz42_1, hfz42_2, hfz42_3, hfz42_4⟩ := cz5_ BK255) | (go_at_call 47; (with_reducible refine (warrantorref13_Value.calls _ _ l1 a0_1 t272 _ ?side1 ?side2 A38.out).mono ?_); (case side1 => exact sd_ (Kd.C_below HR1.out HB.out)); (case side2 => exact HC1.out); rintro e w' ⟨rfl, ⟨nd, rfl⟩⟩; (try first | exact ⟨rfl, _, World.drewN_drewN _ _ _⟩ | exact ⟨rfl, _, Eq.trans (World.drewN_drewN _ _ _) (congrArg (World.drewN _) (Nat.add_assoc _ _ _))⟩)) | (go_at_call 47; (with_reducible refine (warrantorref13_Value.calls _ _ l1 a0_2 t273 _ ?side1 ?side2 A39.out).mono ?_); (case side1 => repeat (first | exact (Kd.C_below HR1.out HB_) | (with_reducible refine Kd.C_alloc ?_ _) | (with_reducible refine Kd.C_drewN ?_ _) | (with_reducible refine Kd.C_drew ?_))); (case side2 => exact HC1.out); rintro e w' ⟨rfl, ⟨nd, rfl⟩⟩; (try first | exact ⟨rfl, _, World.drewN_drewN _ _ _⟩ | exact ⟨rfl, _, Eq.trans (World.drewN_drewN _ _ _) (congrArg (World.drewN _) (Nat.add_assoc _ _ _))⟩))))
   go_ret2
   exact ⟨_, by first | rfl | (simp [errW_none, errW_some] <;> rfl) | (simp [*, errW_none, errW_some] <;> rfl), by first | exact Kd.R_nil _ _ _ _ _ | exact Kd.N_nil _ _ _ _ _ | exact Kd.V_nil _ _ _ _ _ | exact Kd.Q_nil _ _ _ _ _ | exact Kd.S_nil _ _ _ _ _, HB_⟩
 rw [if_neg c40] at H
 have c40b0 : decide (a0_3 < (wrap64 (t272 - t273))) = false := decide_eq_false c40
 have c40b0v : decide (a0_3 < (IntKind.i64.wrap (t272 - t273))) = false := by (try simp only [i64_w]); exact c40b0
 clear c40
 obtain ⟨y274, hy274⟩ : ∃ y_ : List Int, y_ = (([] : List Int)) := ⟨_, rfl⟩
 replace H : (if y274.length + l1.length < 17592186044416 then (some ((y274 ++ l1), 0)) else (none)) = some (r1, r2) := by first | (rw [hy274]; with_reducible exact H) | (have H2_ := (Option.bind_some _ _).symm.trans H; rw [hy274]; with_reducible exact H2_) | (have H2_ := (Option.bind_some _ _).symm.trans H; with_reducible exact H2_) | with_reducible exact H | (rw [hy274]; exact H) | exact H
 have Ny274 := Aside0.mk hy274
 clear hy274
 replace H := yes_ H
 obtain ⟨c43, H⟩ := H
 have LMc43 := Aside0.mk c43
 clear c43
 obtain ⟨y277, hy277⟩ : ∃ y_ : List Int, y_ = (y274 ++ l1) := ⟨_, rfl⟩
 replace H : (some (y277, 0)) = some (r1, r2) := by first | (rw [hy277]; with_reducible exact H) | (have H2_ := (Option.bind_some _ _).symm.trans H; rw [hy277]; with_reducible exact H2_) | (have H2_ := (Option.bind_some _ _).symm.trans H; with_reducible exact H2_) | with_reducible exact H | (rw [hy277]; exact H) | exact H
 have Ny277 := Aside0.mk hy277
 clear hy277
 simp only [Option.some.injEq, Prod.mk.injEq] at H
 obtain ⟨rfl, rfl⟩ := H
 go_enter Try.func29, Try.ntmps29
 go_wp2_with (first | ((with_reducible refine gate_dst (N := 3) rfl ?_); refine bx_ (N := 3) (cs := #[.int .i64 a0_0, .int .i64 a0_1, .int .i64 a0_2, .int .i64 a0_3, .int .i64 a0_4]) (t := 55) ?_; intro gb255 hg w44 hbox hb; have n_ := a_ (bs_ HB hb) (a_ (Aside0.mk hbox) (a_ (gs_ HB hg) (gs_ HB hg))); clear HB; obtain ⟨HB, BK255, GW255, GE255⟩ := n_; clear hb hbox hg; obtain ⟨hcz45_0, hcz45_1, hcz45_2, hcz45_3, hcz45_4, hfz45_0, hfz45_1, hfz45_2, hfz45_3, hfz45_4⟩ := cz5_ BK255) | (go_at_call 47; (with_reducible refine (warrantorref13_Value.calls _ _ l1 a0_1 t272 _ ?side1 ?side2 A38.out).mono ?_); (case side1 => exact sd_ (Kd.C_below HR1.out HB.out)); (case side2 => exact HC1.out); rintro e w' ⟨rfl, ⟨nd, rfl⟩⟩; (try first | exact ⟨rfl, _, World.drewN_drewN _ _ _⟩ | exact ⟨rfl, _, Eq.trans (World.drewN_drewN _ _ _) (congrArg (World.drewN _) (Nat.add_assoc _ _ _))⟩); (try clear A38)) | (go_at_call 47; (with_reducible refine (warrantorref13_Value.calls _ _ l1 a0_2 t273 _ ?side1 ?side2 A39.out).mono ?_); (case side1 => repeat (first | exact (Kd.C_below HR1.out HB_) | (with_reducible refine Kd.C_alloc ?_ _) | (with_reducible refine Kd.C_drewN ?_ _) | (with_reducible refine Kd.C_drew ?_))); (case side2 => exact HC1.out); rintro e w' ⟨rfl, ⟨nd, rfl⟩⟩; (try first | exact ⟨rfl, _, World.drewN_drewN _ _ _⟩ | exact ⟨rfl, _, Eq.trans (World.drewN_drewN _ _ _) (congrArg (World.drewN _) (Nat.add_assoc _ _ _))⟩)) | ((with_reducible refine gate_dst (N := 73) rfl ?_); refine Kd.R_lit (Kd.int .i64) _ 3 ?hg (N := 73) ?hd (xs := ([] : List Int)) (inner := []) (ok := fun _ => True) (okp := fun _ => True) ?hr ?hp (fun _ hk => hk) trivial (Below.refl _ _) (Nat.le_refl _) (by simp) ?_; (case hd => rfl); (case hg => rfl); (case hr => first | (go_simp; done) | (go_simp; rfl)); (case hp => exact (Reps.none _ _)); intro v275 w46 ho47 hb hg_ hnew_; clear hg_ hnew_; (first | rw [← Ny274.out] at ho47 | (simp only [Int.reduceToNat] at ho47; rw [← Ny274.out] at ho47)); have n_ := a_ (Aside0.mk (Kd.R_lower ho47 (below_size HB_))) (a_ (bb_ BK255 hb) (bs_ HB hb)); clear BK255 HB; obtain ⟨HO276, BK255, HB⟩ := n_; clear hb ho47) | ((with_reducible refine gate_builtin (b := .append) (xs := #[.tmp 73, .tmp 74]) rfl ?_); at_builtin; refine Kd.R_append_rows (Kd.int .i64) (w0 := w) w.heap.size rfl (.tmp 73) (.tmp 74) 27 3 (.int .i64 0) 8 rfl Try.underlying27 info3 rfl (by decide) (by omega) v275 y274 l1 _ _ _ (fun _ => True) (fun _ => False) rfl rfl ?aO ?aR (fun _ _ h => h) (fun _ h => h.elim) ?aF ?aB ?aS ?aL ?_; (case aR => exact sd_ (Kd.C_below HR1.out HB.out)); (case aB => exact HB_); (case aF => exact (fun _ _ => trivial)); (case aO => exact (rd_ HO276.out)); (case aS => exact (below_size HB_)); (case aL => have := LMc43.out; omega); intro v278 w48 ho hb hg hat; rw [← Ny277.out] at ho; have n_ := a_ (Aside0.mk (blk_grown (g := gb255) (o := .cells #[.int .i64 a0_0, .int .i64 a0_1, .int .i64 a0_2, .int .i64 a0_3, .int .i64 a0_4] 55 (0, 0)) (bk_ BK255.out) hg (Kd.R_ne HO276.out BK255.out (by decide)))) (a_ (Aside0.mk hb) (Aside0.mk ho)); clear BK255 HB HO276; obtain ⟨BK255, HB, HO279⟩ := n_; clear ho hb hg hat))
 repeat (go_quiet (first | ((with_reducible refine gate_dst (N := 3) rfl ?_); refine bx_ (N := 3) (cs := #[.int .i64 a0_0, .int .i64 a0_1, .int .i64 a0_2, .int .i64 a0_3, .int .i64 a0_4]) (t := 55) ?_; intro gb255 hg w44 hbox hb; have n_ := a_ (bs_ HB hb) (a_ (Aside0.mk hbox) (a_ (gs_ HB hg) (gs_ HB hg))); clear HB; obtain ⟨HB, BK255, GW255, GE255⟩ := n_; clear hb hbox hg; obtain ⟨hcz45_0, hcz45_1, hcz45_2, hcz45_3, hcz45_4, hfz45_0, hfz45_1, hfz45_2, hfz45_3, hfz45_4⟩ := cz5_ BK255) | (go_at_call 47; (with_reducible refine (warrantorref13_Value.calls _ _ l1 a0_1 t272 _ ?side1 ?side2 A38.out).mono ?_); (case side1 => exact sd_ (Kd.C_below HR1.out HB.out)); (case side2 => exact HC1.out); rintro e w' ⟨rfl, ⟨nd, rfl⟩⟩; (try first | exact ⟨rfl, _, World.drewN_drewN _ _ _⟩ | exact ⟨rfl, _, Eq.trans (World.drewN_drewN _ _ _) (congrArg (World.drewN _) (Nat.add_assoc _ _ _))⟩)) | (go_at_call 47; (with_reducible refine (warrantorref13_Value.calls _ _ l1 a0_2 t273 _ ?side1 ?side2 A39.out).mono ?_); (case side1 => repeat (first | exact (Kd.C_below HR1.out HB_) | (with_reducible refine Kd.C_alloc ?_ _) | (with_reducible refine Kd.C_drewN ?_ _) | (with_reducible refine Kd.C_drew ?_))); (case side2 => exact HC1.out); rintro e w' ⟨rfl, ⟨nd, rfl⟩⟩; (try first | exact ⟨rfl, _, World.drewN_drewN _ _ _⟩ | exact ⟨rfl, _, Eq.trans (World.drewN_drewN _ _ _) (congrArg (World.drewN _) (Nat.add_assoc _ _ _))⟩)) | ((with_reducible refine gate_dst (N := 73) rfl ?_); refine Kd.R_lit (Kd.int .i64) _ 3 ?hg (N := 73) ?hd (xs := ([] : List Int)) (inner := []) (ok := fun _ => True) (okp := fun _ => True) ?hr ?hp (fun _ hk => hk) trivial (Below.refl _ _) (Nat.le_refl _) (by simp) ?_; (case hd => rfl); (case hg => rfl); (case hr => first | (go_simp; done) | (go_simp; rfl)); (case hp => exact (Reps.none _ _)); intro v275 w46 ho47 hb hg_ hnew_; clear hg_ hnew_; (first | rw [← Ny274.out] at ho47 | (simp only [Int.reduceToNat] at ho47; rw [← Ny274.out] at ho47)); have n_ := a_ (Aside0.mk (Kd.R_lower ho47 (below_size HB_))) (a_ (bb_ BK255 hb) (bs_ HB hb)); clear BK255 HB; obtain ⟨HO276, BK255, HB⟩ := n_; clear hb ho47) | ((with_reducible refine gate_builtin (b := .append) (xs := #[.tmp 73, .tmp 74]) rfl ?_); at_builtin; refine Kd.R_append_rows (Kd.int .i64) (w0 := w) w.heap.size rfl (.tmp 73) (.tmp 74) 27 3 (.int .i64 0) 8 rfl Try.underlying27 info3 rfl (by decide) (by omega) v275 y274 l1 _ _ _ (fun _ => True) (fun _ => False) rfl rfl ?aO ?aR (fun _ _ h => h) (fun _ h => h.elim) ?aF ?aB ?aS ?aL ?_; (case aR => exact sd_ (Kd.C_below HR1.out HB.out)); (case aB => exact HB_); (case aF => exact (fun _ _ => trivial)); (case aO => exact (rd_ HO276.out)); (case aS => exact (below_size HB_)); (case aL => have := LMc43.out; omega); intro v278 w48 ho hb hg hat; rw [← Ny277.out] at ho; have n_ := a_ (Aside0.mk (blk_grown (g := gb255) (o := .cells #[.int .i64 a0_0, .int .i64 a0_1, .int .i64 a0_2, .int .i64 a0_3, .int .i64 a0_4] 55 (0, 0)) (bk_ BK255.out) hg (Kd.R_ne HO276.out BK255.out (by decide)))) (a_ (Aside0.mk hb) (Aside0.mk ho)); clear BK255 HB HO276; obtain ⟨BK255, HB, HO279⟩ := n_; clear ho hb hg hat)); try go_wp2_with (first | ((with_reducible refine gate_dst (N := 3) rfl ?_); refine bx_ (N := 3) (cs := #[.int .i64 a0_0, .int .i64 a0_1, .int .i64 a0_2, .int .i64 a0_3, .int .i64 a0_4]) (t := 55) ?_; intro gb255 hg w44 hbox hb; have n_ := a_ (bs_ HB hb) (a_ (Aside0.mk hbox) (a_ (gs_ HB hg) (gs_ HB hg))); clear HB; obtain ⟨HB, BK255, GW255, GE255⟩ := n_; clear hb hbox hg; obtain ⟨hcz45_0, hcz45_1, hcz45_2, hcz45_3, hcz45_4, hfz45_0, hfz45_1, hfz45_2, hfz45_3, hfz45_4⟩ := cz5_ BK255) | (go_at_call 47; (with_reducible refine (warrantorref13_Value.calls _ _ l1 a0_1 t272 _ ?side1 ?side2 A38.out).mono ?_); (case side1 => exact sd_ (Kd.C_below HR1.out HB.out)); (case side2 => exact HC1.out); rintro e w' ⟨rfl, ⟨nd, rfl⟩⟩; (try first | exact ⟨rfl, _, World.drewN_drewN _ _ _⟩ | exact ⟨rfl, _, Eq.trans (World.drewN_drewN _ _ _) (congrArg (World.drewN _) (Nat.add_assoc _ _ _))⟩)) | (go_at_call 47; (with_reducible refine (warrantorref13_Value.calls _ _ l1 a0_2 t273 _ ?side1 ?side2 A39.out).mono ?_); (case side1 => repeat (first | exact (Kd.C_below HR1.out HB_) | (with_reducible refine Kd.C_alloc ?_ _) | (with_reducible refine Kd.C_drewN ?_ _) | (with_reducible refine Kd.C_drew ?_))); (case side2 => exact HC1.out); rintro e w' ⟨rfl, ⟨nd, rfl⟩⟩; (try first | exact ⟨rfl, _, World.drewN_drewN _ _ _⟩ | exact ⟨rfl, _, Eq.trans (World.drewN_drewN _ _ _) (congrArg (World.drewN _) (Nat.add_assoc _ _ _))⟩)) | ((with_reducible refine gate_dst (N := 73) rfl ?_); refine Kd.R_lit (Kd.int .i64) _ 3 ?hg (N := 73) ?hd (xs := ([] : List Int)) (inner := []) (ok := fun _ => True) (okp := fun _ => True) ?hr ?hp (fun _ hk => hk) trivial (Below.refl _ _) (Nat.le_refl _) (by simp) ?_; (case hd => rfl); (case hg => rfl); (case hr => first | (go_simp; done) | (go_simp; rfl)); (case hp => exact (Reps.none _ _)); intro v275 w46 ho47 hb hg_ hnew_; clear hg_ hnew_; (first | rw [← Ny274.out] at ho47 | (simp only [Int.reduceToNat] at ho47; rw [← Ny274.out] at ho47)); have n_ := a_ (Aside0.mk (Kd.R_lower ho47 (below_size HB_))) (a_ (bb_ BK255 hb) (bs_ HB hb)); clear BK255 HB; obtain ⟨HO276, BK255, HB⟩ := n_; clear hb ho47) | ((with_reducible refine gate_builtin (b := .append) (xs := #[.tmp 73, .tmp 74]) rfl ?_); at_builtin; refine Kd.R_append_rows (Kd.int .i64) (w0 := w) w.heap.size rfl (.tmp 73) (.tmp 74) 27 3 (.int .i64 0) 8 rfl Try.underlying27 info3 rfl (by decide) (by omega) v275 y274 l1 _ _ _ (fun _ => True) (fun _ => False) rfl rfl ?aO ?aR (fun _ _ h => h) (fun _ h => h.elim) ?aF ?aB ?aS ?aL ?_; (case aR => exact sd_ (Kd.C_below HR1.out HB.out)); (case aB => exact HB_); (case aF => exact (fun _ _ => trivial)); (case aO => exact (rd_ HO276.out)); (case aS => exact (below_size HB_)); (case aL => have := LMc43.out; omega); intro v278 w48 ho hb hg hat; rw [← Ny277.out] at ho; have n_ := a_ (Aside0.mk (blk_grown (g := gb255) (o := .cells #[.int .i64 a0_0, .int .i64 a0_1, .int .i64 a0_2, .int .i64 a0_3, .int .i64 a0_4] 55 (0, 0)) (bk_ BK255.out) hg (Kd.R_ne HO276.out BK255.out (by decide)))) (a_ (Aside0.mk hb) (Aside0.mk ho)); clear BK255 HB HO276; obtain ⟨BK255, HB, HO279⟩ := n_; clear ho hb hg hat)))
 go_ret2
 exact ⟨_, by first | rfl | (simp [errW_none, errW_some] <;> rfl) | (simp [*, errW_none, errW_some] <;> rfl), by (with_reducible repeat (first | apply Kd.R_alloc | apply Kd.R_drewN | apply Kd.R_drew)); exact HO279.out, HB_⟩
def warrantorref13_Step.j0 : Nat → Bool → ByteArray → List ByteArray → List (S53) → List (S57) → Int → List Int → Int → Int → Option (Int × List Int × Int)
 | 0, _, _, _, _, _, _, _, _, _ => none
 | k + 1, x33, x287000, x287001, x287002, x287003, x288000, x288001, x289000, x289001 => if x33 = true then (some (0, ([] : List Int), 1)) else (if 0 ≤ x289000 then (if x289000 < (x287003.length : Int) then ((warrantorref13_Does.f ((rd_T57 x287003 x289000).f2.f0) ((rd_T57 x287003 x289000).f2.f1) ((rd_T57 x287003 x289000).f2.f2) ((rd_T57 x287003 x289000).f2.f3) ((rd_T57 x287003 x289000).f2.f4) x288001 x289001).bind fun bt293 => (if bt293.2 = 0 then (some ((rd_T57 x287003 x289000).f1, bt293.1, 0)) else (some (0, ([] : List Int), bt293.2)))) else (none)) else (none))
def warrantorref13_Step.f (k : Nat) (a0_0 : ByteArray) (l0_1 : List ByteArray) (l0_2 : List (S53)) (l0_3 : List (S57)) (a1_0 : Int) (l1_1 : List Int) (a2_0 : Int) (a2_1 : Int) : Option (Int × List Int × Int) := if a2_0 < 0 then (warrantorref13_Step.j0 k true a0_0 l0_1 l0_2 l0_3 a1_0 l1_1 a2_0 a2_1) else (if a2_0 ≥ (l0_3.length : Int) then (warrantorref13_Step.j0 k true a0_0 l0_1 l0_2 l0_3 a1_0 l1_1 a2_0 a2_1) else (if 0 ≤ a2_0 then (if a2_0 < (l0_3.length : Int) then (warrantorref13_Step.j0 k (((rd_T57 l0_3 a2_0).f0) != a1_0) a0_0 l0_1 l0_2 l0_3 a1_0 l1_1 a2_0 a2_1) else (none)) else (none)))
theorem warrantorref13_Step.mono_l : ∀ k, (∀ y0 y1 y2 y3 y4 y5 y6 y7 y8, LeO (warrantorref13_Step.j0 k y0 y1 y2 y3 y4 y5 y6 y7 y8) (warrantorref13_Step.j0 (k + 1) y0 y1 y2 y3 y4 y5 y6 y7 y8))
 | 0 => fun _ _ _ _ _ _ _ _ _ r h => by simp [warrantorref13_Step.j0] at h
 | k + 1 => by
  have ih0 := warrantorref13_Step.mono_l k
  · intro y0 y1 y2 y3 y4 y5 y6 y7 y8
    unfold warrantorref13_Step.j0
    repeat' first
    | (with_reducible exact ih0 _ _ _ _ _ _ _ _ _)
    | (with_reducible exact LeO.refl _)
    | (with_reducible exact LeO.none _)
    | (with_reducible refine LeO.ite ?_ ?_)
    | (with_reducible refine LeO.bind ?_ (fun _ => ?_))
    | exact ih0 _ _ _ _ _ _ _ _ _
    | exact LeO.none _
    | refine LeO.ite ?_ ?_
    | refine LeO.bind ?_ (fun _ => ?_)
theorem warrantorref13_Step.mono : ∀ a0 a1 a2 a3 a4 a5 a6 a7 k, LeO (warrantorref13_Step.f k a0 a1 a2 a3 a4 a5 a6 a7) (warrantorref13_Step.f (k + 1) a0 a1 a2 a3 a4 a5 a6 a7) := by
 intro a0 a1 a2 a3 a4 a5 a6 a7 k
 have ih0 := warrantorref13_Step.mono_l k
 unfold warrantorref13_Step.f
 repeat' first
  | (with_reducible exact ih0 _ _ _ _ _ _ _ _ _)
  | (with_reducible exact LeO.refl _)
  | (with_reducible exact LeO.none _)
  | (with_reducible refine LeO.ite ?_ ?_)
  | (with_reducible refine LeO.bind ?_ (fun _ => ?_))
  | exact ih0 _ _ _ _ _ _ _ _ _
  | exact LeO.none _
  | refine LeO.ite ?_ ?_
  | refine LeO.bind ?_ (fun _ => ?_)
set_option maxHeartbeats 8000000 in
set_option maxRecDepth 100000 in
theorem warrantorref13_Step.calls (k : Nat) (a0_0 : ByteArray) (A0_1 : Option Addr) (c0_1 : Nat) (l0_1 : List ByteArray) (A0_2 : Option Addr) (c0_2 : Nat) (l0_2 : List (S53)) (A0_3 : Option Addr) (c0_3 : Nat) (l0_3 : List (S57)) (a1_0 : Int) (A1_1 : Option Addr) (c1_1 : Nat) (l1_1 : List Int) (a2_0 : Int) (a2_1 : Int) (r1 : Int) (r2 : List Int) (r3 : Int) (w : World) (hr0_1 : Kd.C Kd.string w A0_1 l0_1.length l0_1) (hc0_1 : l0_1.length ≤ c0_1) (hr0_2 : Kd.C k53 w A0_2 l0_2.length l0_2) (hc0_2 : l0_2.length ≤ c0_2) (hr0_3 : Kd.C k57 w A0_3 l0_3.length l0_3) (hc0_3 : l0_3.length ≤ c0_3) (hr1_1 : Kd.C (Kd.int .i64) w A1_1 l1_1.length l1_1) (hc1_1 : l1_1.length ≤ c1_1) (h : warrantorref13_Step.f k a0_0 l0_1 l0_2 l0_3 a1_0 l1_1 a2_0 a2_1 = some (r1, r2, r3)) :
  Calls Try.prog 14 #[.agg #[.string a0_0, .slice A0_1 l0_1.length c0_1, .slice A0_2 l0_2.length c0_2, .slice A0_3 l0_3.length c0_3], .agg #[.int .i64 a1_0, .slice A1_1 l1_1.length c1_1], .agg #[.int .i64 a2_0, .int .i64 a2_1]] w fun e w' => ∃ v1_ : Value, e = .returned (.tuple #[.agg #[.int .i64 r1, v1_], .int .i64 r3]) ∧ Kd.R (Kd.int .i64) 3 w' w.heap.size (fun _ => True) v1_ r2 ∧ Below w.heap.size w w' := by
 have hu26 := Try.underlying26
 have hu29 := Try.underlying29
 have hu31 := Try.underlying31
 have hu57 := Try.underlying57
 have hu55 := Try.underlying55
 have HR0_1 := Aside0.mk hr0_1
 have HC0_1 := Aside0.mk hc0_1
 clear hr0_1 hc0_1
 have HR0_2 := Aside0.mk hr0_2
 have HC0_2 := Aside0.mk hc0_2
 clear hr0_2 hc0_2
 have HR0_3 := Aside0.mk hr0_3
 have HC0_3 := Aside0.mk hc0_3
 clear hr0_3 hc0_3
 have HR1_1 := Aside0.mk hr1_1
 have HC1_1 := Aside0.mk hc1_1
 clear hr1_1 hc1_1
 have HB := Aside0.mk (Below.refl w.heap.size w)
 have H : (if a2_0 < 0 then (warrantorref13_Step.j0 k true a0_0 l0_1 l0_2 l0_3 a1_0 l1_1 a2_0 a2_1) else (if a2_0 ≥ (l0_3.length : Int) then (warrantorref13_Step.j0 k true a0_0 l0_1 l0_2 l0_3 a1_0 l1_1 a2_0 a2_1) else (if 0 ≤ a2_0 then (if a2_0 < (l0_3.length : Int) then (warrantorref13_Step.j0 k (((rd_T57 l0_3 a2_0).f0) != a1_0) a0_0 l0_1 l0_2 l0_3 a1_0 l1_1 a2_0 a2_1) else (none)) else (none)))) = some (r1, r2, r3) := h
 clear h
 have HC4 := Aside0.mk H
 clear H
 go_enter Try.func14, Try.ntmps14
 go_upto_region 1 with (first | ((with_reducible refine gate_dst (N := 3) rfl ?_); (try (refine gate_guard (by rfl) ?_; dsimp only)); refine bx_ (N := 3) (cs := #[.string a0_0, .slice A0_1 l0_1.length c0_1, .slice A0_2 l0_2.length c0_2, .slice A0_3 l0_3.length c0_3]) (t := 26) ?_; intro gb286 hg w5 hbox hb; have n_ := a_ (bs_ HB hb) (a_ (Aside0.mk hbox) (a_ (gs_ HB hg) (gs_ HB hg))); clear HB; obtain ⟨HB, BK286, GW286, GE286⟩ := n_; clear hb hbox hg) | ((with_reducible refine gate_dst (N := 4) rfl ?_); (try (refine gate_guard (by rfl) ?_; dsimp only)); refine bx_ (N := 4) (cs := #[.int .i64 a1_0, .slice A1_1 l1_1.length c1_1]) (t := 29) ?_; intro gb287 hg w6 hbox hb; have n_ := a_ (bb_ BK286 hb) (a_ (bs_ HB hb) (a_ (Aside0.mk hbox) (a_ (gs_ HB hg) (a_ (gs_ HB hg) (a_ (nl_ BK286 hg) (ng_ BK286 hg)))))); clear BK286 HB; obtain ⟨BK286, HB, BK287, GW287, GE287, NB286_287, NB287_286⟩ := n_; clear hb hbox hg) | ((with_reducible refine gate_dst (N := 5) rfl ?_); (try (refine gate_guard (by rfl) ?_; dsimp only)); refine bx_ (N := 5) (cs := #[.int .i64 a2_0, .int .i64 a2_1]) (t := 31) ?_; intro gb288 hg w7 hbox hb; have n_ := a_ (bb_ BK286 hb) (a_ (bb_ BK287 hb) (a_ (bs_ HB hb) (a_ (Aside0.mk hbox) (a_ (gs_ HB hg) (a_ (gs_ HB hg) (a_ (nl_ BK286 hg) (a_ (ng_ BK286 hg) (a_ (nl_ BK287 hg) (ng_ BK287 hg))))))))); clear BK286 BK287 HB; obtain ⟨BK286, BK287, HB, BK288, GW288, GE288, NB286_288, NB288_286, NB287_288, NB288_287⟩ := n_; clear hb hbox hg) | ((with_reducible refine gate_dst (N := 6) rfl ?_); (try (refine gate_guard (by rfl) ?_; dsimp only)); refine bx_ (N := 6) (cs := #[.int .i64 0, .slice none 0 0]) (t := 29) ?_; intro gb289 hg w8 hbox hb; have n_ := a_ (bb_ BK286 hb) (a_ (bb_ BK287 hb) (a_ (bb_ BK288 hb) (a_ (bs_ HB hb) (a_ (Aside0.mk hbox) (a_ (gs_ HB hg) (a_ (gs_ HB hg) (a_ (nl_ BK286 hg) (a_ (ng_ BK286 hg) (a_ (nl_ BK287 hg) (a_ (ng_ BK287 hg) (a_ (nl_ BK288 hg) (ng_ BK288 hg)))))))))))); clear BK286 BK287 BK288 HB; obtain ⟨BK286, BK287, BK288, HB, BK289, GW289, GE289, NB286_289, NB289_286, NB287_289, NB289_287, NB288_289, NB289_288⟩ := n_; clear hb hbox hg))
 repeat (go_quiet (first | ((with_reducible refine gate_dst (N := 3) rfl ?_); (try (refine gate_guard (by rfl) ?_; dsimp only)); refine bx_ (N := 3) (cs := #[.string a0_0, .slice A0_1 l0_1.length c0_1, .slice A0_2 l0_2.length c0_2, .slice A0_3 l0_3.length c0_3]) (t := 26) ?_; intro gb286 hg w5 hbox hb; have n_ := a_ (bs_ HB hb) (a_ (Aside0.mk hbox) (a_ (gs_ HB hg) (gs_ HB hg))); clear HB; obtain ⟨HB, BK286, GW286, GE286⟩ := n_; clear hb hbox hg) | ((with_reducible refine gate_dst (N := 4) rfl ?_); (try (refine gate_guard (by rfl) ?_; dsimp only)); refine bx_ (N := 4) (cs := #[.int .i64 a1_0, .slice A1_1 l1_1.length c1_1]) (t := 29) ?_; intro gb287 hg w6 hbox hb; have n_ := a_ (bb_ BK286 hb) (a_ (bs_ HB hb) (a_ (Aside0.mk hbox) (a_ (gs_ HB hg) (a_ (gs_ HB hg) (a_ (nl_ BK286 hg) (ng_ BK286 hg)))))); clear BK286 HB; obtain ⟨BK286, HB, BK287, GW287, GE287, NB286_287, NB287_286⟩ := n_; clear hb hbox hg) | ((with_reducible refine gate_dst (N := 5) rfl ?_); (try (refine gate_guard (by rfl) ?_; dsimp only)); refine bx_ (N := 5) (cs := #[.int .i64 a2_0, .int .i64 a2_1]) (t := 31) ?_; intro gb288 hg w7 hbox hb; have n_ := a_ (bb_ BK286 hb) (a_ (bb_ BK287 hb) (a_ (bs_ HB hb) (a_ (Aside0.mk hbox) (a_ (gs_ HB hg) (a_ (gs_ HB hg) (a_ (nl_ BK286 hg) (a_ (ng_ BK286 hg) (a_ (nl_ BK287 hg) (ng_ BK287 hg))))))))); clear BK286 BK287 HB; obtain ⟨BK286, BK287, HB, BK288, GW288, GE288, NB286_288, NB288_286, NB287_288, NB288_287⟩ := n_; clear hb hbox hg) | ((with_reducible refine gate_dst (N := 6) rfl ?_); (try (refine gate_guard (by rfl) ?_; dsimp only)); refine bx_ (N := 6) (cs := #[.int .i64 0, .slice none 0 0]) (t := 29) ?_; intro gb289 hg w8 hbox hb; have n_ := a_ (bb_ BK286 hb) (a_ (bb_ BK287 hb) (a_ (bb_ BK288 hb) (a_ (bs_ HB hb) (a_ (Aside0.mk hbox) (a_ (gs_ HB hg) (a_ (gs_ HB hg) (a_ (nl_ BK286 hg) (a_ (ng_ BK286 hg) (a_ (nl_ BK287 hg) (a_ (ng_ BK287 hg) (a_ (nl_ BK288 hg) (ng_ BK288 hg)))))))))))); clear BK286 BK287 BK288 HB; obtain ⟨BK286, BK287, BK288, HB, BK289, GW289, GE289, NB286_289, NB289_286, NB287_289, NB289_287, NB288_289, NB289_288⟩ := n_; clear hb hbox hg)); go_upto_region 1 with (first | ((with_reducible refine gate_dst (N := 3) rfl ?_); (try (refine gate_guard (by rfl) ?_; dsimp only)); refine bx_ (N := 3) (cs := #[.string a0_0, .slice A0_1 l0_1.length c0_1, .slice A0_2 l0_2.length c0_2, .slice A0_3 l0_3.length c0_3]) (t := 26) ?_; intro gb286 hg w5 hbox hb; have n_ := a_ (bs_ HB hb) (a_ (Aside0.mk hbox) (a_ (gs_ HB hg) (gs_ HB hg))); clear HB; obtain ⟨HB, BK286, GW286, GE286⟩ := n_; clear hb hbox hg) | ((with_reducible refine gate_dst (N := 4) rfl ?_); (try (refine gate_guard (by rfl) ?_; dsimp only)); refine bx_ (N := 4) (cs := #[.int .i64 a1_0, .slice A1_1 l1_1.length c1_1]) (t := 29) ?_; intro gb287 hg w6 hbox hb; have n_ := a_ (bb_ BK286 hb) (a_ (bs_ HB hb) (a_ (Aside0.mk hbox) (a_ (gs_ HB hg) (a_ (gs_ HB hg) (a_ (nl_ BK286 hg) (ng_ BK286 hg)))))); clear BK286 HB; obtain ⟨BK286, HB, BK287, GW287, GE287, NB286_287, NB287_286⟩ := n_; clear hb hbox hg) | ((with_reducible refine gate_dst (N := 5) rfl ?_); (try (refine gate_guard (by rfl) ?_; dsimp only)); refine bx_ (N := 5) (cs := #[.int .i64 a2_0, .int .i64 a2_1]) (t := 31) ?_; intro gb288 hg w7 hbox hb; have n_ := a_ (bb_ BK286 hb) (a_ (bb_ BK287 hb) (a_ (bs_ HB hb) (a_ (Aside0.mk hbox) (a_ (gs_ HB hg) (a_ (gs_ HB hg) (a_ (nl_ BK286 hg) (a_ (ng_ BK286 hg) (a_ (nl_ BK287 hg) (ng_ BK287 hg))))))))); clear BK286 BK287 HB; obtain ⟨BK286, BK287, HB, BK288, GW288, GE288, NB286_288, NB288_286, NB287_288, NB288_287⟩ := n_; clear hb hbox hg) | ((with_reducible refine gate_dst (N := 6) rfl ?_); (try (refine gate_guard (by rfl) ?_; dsimp only)); refine bx_ (N := 6) (cs := #[.int .i64 0, .slice none 0 0]) (t := 29) ?_; intro gb289 hg w8 hbox hb; have n_ := a_ (bb_ BK286 hb) (a_ (bb_ BK287 hb) (a_ (bb_ BK288 hb) (a_ (bs_ HB hb) (a_ (Aside0.mk hbox) (a_ (gs_ HB hg) (a_ (gs_ HB hg) (a_ (nl_ BK286 hg) (a_ (ng_ BK286 hg) (a_ (nl_ BK287 hg) (a_ (ng_ BK287 hg) (a_ (nl_ BK288 hg) (ng_ BK288 hg)))))))))))); clear BK286 BK287 BK288 HB; obtain ⟨BK286, BK287, BK288, HB, BK289, GW289, GE289, NB286_289, NB289_286, NB287_289, NB289_287, NB288_289, NB289_288⟩ := n_; clear hb hbox hg)))
 (try simp only [Act.put, List.setIfInBounds_toArray, List.set_cons_zero, List.set_cons_succ])
 go_cut [33] (fun v33 wc => ∃ (kq : Nat) (x33_3 : Bool), v33 = .bool x33_3 ∧ Aside0 (warrantorref13_Step.j0 kq x33_3 a0_0 l0_1 l0_2 l0_3 a1_0 l1_1 a2_0 a2_1 = some (r1, r2, r3)) ∧ Aside0 (kq ≤ k) ∧ Aside0 (wc.heap[gb286]? = some (.cells #[.string a0_0, (.slice A0_1 l0_1.length c0_1), (.slice A0_2 l0_2.length c0_2), (.slice A0_3 l0_3.length c0_3)] 26 (0, 0))) ∧ Aside0 (wc.heap[gb287]? = some (.cells #[.int .i64 a1_0, (.slice A1_1 l1_1.length c1_1)] 29 (0, 0))) ∧ Aside0 (wc.heap[gb288]? = some (.cells #[.int .i64 a2_0, .int .i64 a2_1] 31 (0, 0))) ∧ Aside0 (wc.heap[gb289]? = some (.cells #[.int .i64 0, (.slice none 0 0)] 29 (0, 0))) ∧ Aside0 (Below w.heap.size w wc))
 case first =>
  have H := HC4.out
  clear HC4
  by_cases c9 : a2_0 < 0
  · rw [if_pos c9] at H
    have c9b0 : decide (a2_0 < 0) = true := decide_eq_true c9
    clear c9
    (first | rw [c9b0] | (simp only [i64_w, i32_w]; rw [c9b0]) | skip)
    have H' := Aside0.mk H
    clear H
    have hnb10 := NB288_286.out
    have hnc10 := NB286_288.out
    have hnb11 := NB288_287.out
    have hnc11 := NB287_288.out
    have hnb12 := NB288_289.out
    have hnc12 := NB289_288.out
    obtain ⟨hcz13_0, hcz13_1, hfz13_0, hfz13_1⟩ := cz2_ BK288
    go_wp2
    repeat (go_quiet (fail); try go_wp2)
    go_meet
    case rel => exact ⟨_, (true), (by first | rfl | (simp; done) | (simp [*]; done)), H', ⟨by first | omega | exact Nat.le_refl _⟩, ⟨by (with_reducible repeat (first | refine blk_drewN ?_ _ | refine blk_drew ?_ | refine blk_alloc ?_ _)); exact BK286.out⟩, ⟨by (with_reducible repeat (first | refine blk_drewN ?_ _ | refine blk_drew ?_ | refine blk_alloc ?_ _)); exact BK287.out⟩, ⟨by (with_reducible repeat (first | refine blk_drewN ?_ _ | refine blk_drew ?_ | refine blk_alloc ?_ _)); exact BK288.out⟩, ⟨by (with_reducible repeat (first | refine blk_drewN ?_ _ | refine blk_drew ?_ | refine blk_alloc ?_ _)); exact BK289.out⟩, ⟨HB_⟩⟩
  rw [if_neg c9] at H
  have c9b0 : decide (a2_0 < 0) = false := decide_eq_false c9
  clear c9
  (first | rw [c9b0] | (simp only [i64_w, i32_w]; rw [c9b0]) | skip)
  by_cases c14 : a2_0 ≥ (l0_3.length : Int)
  · rw [if_pos c14] at H
    have c14b0 : decide ((l0_3.length : Int) ≤ a2_0) = true := decide_eq_true c14
    clear c14
    have H' := Aside0.mk H
    clear H
    have hnb15 := NB288_286.out
    have hnc15 := NB286_288.out
    have hnb16 := NB288_287.out
    have hnc16 := NB287_288.out
    have hnb17 := NB288_289.out
    have hnc17 := NB289_288.out
    obtain ⟨hcz18_0, hcz18_1, hfz18_0, hfz18_1⟩ := cz2_ BK288
    have hnb19 := NB286_287.out
    have hnc19 := NB287_286.out
    have hnb20 := NB286_289.out
    have hnc20 := NB289_286.out
    obtain ⟨hcz21_0, hcz21_1, hcz21_2, hcz21_3, hfz21_0, hfz21_1, hfz21_2, hfz21_3⟩ := cz4_ BK286
    go_wp2
    repeat (go_quiet (fail); try go_wp2)
    go_meet
    case rel => exact ⟨_, (true), (by first | rfl | (simp; done) | (simp [*]; done)), H', ⟨by first | omega | exact Nat.le_refl _⟩, ⟨by (with_reducible repeat (first | refine blk_drewN ?_ _ | refine blk_drew ?_ | refine blk_alloc ?_ _)); exact BK286.out⟩, ⟨by (with_reducible repeat (first | refine blk_drewN ?_ _ | refine blk_drew ?_ | refine blk_alloc ?_ _)); exact BK287.out⟩, ⟨by (with_reducible repeat (first | refine blk_drewN ?_ _ | refine blk_drew ?_ | refine blk_alloc ?_ _)); exact BK288.out⟩, ⟨by (with_reducible repeat (first | refine blk_drewN ?_ _ | refine blk_drew ?_ | refine blk_alloc ?_ _)); exact BK289.out⟩, ⟨HB_⟩⟩
  rw [if_neg c14] at H
  have c14b0 : decide ((l0_3.length : Int) ≤ a2_0) = false := decide_eq_false c14
  clear c14
  replace H := yes_ H
  obtain ⟨c22, H⟩ := H
  have c22b0 : decide (0 ≤ a2_0) = true := decide_eq_true c22
  clear c22
  replace H := yes_ H
  obtain ⟨c23, H⟩ := H
  have c23b0 : decide (a2_0 < (l0_3.length : Int)) = true := decide_eq_true c23
  clear c23
  have H' := Aside0.mk H
  clear H
  have hnb24 := NB288_286.out
  have hnc24 := NB286_288.out
  have hnb25 := NB288_287.out
  have hnc25 := NB287_288.out
  have hnb26 := NB288_289.out
  have hnc26 := NB289_288.out
  obtain ⟨hcz27_0, hcz27_1, hfz27_0, hfz27_1⟩ := cz2_ BK288
  have hnb28 := NB286_287.out
  have hnc28 := NB287_286.out
  have hnb29 := NB286_289.out
  have hnc29 := NB289_286.out
  obtain ⟨hcz30_0, hcz30_1, hcz30_2, hcz30_3, hfz30_0, hfz30_1, hfz30_2, hfz30_3⟩ := cz4_ BK286
  have p290 : 0 ≤ (a2_0 : Int) := of_decide_eq_true (by first | (with_reducible assumption) | assumption)
  have q290 : a2_0 < (l0_3.length : Int) := of_decide_eq_true (by first | (with_reducible assumption) | assumption)
  obtain ⟨ad290, e290, hx290_0, hx290_1, hx290_2, hx290_3, hx290_4, hx290_5, hx290_6⟩ := at_T57 HR0_3.out a2_0 p290 q290
  cases e290
  first | (replace hx290_0 := (HB.out.cell (World.block_lt_of_cell? w _ hx290_0)).trans hx290_0) | skip
  first | (replace hx290_1 := (HB.out.cell (World.block_lt_of_cell? w _ hx290_1)).trans hx290_1) | skip
  first | (replace hx290_2 := (HB.out.cell (World.block_lt_of_cell? w _ hx290_2)).trans hx290_2) | skip
  first | (replace hx290_3 := (HB.out.cell (World.block_lt_of_cell? w _ hx290_3)).trans hx290_3) | skip
  first | (replace hx290_4 := (HB.out.cell (World.block_lt_of_cell? w _ hx290_4)).trans hx290_4) | skip
  first | (replace hx290_5 := (HB.out.cell (World.block_lt_of_cell? w _ hx290_5)).trans hx290_5) | skip
  first | (replace hx290_6 := (HB.out.cell (World.block_lt_of_cell? w _ hx290_6)).trans hx290_6) | skip
  replace p290 := eq_true p290
  replace q290 := eq_true q290
  have hnb31 := NB287_289.out
  have hnc31 := NB289_287.out
  obtain ⟨hcz32_0, hcz32_1, hfz32_0, hfz32_1⟩ := cz2_ BK287
  go_wp2
  repeat (go_quiet (fail); try go_wp2)
  go_meet
  case rel => exact ⟨_, ((((rd_T57 l0_3 a2_0).f0) != a1_0)), (by first | rfl | (simp; done) | (simp [*]; done)), H', ⟨by first | omega | exact Nat.le_refl _⟩, ⟨by (with_reducible repeat (first | refine blk_drewN ?_ _ | refine blk_drew ?_ | refine blk_alloc ?_ _)); exact BK286.out⟩, ⟨by (with_reducible repeat (first | refine blk_drewN ?_ _ | refine blk_drew ?_ | refine blk_alloc ?_ _)); exact BK287.out⟩, ⟨by (with_reducible repeat (first | refine blk_drewN ?_ _ | refine blk_drew ?_ | refine blk_alloc ?_ _)); exact BK288.out⟩, ⟨by (with_reducible repeat (first | refine blk_drewN ?_ _ | refine blk_drew ?_ | refine blk_alloc ?_ _)); exact BK289.out⟩, ⟨HB_⟩⟩
 case rest =>
  clear HC4
  try clear c1
  try clear c2
  try clear p2
  try clear q2
  try clear hx2
  try clear c3
  try clear c9
  try clear c9b0
  try clear c10
  try clear c11
  try clear c12
  try clear c14
  try clear c14b0
  try clear c15
  try clear c16
  try clear c17
  try clear c19
  try clear c20
  try clear c22
  try clear c22b0
  try clear c23
  try clear c23b0
  try clear c24
  try clear c25
  try clear c26
  try clear c28
  try clear c29
  try clear p29
  try clear q29
  try clear hx29
  try clear c31
  try clear hcz13_0
  try clear hcz13_1
  try clear hcz18_0
  try clear hcz18_1
  try clear hcz21_0
  try clear hcz21_1
  try clear hcz21_2
  try clear hcz21_3
  try clear hcz27_0
  try clear hcz27_1
  try clear hcz30_0
  try clear hcz30_1
  try clear hcz30_2
  try clear hcz30_3
  try clear hcz32_0
  try clear hcz32_1
  try clear hfz13_0
  try clear hfz13_1
  try clear hfz18_0
  try clear hfz18_1
  try clear hfz21_0
  try clear hfz21_1
  try clear hfz21_2
  try clear hfz21_3
  try clear hfz27_0
  try clear hfz27_1
  try clear hfz30_0
  try clear hfz30_1
  try clear hfz30_2
  try clear hfz30_3
  try clear hfz32_0
  try clear hfz32_1
  try clear hx290_0
  try clear hx290_1
  try clear hx290_2
  try clear hx290_3
  try clear hx290_4
  try clear hx290_5
  try clear hx290_6
  try clear p290
  try clear q290
  obtain ⟨kq, x33_3, rfl, HA, HJ3, BK286, BK287, BK288, BK289, HB⟩ := hcut
  cases kq with
  | zero => exact absurd HA.out (by simp [warrantorref13_Step.j0])
  | succ kj3 =>
    have H := HA.out
    clear HA
    simp only [warrantorref13_Step.j0] at H
    by_cases c33 : x33_3 = true
    · subst c33
      have H1 : (some (0, ([] : List Int), 1)) = some (r1, r2, r3) := by rw [if_pos rfl] at H; exact H
      clear H
      have H := H1
      clear H1
      simp only [Option.some.injEq, Prod.mk.injEq] at H
      obtain ⟨rfl, rfl, rfl⟩ := H
      have hnb34 := NB289_286.out
      have hnc34 := NB286_289.out
      have hnb35 := NB289_287.out
      have hnc35 := NB287_289.out
      have hnb36 := NB289_288.out
      have hnc36 := NB288_289.out
      obtain ⟨hcz37_0, hcz37_1, hfz37_0, hfz37_1⟩ := cz2_ BK289
      go_wp2
      repeat (go_quiet (fail); try go_wp2)
      refine bodyPost_ret (results_ct rfl _ _ gb289 29 #[.int .i64 0, .slice none 0 0] (0, 0) _ rfl (bk2_ BK289.out) Try.underlying29 rfl (by kernel_rfl)) rfl ?_
      exact ⟨_, by first | rfl | (simp [errW_none, errW_some] <;> rfl) | (simp [*, errW_none, errW_some] <;> rfl), by first | exact Kd.R_nil _ _ _ _ _ | exact Kd.N_nil _ _ _ _ _ | exact Kd.V_nil _ _ _ _ _ | exact Kd.Q_nil _ _ _ _ _ | exact Kd.S_nil _ _ _ _ _, HB_⟩
    replace c33 := Bool.eq_false_iff.mpr c33
    subst c33
    have H1 : (if 0 ≤ a2_0 then (if a2_0 < (l0_3.length : Int) then ((warrantorref13_Does.f ((rd_T57 l0_3 a2_0).f2.f0) ((rd_T57 l0_3 a2_0).f2.f1) ((rd_T57 l0_3 a2_0).f2.f2) ((rd_T57 l0_3 a2_0).f2.f3) ((rd_T57 l0_3 a2_0).f2.f4) l1_1 a2_1).bind fun bt293 => (if bt293.2 = 0 then (some ((rd_T57 l0_3 a2_0).f1, bt293.1, 0)) else (some (0, ([] : List Int), bt293.2)))) else (none)) else (none)) = some (r1, r2, r3) := by rw [if_neg (show ¬ (false = true) by decide)] at H; exact H
    clear H
    have H := H1
    clear H1
    replace H := yes_ H
    obtain ⟨c38, H⟩ := H
    have c38b0 : decide (0 ≤ a2_0) = true := decide_eq_true c38
    clear c38
    replace H := yes_ H
    obtain ⟨c39, H⟩ := H
    have c39b0 : decide (a2_0 < (l0_3.length : Int)) = true := decide_eq_true c39
    clear c39
    replace H := Option.bind_eq_some_iff.mp H
    obtain ⟨⟨t293, t296⟩, A400, H⟩ := H
    replace H : (if t296 = 0 then (some ((rd_T57 l0_3 a2_0).f1, t293, 0)) else (some (0, ([] : List Int), t296))) = some (r1, r2, r3) := H
    have A40 := Aside0.mk A400
    clear A400
    by_cases c41 : t296 = 0
    rotate_left
    · rw [if_neg c41] at H
      have c41b0 : (t296 == 0) = false := beq_eq_false_iff_ne.mpr c41
      have c41b1 : (t296 != 0) = true := bne_iff_ne.mpr c41
      simp only [Option.some.injEq, Prod.mk.injEq] at H
      obtain ⟨rfl, rfl, rfl⟩ := H
      have hnb62 := NB286_287.out
      have hnc62 := NB287_286.out
      have hnb63 := NB286_288.out
      have hnc63 := NB288_286.out
      have hnb64 := NB286_289.out
      have hnc64 := NB289_286.out
      obtain ⟨hcz65_0, hcz65_1, hcz65_2, hcz65_3, hfz65_0, hfz65_1, hfz65_2, hfz65_3⟩ := cz4_ BK286
      have hnb66 := NB288_287.out
      have hnc66 := NB287_288.out
      have hnb67 := NB288_289.out
      have hnc67 := NB289_288.out
      obtain ⟨hcz68_0, hcz68_1, hfz68_0, hfz68_1⟩ := cz2_ BK288
      have p291 : 0 ≤ (a2_0 : Int) := of_decide_eq_true (by first | (with_reducible assumption) | assumption)
      have q291 : a2_0 < (l0_3.length : Int) := of_decide_eq_true (by first | (with_reducible assumption) | assumption)
      obtain ⟨ad291, e291, hx291_0, hx291_1, hx291_2, hx291_3, hx291_4, hx291_5, hx291_6⟩ := at_T57 HR0_3.out a2_0 p291 q291
      cases e291
      first | (replace hx291_0 := (HB.out.cell (World.block_lt_of_cell? w _ hx291_0)).trans hx291_0) | skip
      first | (replace hx291_1 := (HB.out.cell (World.block_lt_of_cell? w _ hx291_1)).trans hx291_1) | skip
      first | (replace hx291_2 := (HB.out.cell (World.block_lt_of_cell? w _ hx291_2)).trans hx291_2) | skip
      first | (replace hx291_3 := (HB.out.cell (World.block_lt_of_cell? w _ hx291_3)).trans hx291_3) | skip
      first | (replace hx291_4 := (HB.out.cell (World.block_lt_of_cell? w _ hx291_4)).trans hx291_4) | skip
      first | (replace hx291_5 := (HB.out.cell (World.block_lt_of_cell? w _ hx291_5)).trans hx291_5) | skip
      first | (replace hx291_6 := (HB.out.cell (World.block_lt_of_cell? w _ hx291_6)).trans hx291_6) | skip
      replace p291 := eq_true p291
      replace q291 := eq_true q291
      go_wp2_with (first | ((with_reducible refine gate_dst (N := 8) rfl ?_); (try (refine gate_guard (by rfl) ?_; dsimp only)); refine bx_ (N := 8) (cs := #[.int .i64 0, .int .i64 0, .int .i64 0, .int .i64 0, .int .i64 0, .int .i64 0, .int .i64 0]) (t := 57) ?_; intro gb292 hg w69 hbox hb; have n_ := a_ (bb_ BK286 hb) (a_ (bb_ BK287 hb) (a_ (bb_ BK288 hb) (a_ (bb_ BK289 hb) (a_ (bs_ HB hb) (a_ (Aside0.mk hbox) (a_ (gs_ HB hg) (a_ (gs_ HB hg) (a_ (nl_ BK286 hg) (a_ (ng_ BK286 hg) (a_ (nl_ BK287 hg) (a_ (ng_ BK287 hg) (a_ (nl_ BK288 hg) (a_ (ng_ BK288 hg) (a_ (nl_ BK289 hg) (ng_ BK289 hg))))))))))))))); clear BK286 BK287 BK288 BK289 HB; obtain ⟨BK286, BK287, BK288, BK289, HB, BK292, GW292, GE292, NB286_292, NB292_286, NB287_292, NB292_287, NB288_292, NB292_288, NB289_292, NB292_289⟩ := n_; clear hb hbox hg; have hnb70 := NB292_286.out; have hnc70 := NB286_292.out; have hnb71 := NB292_287.out; have hnc71 := NB287_292.out; have hnb72 := NB292_288.out; have hnc72 := NB288_292.out; have hnb73 := NB292_289.out; have hnc73 := NB289_292.out; have hcz74_0 : w69.cell? ⟨gb292, 0, none⟩ = some (.int .i64 0) := (blk_cell BK292.out 0).trans rfl; have hcz74_1 : w69.cell? ⟨gb292, 1, none⟩ = some (.int .i64 0) := (blk_cell BK292.out 1).trans rfl; have hcz74_2 : w69.cell? ⟨gb292, 2, none⟩ = some (.int .i64 0) := (blk_cell BK292.out 2).trans rfl; have hcz74_3 : w69.cell? ⟨gb292, 3, none⟩ = some (.int .i64 0) := (blk_cell BK292.out 3).trans rfl; have hcz74_4 : w69.cell? ⟨gb292, 4, none⟩ = some (.int .i64 0) := (blk_cell BK292.out 4).trans rfl; have hcz74_5 : w69.cell? ⟨gb292, 5, none⟩ = some (.int .i64 0) := (blk_cell BK292.out 5).trans rfl; have hcz74_6 : w69.cell? ⟨gb292, 6, none⟩ = some (.int .i64 0) := (blk_cell BK292.out 6).trans rfl; have hfz74_0 := blk_frozen BK292.out 0; have hfz74_1 := blk_frozen BK292.out 1; have hfz74_2 := blk_frozen BK292.out 2; have hfz74_3 := blk_frozen BK292.out 3; have hfz74_4 := blk_frozen BK292.out 4; have hfz74_5 := blk_frozen BK292.out 5; have hfz74_6 := blk_frozen BK292.out 6; have hnb75 := NB287_289.out; have hnc75 := NB289_287.out; obtain ⟨hcz76_0, hcz76_1, hfz76_0, hfz76_1⟩ := cz2_ BK287; obtain ⟨hcz77_0, hcz77_1, hfz77_0, hfz77_1⟩ := cz2_ BK288) | (go_at_call 29; (with_reducible refine (warrantorref13_Does.calls ((rd_T57 l0_3 a2_0).f2.f0) ((rd_T57 l0_3 a2_0).f2.f1) ((rd_T57 l0_3 a2_0).f2.f2) ((rd_T57 l0_3 a2_0).f2.f3) ((rd_T57 l0_3 a2_0).f2.f4) _ _ l1_1 a2_1 t293 t296 _ ?side1 ?side2 A40.out).mono ?_); (case side1 => exact Kd.C_below HR1_1.out HB_); (case side2 => exact HC1_1.out); rintro e w78 ⟨v294, rfl, ho0, hb⟩; have n_ := a_ (Aside0.mk (Kd.R_lower ho0 (below_size HB_))) (a_ (bc_ #[.string a0_0, .slice A0_1 l0_1.length c0_1, .slice A0_2 l0_2.length c0_2, .slice (some ad291) l0_3.length c0_3] 26 BK286 hb) (a_ (bc_ #[.int .i64 a1_0, .slice A1_1 l1_1.length c1_1] 29 BK287 hb) (a_ (bc_ #[.int .i64 a2_0, .int .i64 a2_1] 31 BK288 hb) (a_ (bc_ #[.int .i64 0, .slice none 0 0] 29 BK289 hb) (a_ (bc_ #[.int .i64 ((rd_T57 l0_3 a2_0).f0), .int .i64 ((rd_T57 l0_3 a2_0).f1), .int .i64 ((rd_T57 l0_3 a2_0).f2.f0), .int .i64 ((rd_T57 l0_3 a2_0).f2.f1), .int .i64 ((rd_T57 l0_3 a2_0).f2.f2), .int .i64 ((rd_T57 l0_3 a2_0).f2.f3), .int .i64 ((rd_T57 l0_3 a2_0).f2.f4)] 57 BK292 hb) (bs_ HB hb)))))); clear BK286 BK287 BK288 BK289 BK292 HB; obtain ⟨HO295, BK286, BK287, BK288, BK289, BK292, HB⟩ := n_; (try clear hb); (try clear hb2); (try clear hk); (try clear hi); (try clear ho0); obtain ⟨hcz79_0, hcz79_1, hfz79_0, hfz79_1⟩ := cz2_ BK289))
      repeat (go_quiet (first | ((with_reducible refine gate_dst (N := 8) rfl ?_); (try (refine gate_guard (by rfl) ?_; dsimp only)); refine bx_ (N := 8) (cs := #[.int .i64 0, .int .i64 0, .int .i64 0, .int .i64 0, .int .i64 0, .int .i64 0, .int .i64 0]) (t := 57) ?_; intro gb292 hg w69 hbox hb; have n_ := a_ (bb_ BK286 hb) (a_ (bb_ BK287 hb) (a_ (bb_ BK288 hb) (a_ (bb_ BK289 hb) (a_ (bs_ HB hb) (a_ (Aside0.mk hbox) (a_ (gs_ HB hg) (a_ (gs_ HB hg) (a_ (nl_ BK286 hg) (a_ (ng_ BK286 hg) (a_ (nl_ BK287 hg) (a_ (ng_ BK287 hg) (a_ (nl_ BK288 hg) (a_ (ng_ BK288 hg) (a_ (nl_ BK289 hg) (ng_ BK289 hg))))))))))))))); clear BK286 BK287 BK288 BK289 HB; obtain ⟨BK286, BK287, BK288, BK289, HB, BK292, GW292, GE292, NB286_292, NB292_286, NB287_292, NB292_287, NB288_292, NB292_288, NB289_292, NB292_289⟩ := n_; clear hb hbox hg; have hnb70 := NB292_286.out; have hnc70 := NB286_292.out; have hnb71 := NB292_287.out; have hnc71 := NB287_292.out; have hnb72 := NB292_288.out; have hnc72 := NB288_292.out; have hnb73 := NB292_289.out; have hnc73 := NB289_292.out; have hcz74_0 : w69.cell? ⟨gb292, 0, none⟩ = some (.int .i64 0) := (blk_cell BK292.out 0).trans rfl; have hcz74_1 : w69.cell? ⟨gb292, 1, none⟩ = some (.int .i64 0) := (blk_cell BK292.out 1).trans rfl; have hcz74_2 : w69.cell? ⟨gb292, 2, none⟩ = some (.int .i64 0) := (blk_cell BK292.out 2).trans rfl; have hcz74_3 : w69.cell? ⟨gb292, 3, none⟩ = some (.int .i64 0) := (blk_cell BK292.out 3).trans rfl; have hcz74_4 : w69.cell? ⟨gb292, 4, none⟩ = some (.int .i64 0) := (blk_cell BK292.out 4).trans rfl; have hcz74_5 : w69.cell? ⟨gb292, 5, none⟩ = some (.int .i64 0) := (blk_cell BK292.out 5).trans rfl; have hcz74_6 : w69.cell? ⟨gb292, 6, none⟩ = some (.int .i64 0) := (blk_cell BK292.out 6).trans rfl; have hfz74_0 := blk_frozen BK292.out 0; have hfz74_1 := blk_frozen BK292.out 1; have hfz74_2 := blk_frozen BK292.out 2; have hfz74_3 := blk_frozen BK292.out 3; have hfz74_4 := blk_frozen BK292.out 4; have hfz74_5 := blk_frozen BK292.out 5; have hfz74_6 := blk_frozen BK292.out 6; have hnb75 := NB287_289.out; have hnc75 := NB289_287.out; obtain ⟨hcz76_0, hcz76_1, hfz76_0, hfz76_1⟩ := cz2_ BK287; obtain ⟨hcz77_0, hcz77_1, hfz77_0, hfz77_1⟩ := cz2_ BK288) | (go_at_call 29; (with_reducible refine (warrantorref13_Does.calls ((rd_T57 l0_3 a2_0).f2.f0) ((rd_T57 l0_3 a2_0).f2.f1) ((rd_T57 l0_3 a2_0).f2.f2) ((rd_T57 l0_3 a2_0).f2.f3) ((rd_T57 l0_3 a2_0).f2.f4) _ _ l1_1 a2_1 t293 t296 _ ?side1 ?side2 A40.out).mono ?_); (case side1 => exact Kd.C_below HR1_1.out HB_); (case side2 => exact HC1_1.out); rintro e w78 ⟨v294, rfl, ho0, hb⟩; have n_ := a_ (Aside0.mk (Kd.R_lower ho0 (below_size HB_))) (a_ (bc_ #[.string a0_0, .slice A0_1 l0_1.length c0_1, .slice A0_2 l0_2.length c0_2, .slice (some ad291) l0_3.length c0_3] 26 BK286 hb) (a_ (bc_ #[.int .i64 a1_0, .slice A1_1 l1_1.length c1_1] 29 BK287 hb) (a_ (bc_ #[.int .i64 a2_0, .int .i64 a2_1] 31 BK288 hb) (a_ (bc_ #[.int .i64 0, .slice none 0 0] 29 BK289 hb) (a_ (bc_ #[.int .i64 ((rd_T57 l0_3 a2_0).f0), .int .i64 ((rd_T57 l0_3 a2_0).f1), .int .i64 ((rd_T57 l0_3 a2_0).f2.f0), .int .i64 ((rd_T57 l0_3 a2_0).f2.f1), .int .i64 ((rd_T57 l0_3 a2_0).f2.f2), .int .i64 ((rd_T57 l0_3 a2_0).f2.f3), .int .i64 ((rd_T57 l0_3 a2_0).f2.f4)] 57 BK292 hb) (bs_ HB hb)))))); clear BK286 BK287 BK288 BK289 BK292 HB; obtain ⟨HO295, BK286, BK287, BK288, BK289, BK292, HB⟩ := n_; (try clear hb); (try clear hb2); (try clear hk); (try clear hi); (try clear ho0); obtain ⟨hcz79_0, hcz79_1, hfz79_0, hfz79_1⟩ := cz2_ BK289)); try go_wp2_with (first | ((with_reducible refine gate_dst (N := 8) rfl ?_); (try (refine gate_guard (by rfl) ?_; dsimp only)); refine bx_ (N := 8) (cs := #[.int .i64 0, .int .i64 0, .int .i64 0, .int .i64 0, .int .i64 0, .int .i64 0, .int .i64 0]) (t := 57) ?_; intro gb292 hg w69 hbox hb; have n_ := a_ (bb_ BK286 hb) (a_ (bb_ BK287 hb) (a_ (bb_ BK288 hb) (a_ (bb_ BK289 hb) (a_ (bs_ HB hb) (a_ (Aside0.mk hbox) (a_ (gs_ HB hg) (a_ (gs_ HB hg) (a_ (nl_ BK286 hg) (a_ (ng_ BK286 hg) (a_ (nl_ BK287 hg) (a_ (ng_ BK287 hg) (a_ (nl_ BK288 hg) (a_ (ng_ BK288 hg) (a_ (nl_ BK289 hg) (ng_ BK289 hg))))))))))))))); clear BK286 BK287 BK288 BK289 HB; obtain ⟨BK286, BK287, BK288, BK289, HB, BK292, GW292, GE292, NB286_292, NB292_286, NB287_292, NB292_287, NB288_292, NB292_288, NB289_292, NB292_289⟩ := n_; clear hb hbox hg; have hnb70 := NB292_286.out; have hnc70 := NB286_292.out; have hnb71 := NB292_287.out; have hnc71 := NB287_292.out; have hnb72 := NB292_288.out; have hnc72 := NB288_292.out; have hnb73 := NB292_289.out; have hnc73 := NB289_292.out; have hcz74_0 : w69.cell? ⟨gb292, 0, none⟩ = some (.int .i64 0) := (blk_cell BK292.out 0).trans rfl; have hcz74_1 : w69.cell? ⟨gb292, 1, none⟩ = some (.int .i64 0) := (blk_cell BK292.out 1).trans rfl; have hcz74_2 : w69.cell? ⟨gb292, 2, none⟩ = some (.int .i64 0) := (blk_cell BK292.out 2).trans rfl; have hcz74_3 : w69.cell? ⟨gb292, 3, none⟩ = some (.int .i64 0) := (blk_cell BK292.out 3).trans rfl; have hcz74_4 : w69.cell? ⟨gb292, 4, none⟩ = some (.int .i64 0) := (blk_cell BK292.out 4).trans rfl; have hcz74_5 : w69.cell? ⟨gb292, 5, none⟩ = some (.int .i64 0) := (blk_cell BK292.out 5).trans rfl; have hcz74_6 : w69.cell? ⟨gb292, 6, none⟩ = some (.int .i64 0) := (blk_cell BK292.out 6).trans rfl; have hfz74_0 := blk_frozen BK292.out 0; have hfz74_1 := blk_frozen BK292.out 1; have hfz74_2 := blk_frozen BK292.out 2; have hfz74_3 := blk_frozen BK292.out 3; have hfz74_4 := blk_frozen BK292.out 4; have hfz74_5 := blk_frozen BK292.out 5; have hfz74_6 := blk_frozen BK292.out 6; have hnb75 := NB287_289.out; have hnc75 := NB289_287.out; obtain ⟨hcz76_0, hcz76_1, hfz76_0, hfz76_1⟩ := cz2_ BK287; obtain ⟨hcz77_0, hcz77_1, hfz77_0, hfz77_1⟩ := cz2_ BK288) | (go_at_call 29; (with_reducible refine (warrantorref13_Does.calls ((rd_T57 l0_3 a2_0).f2.f0) ((rd_T57 l0_3 a2_0).f2.f1) ((rd_T57 l0_3 a2_0).f2.f2) ((rd_T57 l0_3 a2_0).f2.f3) ((rd_T57 l0_3 a2_0).f2.f4) _ _ l1_1 a2_1 t293 t296 _ ?side1 ?side2 A40.out).mono ?_); (case side1 => exact Kd.C_below HR1_1.out HB_); (case side2 => exact HC1_1.out); rintro e w78 ⟨v294, rfl, ho0, hb⟩; have n_ := a_ (Aside0.mk (Kd.R_lower ho0 (below_size HB_))) (a_ (bc_ #[.string a0_0, .slice A0_1 l0_1.length c0_1, .slice A0_2 l0_2.length c0_2, .slice (some ad291) l0_3.length c0_3] 26 BK286 hb) (a_ (bc_ #[.int .i64 a1_0, .slice A1_1 l1_1.length c1_1] 29 BK287 hb) (a_ (bc_ #[.int .i64 a2_0, .int .i64 a2_1] 31 BK288 hb) (a_ (bc_ #[.int .i64 0, .slice none 0 0] 29 BK289 hb) (a_ (bc_ #[.int .i64 ((rd_T57 l0_3 a2_0).f0), .int .i64 ((rd_T57 l0_3 a2_0).f1), .int .i64 ((rd_T57 l0_3 a2_0).f2.f0), .int .i64 ((rd_T57 l0_3 a2_0).f2.f1), .int .i64 ((rd_T57 l0_3 a2_0).f2.f2), .int .i64 ((rd_T57 l0_3 a2_0).f2.f3), .int .i64 ((rd_T57 l0_3 a2_0).f2.f4)] 57 BK292 hb) (bs_ HB hb)))))); clear BK286 BK287 BK288 BK289 BK292 HB; obtain ⟨HO295, BK286, BK287, BK288, BK289, BK292, HB⟩ := n_; (try clear hb); (try clear hb2); (try clear hk); (try clear hi); (try clear ho0); obtain ⟨hcz79_0, hcz79_1, hfz79_0, hfz79_1⟩ := cz2_ BK289)))
      refine bodyPost_ret (results_ct rfl _ _ gb289 29 #[.int .i64 0, .slice none 0 0] (0, 0) _ rfl (bk2_ BK289.out) Try.underlying29 rfl (by kernel_rfl)) rfl ?_
      exact ⟨_, by first | rfl | (simp [errW_none, errW_some] <;> rfl) | (simp [*, errW_none, errW_some] <;> rfl), by first | exact Kd.R_nil _ _ _ _ _ | exact Kd.N_nil _ _ _ _ _ | exact Kd.V_nil _ _ _ _ _ | exact Kd.Q_nil _ _ _ _ _ | exact Kd.S_nil _ _ _ _ _, HB_⟩
    rw [if_pos c41] at H
    have c41b0 : (t296 == 0) = true := beq_iff_eq.mpr c41
    have c41b1 : (t296 != 0) = false := bne_eq_false_iff_eq.mpr c41
    clear c41
    simp only [Option.some.injEq, Prod.mk.injEq] at H
    obtain ⟨rfl, rfl, rfl⟩ := H
    have hnb42 := NB286_287.out
    have hnc42 := NB287_286.out
    have hnb43 := NB286_288.out
    have hnc43 := NB288_286.out
    have hnb44 := NB286_289.out
    have hnc44 := NB289_286.out
    obtain ⟨hcz45_0, hcz45_1, hcz45_2, hcz45_3, hfz45_0, hfz45_1, hfz45_2, hfz45_3⟩ := cz4_ BK286
    have hnb46 := NB288_287.out
    have hnc46 := NB287_288.out
    have hnb47 := NB288_289.out
    have hnc47 := NB289_288.out
    obtain ⟨hcz48_0, hcz48_1, hfz48_0, hfz48_1⟩ := cz2_ BK288
    have p291 : 0 ≤ (a2_0 : Int) := of_decide_eq_true (by first | (with_reducible assumption) | assumption)
    have q291 : a2_0 < (l0_3.length : Int) := of_decide_eq_true (by first | (with_reducible assumption) | assumption)
    obtain ⟨ad291, e291, hx291_0, hx291_1, hx291_2, hx291_3, hx291_4, hx291_5, hx291_6⟩ := at_T57 HR0_3.out a2_0 p291 q291
    cases e291
    first | (replace hx291_0 := (HB.out.cell (World.block_lt_of_cell? w _ hx291_0)).trans hx291_0) | skip
    first | (replace hx291_1 := (HB.out.cell (World.block_lt_of_cell? w _ hx291_1)).trans hx291_1) | skip
    first | (replace hx291_2 := (HB.out.cell (World.block_lt_of_cell? w _ hx291_2)).trans hx291_2) | skip
    first | (replace hx291_3 := (HB.out.cell (World.block_lt_of_cell? w _ hx291_3)).trans hx291_3) | skip
    first | (replace hx291_4 := (HB.out.cell (World.block_lt_of_cell? w _ hx291_4)).trans hx291_4) | skip
    first | (replace hx291_5 := (HB.out.cell (World.block_lt_of_cell? w _ hx291_5)).trans hx291_5) | skip
    first | (replace hx291_6 := (HB.out.cell (World.block_lt_of_cell? w _ hx291_6)).trans hx291_6) | skip
    replace p291 := eq_true p291
    replace q291 := eq_true q291
    go_wp2_with (first | ((with_reducible refine gate_dst (N := 8) rfl ?_); (try (refine gate_guard (by rfl) ?_; dsimp only)); refine bx_ (N := 8) (cs := #[.int .i64 0, .int .i64 0, .int .i64 0, .int .i64 0, .int .i64 0, .int .i64 0, .int .i64 0]) (t := 57) ?_; intro gb292 hg w49 hbox hb; have n_ := a_ (bb_ BK286 hb) (a_ (bb_ BK287 hb) (a_ (bb_ BK288 hb) (a_ (bb_ BK289 hb) (a_ (bs_ HB hb) (a_ (Aside0.mk hbox) (a_ (gs_ HB hg) (a_ (gs_ HB hg) (a_ (nl_ BK286 hg) (a_ (ng_ BK286 hg) (a_ (nl_ BK287 hg) (a_ (ng_ BK287 hg) (a_ (nl_ BK288 hg) (a_ (ng_ BK288 hg) (a_ (nl_ BK289 hg) (ng_ BK289 hg))))))))))))))); clear BK286 BK287 BK288 BK289 HB; obtain ⟨BK286, BK287, BK288, BK289, HB, BK292, GW292, GE292, NB286_292, NB292_286, NB287_292, NB292_287, NB288_292, NB292_288, NB289_292, NB292_289⟩ := n_; clear hb hbox hg; have hnb50 := NB292_286.out; have hnc50 := NB286_292.out; have hnb51 := NB292_287.out; have hnc51 := NB287_292.out; have hnb52 := NB292_288.out; have hnc52 := NB288_292.out; have hnb53 := NB292_289.out; have hnc53 := NB289_292.out; have hcz54_0 : w49.cell? ⟨gb292, 0, none⟩ = some (.int .i64 0) := (blk_cell BK292.out 0).trans rfl; have hcz54_1 : w49.cell? ⟨gb292, 1, none⟩ = some (.int .i64 0) := (blk_cell BK292.out 1).trans rfl; have hcz54_2 : w49.cell? ⟨gb292, 2, none⟩ = some (.int .i64 0) := (blk_cell BK292.out 2).trans rfl; have hcz54_3 : w49.cell? ⟨gb292, 3, none⟩ = some (.int .i64 0) := (blk_cell BK292.out 3).trans rfl; have hcz54_4 : w49.cell? ⟨gb292, 4, none⟩ = some (.int .i64 0) := (blk_cell BK292.out 4).trans rfl; have hcz54_5 : w49.cell? ⟨gb292, 5, none⟩ = some (.int .i64 0) := (blk_cell BK292.out 5).trans rfl; have hcz54_6 : w49.cell? ⟨gb292, 6, none⟩ = some (.int .i64 0) := (blk_cell BK292.out 6).trans rfl; have hfz54_0 := blk_frozen BK292.out 0; have hfz54_1 := blk_frozen BK292.out 1; have hfz54_2 := blk_frozen BK292.out 2; have hfz54_3 := blk_frozen BK292.out 3; have hfz54_4 := blk_frozen BK292.out 4; have hfz54_5 := blk_frozen BK292.out 5; have hfz54_6 := blk_frozen BK292.out 6; have hnb55 := NB287_289.out; have hnc55 := NB289_287.out; obtain ⟨hcz56_0, hcz56_1, hfz56_0, hfz56_1⟩ := cz2_ BK287; obtain ⟨hcz57_0, hcz57_1, hfz57_0, hfz57_1⟩ := cz2_ BK288) | (go_at_call 29; (with_reducible refine (warrantorref13_Does.calls ((rd_T57 l0_3 a2_0).f2.f0) ((rd_T57 l0_3 a2_0).f2.f1) ((rd_T57 l0_3 a2_0).f2.f2) ((rd_T57 l0_3 a2_0).f2.f3) ((rd_T57 l0_3 a2_0).f2.f4) _ _ l1_1 a2_1 t293 t296 _ ?side1 ?side2 A40.out).mono ?_); (case side1 => exact Kd.C_below HR1_1.out HB_); (case side2 => exact HC1_1.out); rintro e w58 ⟨v294, rfl, ho0, hb⟩; have n_ := a_ (Aside0.mk (Kd.R_lower ho0 (below_size HB_))) (a_ (bc_ #[.string a0_0, .slice A0_1 l0_1.length c0_1, .slice A0_2 l0_2.length c0_2, .slice (some ad291) l0_3.length c0_3] 26 BK286 hb) (a_ (bc_ #[.int .i64 a1_0, .slice A1_1 l1_1.length c1_1] 29 BK287 hb) (a_ (bc_ #[.int .i64 a2_0, .int .i64 a2_1] 31 BK288 hb) (a_ (bc_ #[.int .i64 0, .slice none 0 0] 29 BK289 hb) (a_ (bc_ #[.int .i64 ((rd_T57 l0_3 a2_0).f0), .int .i64 ((rd_T57 l0_3 a2_0).f1), .int .i64 ((rd_T57 l0_3 a2_0).f2.f0), .int .i64 ((rd_T57 l0_3 a2_0).f2.f1), .int .i64 ((rd_T57 l0_3 a2_0).f2.f2), .int .i64 ((rd_T57 l0_3 a2_0).f2.f3), .int .i64 ((rd_T57 l0_3 a2_0).f2.f4)] 57 BK292 hb) (bs_ HB hb)))))); clear BK286 BK287 BK288 BK289 BK292 HB; obtain ⟨HO295, BK286, BK287, BK288, BK289, BK292, HB⟩ := n_; (try clear hb); (try clear hb2); (try clear hk); (try clear hi); (try clear ho0); have hcz59_0 : w58.cell? ⟨gb292, 0, none⟩ = some (.int .i64 ((rd_T57 l0_3 a2_0).f0)) := (blk_cell BK292.out 0).trans rfl; have hcz59_1 : w58.cell? ⟨gb292, 1, none⟩ = some (.int .i64 ((rd_T57 l0_3 a2_0).f1)) := (blk_cell BK292.out 1).trans rfl; have hcz59_2 : w58.cell? ⟨gb292, 2, none⟩ = some (.int .i64 ((rd_T57 l0_3 a2_0).f2.f0)) := (blk_cell BK292.out 2).trans rfl; have hcz59_3 : w58.cell? ⟨gb292, 3, none⟩ = some (.int .i64 ((rd_T57 l0_3 a2_0).f2.f1)) := (blk_cell BK292.out 3).trans rfl; have hcz59_4 : w58.cell? ⟨gb292, 4, none⟩ = some (.int .i64 ((rd_T57 l0_3 a2_0).f2.f2)) := (blk_cell BK292.out 4).trans rfl; have hcz59_5 : w58.cell? ⟨gb292, 5, none⟩ = some (.int .i64 ((rd_T57 l0_3 a2_0).f2.f3)) := (blk_cell BK292.out 5).trans rfl; have hcz59_6 : w58.cell? ⟨gb292, 6, none⟩ = some (.int .i64 ((rd_T57 l0_3 a2_0).f2.f4)) := (blk_cell BK292.out 6).trans rfl; have hfz59_0 := blk_frozen BK292.out 0; have hfz59_1 := blk_frozen BK292.out 1; have hfz59_2 := blk_frozen BK292.out 2; have hfz59_3 := blk_frozen BK292.out 3; have hfz59_4 := blk_frozen BK292.out 4; have hfz59_5 := blk_frozen BK292.out 5; have hfz59_6 := blk_frozen BK292.out 6; obtain ⟨Ao60, co60, eo60⟩ := Kd.R_slice HO295.out; subst eo60; obtain ⟨hcz61_0, hcz61_1, hfz61_0, hfz61_1⟩ := cz2_ BK289))
    repeat (go_quiet (first | ((with_reducible refine gate_dst (N := 8) rfl ?_); (try (refine gate_guard (by rfl) ?_; dsimp only)); refine bx_ (N := 8) (cs := #[.int .i64 0, .int .i64 0, .int .i64 0, .int .i64 0, .int .i64 0, .int .i64 0, .int .i64 0]) (t := 57) ?_; intro gb292 hg w49 hbox hb; have n_ := a_ (bb_ BK286 hb) (a_ (bb_ BK287 hb) (a_ (bb_ BK288 hb) (a_ (bb_ BK289 hb) (a_ (bs_ HB hb) (a_ (Aside0.mk hbox) (a_ (gs_ HB hg) (a_ (gs_ HB hg) (a_ (nl_ BK286 hg) (a_ (ng_ BK286 hg) (a_ (nl_ BK287 hg) (a_ (ng_ BK287 hg) (a_ (nl_ BK288 hg) (a_ (ng_ BK288 hg) (a_ (nl_ BK289 hg) (ng_ BK289 hg))))))))))))))); clear BK286 BK287 BK288 BK289 HB; obtain ⟨BK286, BK287, BK288, BK289, HB, BK292, GW292, GE292, NB286_292, NB292_286, NB287_292, NB292_287, NB288_292, NB292_288, NB289_292, NB292_289⟩ := n_; clear hb hbox hg; have hnb50 := NB292_286.out; have hnc50 := NB286_292.out; have hnb51 := NB292_287.out; have hnc51 := NB287_292.out; have hnb52 := NB292_288.out; have hnc52 := NB288_292.out; have hnb53 := NB292_289.out; have hnc53 := NB289_292.out; have hcz54_0 : w49.cell? ⟨gb292, 0, none⟩ = some (.int .i64 0) := (blk_cell BK292.out 0).trans rfl; have hcz54_1 : w49.cell? ⟨gb292, 1, none⟩ = some (.int .i64 0) := (blk_cell BK292.out 1).trans rfl; have hcz54_2 : w49.cell? ⟨gb292, 2, none⟩ = some (.int .i64 0) := (blk_cell BK292.out 2).trans rfl; have hcz54_3 : w49.cell? ⟨gb292, 3, none⟩ = some (.int .i64 0) := (blk_cell BK292.out 3).trans rfl; have hcz54_4 : w49.cell? ⟨gb292, 4, none⟩ = some (.int .i64 0) := (blk_cell BK292.out 4).trans rfl; have hcz54_5 : w49.cell? ⟨gb292, 5, none⟩ = some (.int .i64 0) := (blk_cell BK292.out 5).trans rfl; have hcz54_6 : w49.cell? ⟨gb292, 6, none⟩ = some (.int .i64 0) := (blk_cell BK292.out 6).trans rfl; have hfz54_0 := blk_frozen BK292.out 0; have hfz54_1 := blk_frozen BK292.out 1; have hfz54_2 := blk_frozen BK292.out 2; have hfz54_3 := blk_frozen BK292.out 3; have hfz54_4 := blk_frozen BK292.out 4; have hfz54_5 := blk_frozen BK292.out 5; have hfz54_6 := blk_frozen BK292.out 6; have hnb55 := NB287_289.out; have hnc55 := NB289_287.out; obtain ⟨hcz56_0, hcz56_1, hfz56_0, hfz56_1⟩ := cz2_ BK287; obtain ⟨hcz57_0, hcz57_1, hfz57_0, hfz57_1⟩ := cz2_ BK288) | (go_at_call 29; (with_reducible refine (warrantorref13_Does.calls ((rd_T57 l0_3 a2_0).f2.f0) ((rd_T57 l0_3 a2_0).f2.f1) ((rd_T57 l0_3 a2_0).f2.f2) ((rd_T57 l0_3 a2_0).f2.f3) ((rd_T57 l0_3 a2_0).f2.f4) _ _ l1_1 a2_1 t293 t296 _ ?side1 ?side2 A40.out).mono ?_); (case side1 => exact Kd.C_below HR1_1.out HB_); (case side2 => exact HC1_1.out); rintro e w58 ⟨v294, rfl, ho0, hb⟩; have n_ := a_ (Aside0.mk (Kd.R_lower ho0 (below_size HB_))) (a_ (bc_ #[.string a0_0, .slice A0_1 l0_1.length c0_1, .slice A0_2 l0_2.length c0_2, .slice (some ad291) l0_3.length c0_3] 26 BK286 hb) (a_ (bc_ #[.int .i64 a1_0, .slice A1_1 l1_1.length c1_1] 29 BK287 hb) (a_ (bc_ #[.int .i64 a2_0, .int .i64 a2_1] 31 BK288 hb) (a_ (bc_ #[.int .i64 0, .slice none 0 0] 29 BK289 hb) (a_ (bc_ #[.int .i64 ((rd_T57 l0_3 a2_0).f0), .int .i64 ((rd_T57 l0_3 a2_0).f1), .int .i64 ((rd_T57 l0_3 a2_0).f2.f0), .int .i64 ((rd_T57 l0_3 a2_0).f2.f1), .int .i64 ((rd_T57 l0_3 a2_0).f2.f2), .int .i64 ((rd_T57 l0_3 a2_0).f2.f3), .int .i64 ((rd_T57 l0_3 a2_0).f2.f4)] 57 BK292 hb) (bs_ HB hb)))))); clear BK286 BK287 BK288 BK289 BK292 HB; obtain ⟨HO295, BK286, BK287, BK288, BK289, BK292, HB⟩ := n_; (try clear hb); (try clear hb2); (try clear hk); (try clear hi); (try clear ho0); have hcz59_0 : w58.cell? ⟨gb292, 0, none⟩ = some (.int .i64 ((rd_T57 l0_3 a2_0).f0)) := (blk_cell BK292.out 0).trans rfl; have hcz59_1 : w58.cell? ⟨gb292, 1, none⟩ = some (.int .i64 ((rd_T57 l0_3 a2_0).f1)) := (blk_cell BK292.out 1).trans rfl; have hcz59_2 : w58.cell? ⟨gb292, 2, none⟩ = some (.int .i64 ((rd_T57 l0_3 a2_0).f2.f0)) := (blk_cell BK292.out 2).trans rfl; have hcz59_3 : w58.cell? ⟨gb292, 3, none⟩ = some (.int .i64 ((rd_T57 l0_3 a2_0).f2.f1)) := (blk_cell BK292.out 3).trans rfl; have hcz59_4 : w58.cell? ⟨gb292, 4, none⟩ = some (.int .i64 ((rd_T57 l0_3 a2_0).f2.f2)) := (blk_cell BK292.out 4).trans rfl; have hcz59_5 : w58.cell? ⟨gb292, 5, none⟩ = some (.int .i64 ((rd_T57 l0_3 a2_0).f2.f3)) := (blk_cell BK292.out 5).trans rfl; have hcz59_6 : w58.cell? ⟨gb292, 6, none⟩ = some (.int .i64 ((rd_T57 l0_3 a2_0).f2.f4)) := (blk_cell BK292.out 6).trans rfl; have hfz59_0 := blk_frozen BK292.out 0; have hfz59_1 := blk_frozen BK292.out 1; have hfz59_2 := blk_frozen BK292.out 2; have hfz59_3 := blk_frozen BK292.out 3; have hfz59_4 := blk_frozen BK292.out 4; have hfz59_5 := blk_frozen BK292.out 5; have hfz59_6 := blk_frozen BK292.out 6; obtain ⟨Ao60, co60, eo60⟩ := Kd.R_slice HO295.out; subst eo60; obtain ⟨hcz61_0, hcz61_1, hfz61_0, hfz61_1⟩ := cz2_ BK289)); try go_wp2_with (first | ((with_reducible refine gate_dst (N := 8) rfl ?_); (try (refine gate_guard (by rfl) ?_; dsimp only)); refine bx_ (N := 8) (cs := #[.int .i64 0, .int .i64 0, .int .i64 0, .int .i64 0, .int .i64 0, .int .i64 0, .int .i64 0]) (t := 57) ?_; intro gb292 hg w49 hbox hb; have n_ := a_ (bb_ BK286 hb) (a_ (bb_ BK287 hb) (a_ (bb_ BK288 hb) (a_ (bb_ BK289 hb) (a_ (bs_ HB hb) (a_ (Aside0.mk hbox) (a_ (gs_ HB hg) (a_ (gs_ HB hg) (a_ (nl_ BK286 hg) (a_ (ng_ BK286 hg) (a_ (nl_ BK287 hg) (a_ (ng_ BK287 hg) (a_ (nl_ BK288 hg) (a_ (ng_ BK288 hg) (a_ (nl_ BK289 hg) (ng_ BK289 hg))))))))))))))); clear BK286 BK287 BK288 BK289 HB; obtain ⟨BK286, BK287, BK288, BK289, HB, BK292, GW292, GE292, NB286_292, NB292_286, NB287_292, NB292_287, NB288_292, NB292_288, NB289_292, NB292_289⟩ := n_; clear hb hbox hg; have hnb50 := NB292_286.out; have hnc50 := NB286_292.out; have hnb51 := NB292_287.out; have hnc51 := NB287_292.out; have hnb52 := NB292_288.out; have hnc52 := NB288_292.out; have hnb53 := NB292_289.out; have hnc53 := NB289_292.out; have hcz54_0 : w49.cell? ⟨gb292, 0, none⟩ = some (.int .i64 0) := (blk_cell BK292.out 0).trans rfl; have hcz54_1 : w49.cell? ⟨gb292, 1, none⟩ = some (.int .i64 0) := (blk_cell BK292.out 1).trans rfl; have hcz54_2 : w49.cell? ⟨gb292, 2, none⟩ = some (.int .i64 0) := (blk_cell BK292.out 2).trans rfl; have hcz54_3 : w49.cell? ⟨gb292, 3, none⟩ = some (.int .i64 0) := (blk_cell BK292.out 3).trans rfl; have hcz54_4 : w49.cell? ⟨gb292, 4, none⟩ = some (.int .i64 0) := (blk_cell BK292.out 4).trans rfl; have hcz54_5 : w49.cell? ⟨gb292, 5, none⟩ = some (.int .i64 0) := (blk_cell BK292.out 5).trans rfl; have hcz54_6 : w49.cell? ⟨gb292, 6, none⟩ = some (.int .i64 0) := (blk_cell BK292.out 6).trans rfl; have hfz54_0 := blk_frozen BK292.out 0; have hfz54_1 := blk_frozen BK292.out 1; have hfz54_2 := blk_frozen BK292.out 2; have hfz54_3 := blk_frozen BK292.out 3; have hfz54_4 := blk_frozen BK292.out 4; have hfz54_5 := blk_frozen BK292.out 5; have hfz54_6 := blk_frozen BK292.out 6; have hnb55 := NB287_289.out; have hnc55 := NB289_287.out; obtain ⟨hcz56_0, hcz56_1, hfz56_0, hfz56_1⟩ := cz2_ BK287; obtain ⟨hcz57_0, hcz57_1, hfz57_0, hfz57_1⟩ := cz2_ BK288) | (go_at_call 29; (with_reducible refine (warrantorref13_Does.calls ((rd_T57 l0_3 a2_0).f2.f0) ((rd_T57 l0_3 a2_0).f2.f1) ((rd_T57 l0_3 a2_0).f2.f2) ((rd_T57 l0_3 a2_0).f2.f3) ((rd_T57 l0_3 a2_0).f2.f4) _ _ l1_1 a2_1 t293 t296 _ ?side1 ?side2 A40.out).mono ?_); (case side1 => exact Kd.C_below HR1_1.out HB_); (case side2 => exact HC1_1.out); rintro e w58 ⟨v294, rfl, ho0, hb⟩; have n_ := a_ (Aside0.mk (Kd.R_lower ho0 (below_size HB_))) (a_ (bc_ #[.string a0_0, .slice A0_1 l0_1.length c0_1, .slice A0_2 l0_2.length c0_2, .slice (some ad291) l0_3.length c0_3] 26 BK286 hb) (a_ (bc_ #[.int .i64 a1_0, .slice A1_1 l1_1.length c1_1] 29 BK287 hb) (a_ (bc_ #[.int .i64 a2_0, .int .i64 a2_1] 31 BK288 hb) (a_ (bc_ #[.int .i64 0, .slice none 0 0] 29 BK289 hb) (a_ (bc_ #[.int .i64 ((rd_T57 l0_3 a2_0).f0), .int .i64 ((rd_T57 l0_3 a2_0).f1), .int .i64 ((rd_T57 l0_3 a2_0).f2.f0), .int .i64 ((rd_T57 l0_3 a2_0).f2.f1), .int .i64 ((rd_T57 l0_3 a2_0).f2.f2), .int .i64 ((rd_T57 l0_3 a2_0).f2.f3), .int .i64 ((rd_T57 l0_3 a2_0).f2.f4)] 57 BK292 hb) (bs_ HB hb)))))); clear BK286 BK287 BK288 BK289 BK292 HB; obtain ⟨HO295, BK286, BK287, BK288, BK289, BK292, HB⟩ := n_; (try clear hb); (try clear hb2); (try clear hk); (try clear hi); (try clear ho0); have hcz59_0 : w58.cell? ⟨gb292, 0, none⟩ = some (.int .i64 ((rd_T57 l0_3 a2_0).f0)) := (blk_cell BK292.out 0).trans rfl; have hcz59_1 : w58.cell? ⟨gb292, 1, none⟩ = some (.int .i64 ((rd_T57 l0_3 a2_0).f1)) := (blk_cell BK292.out 1).trans rfl; have hcz59_2 : w58.cell? ⟨gb292, 2, none⟩ = some (.int .i64 ((rd_T57 l0_3 a2_0).f2.f0)) := (blk_cell BK292.out 2).trans rfl; have hcz59_3 : w58.cell? ⟨gb292, 3, none⟩ = some (.int .i64 ((rd_T57 l0_3 a2_0).f2.f1)) := (blk_cell BK292.out 3).trans rfl; have hcz59_4 : w58.cell? ⟨gb292, 4, none⟩ = some (.int .i64 ((rd_T57 l0_3 a2_0).f2.f2)) := (blk_cell BK292.out 4).trans rfl; have hcz59_5 : w58.cell? ⟨gb292, 5, none⟩ = some (.int .i64 ((rd_T57 l0_3 a2_0).f2.f3)) := (blk_cell BK292.out 5).trans rfl; have hcz59_6 : w58.cell? ⟨gb292, 6, none⟩ = some (.int .i64 ((rd_T57 l0_3 a2_0).f2.f4)) := (blk_cell BK292.out 6).trans rfl; have hfz59_0 := blk_frozen BK292.out 0; have hfz59_1 := blk_frozen BK292.out 1; have hfz59_2 := blk_frozen BK292.out 2; have hfz59_3 := blk_frozen BK292.out 3; have hfz59_4 := blk_frozen BK292.out 4; have hfz59_5 := blk_frozen BK292.out 5; have hfz59_6 := blk_frozen BK292.out 6; obtain ⟨Ao60, co60, eo60⟩ := Kd.R_slice HO295.out; subst eo60; obtain ⟨hcz61_0, hcz61_1, hfz61_0, hfz61_1⟩ := cz2_ BK289)))
    refine bodyPost_ret (results_ct rfl _ _ gb289 29 #[.int .i64 ((rd_T57 l0_3 a2_0).f1), .slice Ao60 t293.length co60] (0, 0) _ rfl (bk2_ BK289.out) Try.underlying29 rfl (by kernel_rfl)) rfl ?_
    exact ⟨_, by first | rfl | (simp [errW_none, errW_some] <;> rfl) | (simp [*, errW_none, errW_some] <;> rfl), by (with_reducible repeat (first | apply Kd.R_alloc | apply Kd.R_drewN | apply Kd.R_drew)); exact Kd.R_mono (Kd.R_far (p := ⟨gb289, 1, none⟩) (Kd.R_far (p := ⟨gb289, 0, none⟩) (Kd.R_types HO295.out BK289.out (by decide)) (fun _ hk => hk.2) (.int .i64 ((rd_T57 l0_3 a2_0).f1))) (fun _ hk => hk.2) (.slice Ao60 t293.length co60)) (fun _ hk => trivial), HB_⟩
end Go.Proofs.Ytpcpbeklaibdfaa.C
