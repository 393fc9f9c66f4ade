import Derived.Test.YtpcpbeklaibdfaaCx0
import Derived.Test.YtpcpbeklaibdfaaCx4
import Derived.Test.YtpcpbeklaibdfaaCx5
import Derived.Test.YtpcpbeklaibdfaaCx7
namespace Go.Proofs.Ytpcpbeklaibdfaa.C
open Go.RowKit Go.Proofs.YtpcpbeklaibdfaaW.PrintWords Go.Proofs.YtpcpbeklaibdfaaW.PrintLast Go.Proofs.YtpcpbeklaibdfaaW.PrintMore
attribute [local go_sem] max2_int min2_int max_two min_two max_three min_three max_four min_four   -- for this text's walks alone
set_option linter.unusedVariables false
set_option linter.unusedSimpArgs false
/-- The names that no variable may have. -/
def wordsB : List (List UInt8) := [[115, 107, 105, 112], [97, 110, 121], [108, 105, 109, 105, 116], [99, 104, 101, 99, 107], [105, 110, 102]]
def vrF : List (List UInt8) → List ByteArray → Bool
  | _, [] => true
  | pre, s :: r => if nmB plainB s 32 = true ∧ ¬ s.data.toList ∈ pre then vrF (pre ++ [s.data.toList]) r else false
def varsB (l : List ByteArray) : Bool := vrF wordsB l && decide ((l.length : Int) ≤ 8)
theorem prog_vars.law : Go.Maps.Keyed Try.prog 9 := Go.Maps.string_keyed Try.underlying9
theorem prog_vars.zero (w : World) : (zeroValue 3).run Try.prog w = .ok (.int .i64 0) w := by kernel_rfl
/-- How often a key is told. -/
def cntB (pre : List (List UInt8)) : Lit → Int
  | .string u => (pre.count u : Int)
  | _ => 0
theorem cntB_same (pre : List (List UInt8)) (u : List UInt8) : cntB (pre ++ [u]) (.string u) = cntB pre (.string u) + 1 := by simp [cntB]
theorem cntB_other (pre : List (List UInt8)) (u : List UInt8) (kl : Lit) (h : kl ≠ .string u) : cntB (pre ++ [u]) kl = cntB pre kl := by
  unfold cntB
  cases kl with
  | string v =>
    have : ¬ u = v := fun e => h (by rw [e])
    simp [List.count_append, List.count_singleton, this]
  | _ => rfl
theorem cntB_le (pre : List (List UInt8)) (kl : Lit) : 0 ≤ cntB pre kl ∧ cntB pre kl ≤ pre.length := by
  unfold cntB
  cases kl with
  | string v => exact ⟨Int.natCast_nonneg _, Int.ofNat_le.mpr List.count_le_length⟩
  | _ => exact ⟨Int.le_refl _, Int.natCast_nonneg _⟩
theorem cntB_gt (pre : List (List UInt8)) (u : List UInt8) : (cntB (pre ++ [u]) (.string u) > 1) ↔ u ∈ pre := by
  rw [cntB_same]
  have : 0 < pre.count u ↔ u ∈ pre := List.count_pos_iff
  rw [← this]
  show ((pre.count u : Nat) : Int) + 1 > 1 ↔ 0 < pre.count u
  omega
theorem cntB_nil : (fun _ => 0) = cntB [] := by
  funext kl
  cases kl <;> simp [cntB]
theorem seen_add {P : Program} {K E : TypeId} {w : World} {b n : Nat} {pre : List (List UInt8)} {ops : Array Oper} {rest : List Oper} {o : Oper} {a : Act} {Q : Exit → Act → World → Prop} (hg : o.guard = none) (m x v : Operand) (t : TypeId) (hop : o.op = Op.mapUpdate t m x v ∨ o.op = Op.insert t m x v)
    (hk : P.underlying K = some .string) (ht : P.underlying t = some (.map K E)) (he : P.underlying E = some (.int .i64)) (s : ByteArray) (hs : s.size ≤ maxLen) (c : Int)
    (hm : a.eval m = .map (some b)) (hown : Aside0 (seen P K E w b n (cntB pre))) (hn : n < maxLen) (hp : pre.length < 1000000000) (hx : a.eval x = .string s) (hv : a.eval v = .int .i64 c) (hc : c = cntB pre (.string s.data.toList) + 1)
    (hK : ∀ w', Aside0 (seen P K E w' b (n + 1) (cntB (pre ++ [s.data.toList]))) → w.grownBy w' (some b) → wpList P ops Q rest (a.put o.dst undef) w') : wpList P ops Q (o :: rest) a w := by
  subst hc
  have hb := cntB_le pre (.string s.data.toList)
  exact seen_put hg m x v t hop (Go.Maps.string_keyed hk) ht he (.string s.data.toList) _ _ hm hown hn (.string s) hx (Go.WideMaps.keyOf_string_mk hk hs) trivial hv (WalkArith.wf_i64 (by omega)) (cntB_same _ _) (fun kl' h => cntB_other _ _ _ h) hK
def preB (l : List ByteArray) (i : Nat) : List (List UInt8) := wordsB ++ (l.take i).map (fun s => s.data.toList)
theorem preB_succ (l : List ByteArray) (i : Nat) (h : i < l.length) : preB l (i + 1) = preB l i ++ [l[i].data.toList] := by
  unfold preB
  rw [List.take_add_one, List.getElem?_eq_getElem h, List.map_append]
  simp only [Option.toList_some, List.map_cons, List.map_nil, List.append_assoc]
theorem preB_len (l : List ByteArray) (i : Nat) : (preB l i).length ≤ 5 + i := by
  unfold preB
  simp [wordsB]
  omega
theorem prog_vars.rd (l : List ByteArray) (i : Nat) (h : i < l.length) : rdOf ByteArray.empty l (i : Int) = l[i] := by simp [rdOf, List.getD_eq_getElem?_getD, List.getElem?_eq_getElem h]
set_option maxHeartbeats 8000000 in
set_option maxRecDepth 100000 in
theorem prog_vars.walk (A0 : Option Addr) (c0 : Nat) (l0 : List ByteArray) (w : World) (hr0 : Kd.C Kd.string w A0 l0.length l0) (hc0 : l0.length ≤ c0) (hlen : l0.length ≤ 1000000) (hsz : ∀ s ∈ l0, s.size ≤ 1000000) :
    Calls Try.prog 38 #[.slice A0 l0.length c0] w fun e w' => e = .returned (.bool (varsB l0)) ∧ Below w.heap.size w w' := by
  have hmm := @run_makeMap Try.prog
  have hu := Try.underlying9
  have HR := Aside0.mk hr0
  have HS := Aside0.mk hsz
  have HL := Aside0.mk hlen
  clear hr0 hsz
  generalize hR : varsB l0 = R
  have HV := Aside0.mk hR
  clear hR
  have HB := Aside0.mk ((Below.refl w.heap.size w).alloc (Nat.le_refl _) (.map #[] 0))
  have HM := Aside0.mk (seen_made (P := Try.prog) (K := 9) (E := 3) w)
  rw [cntB_nil] at HM
  go_enter Try.func38, Try.ntmps38
  go_wp2_with (first | ((with_reducible refine gate_ins rfl ?_); refine seen_add rfl _ _ _ 89 (.inr rfl) Try.underlying9 Try.underlying89 Try.underlying3 _ ?hs _ rfl HM ?hn ?hp rfl rfl ?hc ?_; (case hs => decide); (case hn => decide); (case hp => decide); (case hc => rfl); intro w1 hm1 hg1; have n_ := a_ hm1 (Aside0.mk (HB.out.grown hg1 HB.out.size (fun j hj => by cases hj; exact Nat.le_refl _))); clear HM HB hm1 hg1; obtain ⟨HM, HB⟩ := n_))
  have HM2 : Aside0 (seen Try.prog 9 3 w1 w.heap.size 5 (cntB (preB l0 0))) := HM
  clear HM
  have hm : l0.length ≤ 9223372036854775807 := Nat.le_trans HL.out (by decide)
  go_loopg [10] l0.length (fun gg v10 wr => ∃ (i n : Nat), i ≤ l0.length ∧ v10 = .int .i64 i ∧ Aside0 (n ≤ 5 + i) ∧ Aside0 (l0.length - i ≤ gg) ∧ Aside0 (seen Try.prog 9 3 wr w.heap.size n (cntB (preB l0 i))) ∧ Aside0 (vrF (preB l0 i) (l0.drop i) = vrF wordsB l0) ∧ Aside0 (Below w.heap.size w wr))
  case atStart => exact ⟨0, 5, Nat.zero_le _, rfl, ⟨Nat.le_refl _⟩, ⟨by omega⟩, HM2, ⟨rfl⟩, HB⟩
  case round =>
    clear HM2 HB
    obtain ⟨i, n, hi, rfl, HN, HG, HM, HD, HB⟩ := hrel
    by_cases hlt : i < l0.length
    · have hltz : (i : Int) < (l0.length : Int) := by omega
      have hi0 : (0 : Int) ≤ (i : Int) := Int.natCast_nonneg _
      obtain ⟨ad, rfl, hcell⟩ := Kd.at_string (Kd.C_below HR.out HB.out) (i : Int) hi0 hltz
      rw [Int.toNat_natCast, prog_vars.rd l0 i hlt] at hcell
      have HQ := Aside0.mk (show vrF (preB l0 i) (l0.drop i) = if nmB plainB l0[i] 32 = true ∧ ¬ l0[i].data.toList ∈ preB l0 i then vrF (preB l0 (i + 1)) (l0.drop (i + 1)) else false by rw [List.drop_eq_getElem_cons hlt, vrF, preB_succ l0 i hlt])
      have HSX := Aside0.mk (show l0[i].size ≤ maxLen from Nat.le_trans (HS.out l0[i] (List.getElem_mem hlt)) (by decide))
      have HP := Aside0.mk (preB_succ l0 i hlt)
      have hpl := preB_len l0 i
      have hll := HL.out
      have hnn := HN.out
      have HN1 := Aside0.mk (show n < maxLen from Nat.lt_of_le_of_lt (show n ≤ 2000000 by omega) (by decide))
      have HP1 := Aside0.mk (show (preB l0 i).length < 1000000000 by omega)
      generalize l0[i] = s at hcell HQ HSX HP
      have hcb := cntB_le (preB l0 i) (.string s.data.toList)
      have HWR := Aside0.mk (show wrap64 (cntB (preB l0 i) (.string s.data.toList) + 1) = cntB (preB l0 i) (.string s.data.toList) + 1 by unfold wrap64; omega)
      have hgt := cntB_gt (preB l0 i) s.data.toList
      clear hcb hpl hll hnn
      cases hnm : nmB plainB s 32 with
      | false =>
        rw [hnm] at HQ
        have HNM := Aside0.mk hnm
        clear hnm hgt
        go_wp2_with (first | ((with_reducible refine gate_look rfl ?_); (try (refine gate_guard (by rfl) ?_; dsimp only)); refine seen_look rfl _ _ 89 rfl prog_vars.law Try.underlying89 Try.underlying3 (prog_vars.zero _) (.string s.data.toList) rfl HM (.string s) rfl (Go.WideMaps.keyOf_string_mk Try.underlying9 HSX.out) ?_) | ((with_reducible refine gate_upd rfl ?_); refine seen_add rfl _ _ _ 89 (.inl rfl) Try.underlying9 Try.underlying89 Try.underlying3 s HSX.out _ rfl HM ?hn ?hp rfl rfl ?hc ?_; (case hn => exact HN1.out); (case hp => exact HP1.out); (case hc => first | rfl | exact HWR.out); intro w1 hm1 hg1; have n_ := a_ hm1 (Aside0.mk (HB.out.grown hg1 HB.out.size (fun j hj => by cases hj; exact Nat.le_refl _))); clear HM HB hm1 hg1; obtain ⟨HM, HB⟩ := n_) | ((with_reducible refine gate_callee (f := 37) rfl ?_); refine goesL_ (some 19) rfl rfl Try.func37 (by kernel_rfl) rfl #[.string s] rfl MP_ ?_; refine (prog_name.walk s _).mono ?_; rintro e w5 ⟨he, hb⟩; rw [HNM.out] at he; subst he; refine ⟨_, rfl, ?_⟩; have n_ := a_ (Aside0.mk (HM.out.below hb)) (bs_ HB hb); clear HM HB hb; obtain ⟨HM, HB⟩ := n_))
        go_ret
        refine ⟨?_, HB.out⟩
        have hd := HQ.out
        rw [if_neg (by simp)] at hd
        rw [← HV.out, varsB, ← HD.out, hd]
        rfl
      | true =>
        rw [hnm] at HQ
        have HNM := Aside0.mk hnm
        clear hnm
        by_cases hin : s.data.toList ∈ preB l0 i
        · have hgt1 := hgt.mpr hin
          have HD2 := Aside0.mk (show false = vrF wordsB l0 by rw [← HD.out, HQ.out, if_neg (fun h => h.2 hin)])
          have hgt2 : 1 < cntB (preB l0 i ++ [s.data.toList]) (.string s.data.toList) := hgt1
          clear hgt hin HQ HD
          go_wp2_with (first | ((with_reducible refine gate_look rfl ?_); (try (refine gate_guard (by rfl) ?_; dsimp only)); refine seen_look rfl _ _ 89 rfl prog_vars.law Try.underlying89 Try.underlying3 (prog_vars.zero _) (.string s.data.toList) rfl HM (.string s) rfl (Go.WideMaps.keyOf_string_mk Try.underlying9 HSX.out) ?_) | ((with_reducible refine gate_upd rfl ?_); refine seen_add rfl _ _ _ 89 (.inl rfl) Try.underlying9 Try.underlying89 Try.underlying3 s HSX.out _ rfl HM ?hn ?hp rfl rfl ?hc ?_; (case hn => exact HN1.out); (case hp => exact HP1.out); (case hc => first | rfl | exact HWR.out); intro w1 hm1 hg1; have n_ := a_ hm1 (Aside0.mk (HB.out.grown hg1 HB.out.size (fun j hj => by cases hj; exact Nat.le_refl _))); clear HM HB hm1 hg1; obtain ⟨HM, HB⟩ := n_) | ((with_reducible refine gate_callee (f := 37) rfl ?_); refine goesL_ (some 19) rfl rfl Try.func37 (by kernel_rfl) rfl #[.string s] rfl MP_ ?_; refine (prog_name.walk s _).mono ?_; rintro e w5 ⟨he, hb⟩; rw [HNM.out] at he; subst he; refine ⟨_, rfl, ?_⟩; have n_ := a_ (Aside0.mk (HM.out.below hb)) (bs_ HB hb); clear HM HB hb; obtain ⟨HM, HB⟩ := n_))
          go_ret
          refine ⟨?_, HB.out⟩
          rw [← HV.out, varsB, ← HD2.out]
          rfl
        · have hgt1 : ¬ 1 < cntB (preB l0 i ++ [s.data.toList]) (.string s.data.toList) := fun h => hin (hgt.mp h)
          have HD2 := Aside0.mk (show vrF (preB l0 (i + 1)) (l0.drop (i + 1)) = vrF wordsB l0 by rw [← HD.out, HQ.out, if_pos ⟨rfl, hin⟩])
          clear hgt hin HQ HD
          go_wp2_with (first | ((with_reducible refine gate_look rfl ?_); (try (refine gate_guard (by rfl) ?_; dsimp only)); refine seen_look rfl _ _ 89 rfl prog_vars.law Try.underlying89 Try.underlying3 (prog_vars.zero _) (.string s.data.toList) rfl HM (.string s) rfl (Go.WideMaps.keyOf_string_mk Try.underlying9 HSX.out) ?_) | ((with_reducible refine gate_upd rfl ?_); refine seen_add rfl _ _ _ 89 (.inl rfl) Try.underlying9 Try.underlying89 Try.underlying3 s HSX.out _ rfl HM ?hn ?hp rfl rfl ?hc ?_; (case hn => exact HN1.out); (case hp => exact HP1.out); (case hc => first | rfl | exact HWR.out); intro w1 hm1 hg1; have n_ := a_ hm1 (Aside0.mk (HB.out.grown hg1 HB.out.size (fun j hj => by cases hj; exact Nat.le_refl _))); clear HM HB hm1 hg1; obtain ⟨HM, HB⟩ := n_) | ((with_reducible refine gate_callee (f := 37) rfl ?_); refine goesL_ (some 19) rfl rfl Try.func37 (by kernel_rfl) rfl #[.string s] rfl MP_ ?_; refine (prog_name.walk s _).mono ?_; rintro e w5 ⟨he, hb⟩; rw [HNM.out] at he; subst he; refine ⟨_, rfl, ?_⟩; have n_ := a_ (Aside0.mk (HM.out.below hb)) (bs_ HB hb); clear HM HB hb; obtain ⟨HM, HB⟩ := n_))
          go_roundg (l0.length - (i + 1))
          case measure => have := HG.out; omega
          case rel =>
            refine ⟨i + 1, n + 1, by omega, by go_num, ⟨by have := HN.out; omega⟩, ⟨by omega⟩, ?_, HD2, HB⟩
            rw [HP.out]
            exact HM
    · have hltz : ¬ (i : Int) < (l0.length : Int) := by omega
      have HD2 := Aside0.mk (show true = vrF wordsB l0 by rw [← HD.out, List.drop_of_length_le (by omega), vrF])
      clear HD
      by_cases h8 : (l0.length : Int) ≤ 8
      · have H8 := Aside0.mk h8
        go_wp2
        go_ret
        exact ⟨by rw [← HV.out, varsB, ← HD2.out, decide_eq_true H8.out]; rfl, HB.out⟩
      · have H8 := Aside0.mk h8
        go_wp2
        go_ret
        exact ⟨by rw [← HV.out, varsB, ← HD2.out, decide_eq_false (Int.not_le.mpr H8.out)]; rfl, HB.out⟩
end Go.Proofs.Ytpcpbeklaibdfaa.C
