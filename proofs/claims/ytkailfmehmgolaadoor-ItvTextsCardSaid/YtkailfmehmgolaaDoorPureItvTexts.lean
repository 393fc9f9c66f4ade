/- The text of any interval, parsed as it was; the interval of any text, which has this text: the walk's pure function answers true for all inputs. -/
import Derived.Test.YtkailfmehmgolaaDoorRx28
import Derived.Test.YtkailfmehmgolaaDoorItvTx
import Derived.Test.YtkailfmehmgolaaDoorItvRef
import Derived.Test.YtkailfmehmgolaaDoorItvLaw
namespace Go.Proofs.YtkailfmehmgolaaDoor.ItvTx
open Go.RowKit Go.Lib Go.Proofs.YtkailfmehmgolaaDoor.R Go.Proofs.YtkailfmehmgolaaDoorW.PrintWords Go.Proofs.YtkailfmehmgolaaDoorW.PrintLast
open ValEv (showB parseB parseR clp parse_f show_f)
theorem pl_rng (a b : Int) : rng (ItvEv.pl a b).1 ∧ rng (ItvEv.pl a b).2 := by
  have hr := (ItvEv.wf_pl a b).rng
  exact ⟨⟨by omega, by omega⟩, ⟨by omega, by omega⟩⟩
theorem showI_ev (a b : Int) : ValEv.Ev (fun k => warrantorref07_Show.f k a b) (showI a b) := by
  obtain ⟨h1, h2⟩ := pl_rng a b
  have l1 := L_len _ h1
  have l2 := L_len _ h2
  obtain ⟨k1, e1⟩ := ValEv.refShow_ev _ h1.1 h1.2
  obtain ⟨k2, e2⟩ := ValEv.refShow_ev _ h2.1 h2.2
  refine ⟨k1 + k2 + 1, fun k hk => ?_⟩
  obtain ⟨j, rfl⟩ : ∃ j, k = j + 1 := ⟨k - 1, by omega⟩
  show warrantorref07_Show.f (j + 1) a b = _
  unfold warrantorref07_Show.f showI
  simp only [ItvEv.refPlain_f, Option.bind_some, ItvEv.refEmpty_f j (ItvEv.wf_pl a b)]
  split
  · rfl
  · have f1 : warrantorref06_Show.f (j + 1) (ItvEv.pl a b).1 = some (showB (ItvEv.pl a b).1) := e1 (j + 1) (by omega)
    have f2 : warrantorref06_Show.f (j + 1) (ItvEv.pl a b).2 = some (showB (ItvEv.pl a b).2) := e2 (j + 1) (by omega)
    have s1 : (showB (ItvEv.pl a b).1).size = (L (ItvEv.pl a b).1).length := bl_size _ 0
    have s2 : (showB (ItvEv.pl a b).2).size = (L (ItvEv.pl a b).2).length := bl_size _ 0
    simp only [f1, f2, Option.bind_some, ByteArray.size_append, s1, s2, show (⟨#[91]⟩ : ByteArray).size = 1 from rfl, show (⟨#[44, 32]⟩ : ByteArray).size = 2 from rfl]
    rw [if_pos (by omega), if_pos (by omega), if_pos (by omega), if_pos (by omega)]
    rfl
theorem l0_end (k : Nat) (s : ByteArray) (hs : s.size ≤ 1000) (i : Nat) (h : ¬ i + 1 < s.size) (hi : i ≤ s.size + 1) : warrantorref07_Parse.l0 (k + 1) s (i : Int) = some (0, 0, false) := by
  rw [warrantorref07_Parse.l0, ValEv.w64 (x := (i : Int) + 1) (by omega) (by omega), if_neg (by omega)]
theorem l0_at (k : Nat) (s : ByteArray) (hs : s.size ≤ 1000) (i : Nat) (h1 : 1 ≤ i) (h2 : i + 1 < s.size) : warrantorref07_Parse.l0 (k + 1) s (i : Int) = if bt s (i : Int) = 44 then (warrantorref06_Parse.f k (s.extract 1 i)).bind fun p => if i + 2 > s.size - 1 then some (0, 0, false) else (warrantorref06_Parse.f k (s.extract (i + 2) (s.size - 1))).bind fun q => if p.2 = true then (if q.2 = true then (warrantorref07_Show.f k p.1 q.1).bind fun t => if t.toList = s.toList then some (p.1, q.1, true) else some (0, 0, false) else some (0, 0, false)) else some (0, 0, false) else warrantorref07_Parse.l0 k s ((i + 1 : Nat) : Int) := by
  rw [warrantorref07_Parse.l0, ValEv.w64 (x := (i : Int) + 1) (by omega) (by omega), ValEv.w64 (x := (i : Int) + 2) (by omega) (by omega), ValEv.w64 (x := (s.size : Int) - 1) (by omega) (by omega)]
  rw [if_pos (by omega), if_pos (by omega), if_pos (by omega)]
  split
  · rw [if_pos (by omega), if_pos (by omega), Int.toNat_natCast]
    congr 1
    funext p
    by_cases h3 : i + 2 > s.size - 1
    · rw [if_pos h3, if_pos (by omega)]
    · rw [if_neg h3, if_neg (by omega), if_pos (by omega), if_pos (by omega), if_pos (by omega), show ((i : Int) + 2).toNat = i + 2 by omega, show ((s.size : Int) - 1).toNat = s.size - 1 by omega]
  · rfl
theorem showI_good {c d : Int} (hc : rng c) (hd : rng d) : showI c d = if c ≤ d then bl c d else NONE := by
  have h1 := hc.1
  have h2 := hc.2
  have h3 := hd.1
  have h4 := hd.2
  unfold showI
  by_cases h : c ≤ d
  · have e : ItvEv.pl c d = (c, d) := ItvEv.pl_self (p := (c, d)) (.inr ⟨h1, h, h4⟩)
    rw [e, if_pos h, ItvEv.isN_some (p := (c, d)) h, if_neg Bool.false_ne_true]
  · have e : ItvEv.pl c d = (1, 0) := by unfold ItvEv.pl; rw [if_pos (by omega)]
    rw [e, if_neg h]
    rfl
theorem bad_loop (s : ByteArray) (hs : s.size ≤ 1000) (hn : s.toList ≠ [110, 111, 110, 101]) (hb : ∀ c d, ¬ Good s.data.toList c d) : ∀ (m i : Nat), i + m = s.size + 1 → 1 ≤ i → ValEv.Ev (fun k => warrantorref07_Parse.l0 k s (i : Int)) (0, 0, false) := by
  intro m
  induction m with
  | zero => intro i him h1; exact ValEv.Ev.succ (ValEv.Ev.one fun k => l0_end k s hs i (by omega) (by omega))
  | succ m ih =>
    intro i him h1
    by_cases h2 : i + 1 < s.size
    · refine ValEv.Ev.succ ?_
      refine ValEv.Ev.of ?_ (fun k => l0_at k s hs i h1 h2)
      by_cases h44 : bt s (i : Int) = 44
      · simp only [if_pos h44]
        refine ValEv.Ev.bind (f := fun k (p : Int × Bool) => if i + 2 > s.size - 1 then some (0, 0, false) else (warrantorref06_Parse.f k (s.extract (i + 2) (s.size - 1))).bind fun q => if p.2 = true then (if q.2 = true then (warrantorref07_Show.f k p.1 q.1).bind fun t => if t.toList = s.toList then some (p.1, q.1, true) else some (0, 0, false) else some (0, 0, false)) else some (0, 0, false)) (ValEv.refParse_ev (s.extract 1 i)) ?_
        by_cases h3 : i + 2 > s.size - 1
        · simp only [if_pos h3]; exact ValEv.Ev.one fun _ => rfl
        · simp only [if_neg h3]
          refine ValEv.Ev.bind (f := fun k (q : Int × Bool) => if (parseR (s.extract 1 i)).2 = true then (if q.2 = true then (warrantorref07_Show.f k (parseR (s.extract 1 i)).1 q.1).bind fun t => if t.toList = s.toList then some ((parseR (s.extract 1 i)).1, q.1, true) else some (0, 0, false) else some (0, 0, false)) else some (0, 0, false)) (ValEv.refParse_ev (s.extract (i + 2) (s.size - 1))) ?_
          rcases ac_or (s.extract 1 i) with ⟨c, hc, _, _, p1⟩ | ⟨_, p1⟩
          · rcases ac_or (s.extract (i + 2) (s.size - 1)) with ⟨d, hd, _, _, p2⟩ | ⟨_, p2⟩
            · rw [p1, p2]
              simp only [if_pos]
              refine ValEv.Ev.bind (f := fun _ (t : ByteArray) => if t.toList = s.toList then some (c, d, true) else some (0, 0, false)) (showI_ev c d) (ValEv.Ev.one fun _ => ?_)
              rw [if_neg]
              rw [showI_good hc hd]
              intro e
              by_cases hcd : c ≤ d
              · rw [if_pos hcd, ValEv.toList_data, ValEv.toList_data, bl_list] at e
                exact hb c d ⟨hc, hd, hcd, e.symm⟩
              · rw [if_neg hcd, none_list] at e
                exact hn e.symm
            · rw [p1, p2]
              simp only [if_pos, if_neg Bool.false_ne_true]
              exact ValEv.Ev.one fun _ => rfl
          · rw [p1]
            simp only [if_neg Bool.false_ne_true]
            exact ValEv.Ev.one fun _ => rfl
      · simp only [if_neg h44]
        exact ih (i + 1) (by omega) (by omega)
    · exact ValEv.Ev.succ (ValEv.Ev.one fun k => l0_end k s hs i h2 (by omega))
theorem ext_list (s : ByteArray) (a b : Nat) : (s.extract a b).data.toList = (s.data.toList.drop a).take (b - a) := by
  rw [← ValEv.toList_data]
  exact Go.Lib.extract_toList s a b
theorem good_loop {s : ByteArray} {c d : Int} (h : Good s.data.toList c d) : ∀ (m i : Nat), i + m = 1 + (L c).length → 1 ≤ i → ValEv.Ev (fun k => warrantorref07_Parse.l0 k s (i : Int)) (c, d, true) := by
  obtain ⟨hc, hd, hle, hl⟩ := h
  have lc := L_len c hc
  have ld := L_len d hd
  have hsz : s.size = (L c).length + (L d).length + 4 := by
    rw [size_list, hl]; unfold Bl; simp; omega
  have hbt : ∀ i : Nat, (hi : i < (Bl c d).length) → bt s (i : Int) = (((Bl c d)[i]'hi).toNat : Int) := by
    intro i hi
    have e : s = ⟨(Bl c d).toArray⟩ := ba_ext (by rw [hl, data_mk])
    rw [e]
    exact ValEv.bt_list _ _ hi
  have hlen : (Bl c d).length = (L c).length + (L d).length + 4 := by unfold Bl; simp; omega
  intro m
  induction m with
  | zero =>
    intro i him h1
    have h44 : bt s (i : Int) = 44 := by
      rw [hbt i (by omega)]
      have : (Bl c d)[i]'(by omega) = 44 := by
        unfold Bl
        obtain rfl : i = (L c).length + 1 := by omega
        simp
      rw [this]; rfl
    refine ValEv.Ev.succ ?_
    refine ValEv.Ev.of ?_ (fun k => l0_at k s (by omega) i h1 (by omega))
    simp only [if_pos h44]
    have e1 : s.extract 1 i = showB c := ba_ext (by
      rw [ext_list, hl]; unfold Bl
      show _ = L c
      rw [show i - 1 = (L c).length by omega]
      simp)
    have e2 : s.extract (i + 2) (s.size - 1) = showB d := ba_ext (by
      rw [ext_list, hl]; unfold Bl
      show _ = L d
      rw [show s.size - 1 - (i + 2) = (L d).length by omega, show i + 2 = ((L c).length + 2) + 1 by omega, List.drop_succ_cons, List.drop_append, List.drop_eq_nil_of_le (by omega), List.nil_append]
      simp)
    rw [e1, e2]
    refine ValEv.Ev.bind (f := fun k (p : Int × Bool) => if i + 2 > s.size - 1 then some (0, 0, false) else (warrantorref06_Parse.f k (showB d)).bind fun q => if p.2 = true then (if q.2 = true then (warrantorref07_Show.f k p.1 q.1).bind fun t => if t.toList = s.toList then some (p.1, q.1, true) else some (0, 0, false) else some (0, 0, false)) else some (0, 0, false)) (ValEv.refParse_ev (showB c)) ?_
    simp only [if_neg (show ¬ i + 2 > s.size - 1 by omega)]
    refine ValEv.Ev.bind (f := fun k (q : Int × Bool) => if (parseR (showB c)).2 = true then (if q.2 = true then (warrantorref07_Show.f k (parseR (showB c)).1 q.1).bind fun t => if t.toList = s.toList then some ((parseR (showB c)).1, q.1, true) else some (0, 0, false) else some (0, 0, false)) else some (0, 0, false)) (ValEv.refParse_ev (showB d)) ?_
    rw [(ac_show hc).2, (ac_show hd).2]
    simp only [if_pos]
    refine ValEv.Ev.bind (f := fun _ (t : ByteArray) => if t.toList = s.toList then some (c, d, true) else some (0, 0, false)) (showI_ev c d) (ValEv.Ev.one fun _ => ?_)
    rw [showI_good hc hd, if_pos hle, if_pos]
    rw [ValEv.toList_data, ValEv.toList_data, bl_list, hl]
  | succ m ih =>
    intro i him h1
    have h44 : bt s (i : Int) ≠ 44 := by
      rw [hbt i (by omega)]
      obtain ⟨j, rfl⟩ : ∃ j, i = j + 1 := ⟨i - 1, by omega⟩
      have hj : j < (L c).length := by omega
      have : (Bl c d)[j + 1]'(by omega) = (L c)[j] := by
        unfold Bl
        rw [List.getElem_cons_succ, List.getElem_append_left hj]
      rw [this]
      have hne := L_bytes c _ (List.getElem_mem hj)
      intro e
      apply hne
      apply UInt8.toNat_inj.1
      show _ = 44
      omega
    refine ValEv.Ev.succ ?_
    refine ValEv.Ev.of ?_ (fun k => l0_at k s (by omega) i h1 (by omega))
    simp only [if_neg h44]
    exact ih (i + 1) (by omega) (by omega)
theorem pure_ItvTexts : warrantorlaw07_ItvTexts.Pure := by
  intro a b s _ _ _
  unfold warrantorlaw07_ItvTexts.f
  by_cases h : (s.size : Int) > 1000
  · refine ⟨58 + 1 + 1, ?_⟩
    rw [if_pos h, ItvEv.livesL_f]
    rfl
  · simp only [if_neg h]
    have hs : s.size ≤ 1000 := by omega
    obtain ⟨r1, r2⟩ := pl_rng a b
    have hsz : (showI a b).size ≤ 1000000 := by
      unfold showI
      split
      · decide +kernel
      · have l1 := L_len _ r1
        have l2 := L_len _ r2
        rw [size_list, bl_list]
        unfold Bl
        simp
        omega
    have hpar : parseI (showI a b) = ((ItvEv.pl a b).1, (ItvEv.pl a b).2, 0) := by
      unfold parseI showI
      rcases ItvEv.wf_pl a b with hw | hw
      · rw [hw]
        have e : ItvEv.isN ((1, 0) : Int × Int) = true := rfl
        rw [if_pos e, if_pos none_list]
      · rw [ItvEv.isN_some hw.2.1, if_neg Bool.false_ne_true, if_neg]
        · rw [okI_good ⟨r1, r2, hw.2.1, bl_list _ _⟩]
        · rw [ValEv.toList_data, bl_list]
          unfold Bl
          intro e
          exact absurd (List.cons.inj e).1 (by decide)
    obtain ⟨ks, es⟩ := showI_ev a b
    have hP : ∃ r : Int × Int × Bool, ValEv.Ev (fun k => warrantorref07_Parse.f k s) r ∧ (r.2.2 = true ∧ parseI s = (r.1, r.2.1, 0) ∨ r = (0, 0, false) ∧ parseI s = (0, 0, 70)) := by
      unfold warrantorref07_Parse.f parseI
      by_cases hn : s.toList = [110, 111, 110, 101]
      · refine ⟨(1, 0, true), ?_, .inl ⟨rfl, ?_⟩⟩
        · simp only [if_pos hn]; exact ValEv.Ev.one fun _ => rfl
        · rw [if_pos hn]
      · simp only [if_neg hn]
        by_cases hg : ∃ c d, Good s.data.toList c d
        · obtain ⟨c, d, hg⟩ := hg
          exact ⟨(c, d, true), good_loop hg (L c).length 1 (by omega) (by omega), .inl ⟨rfl, okI_good hg⟩⟩
        · have hg2 : ∀ c d, ¬ Good s.data.toList c d := fun c d hh => hg ⟨c, d, hh⟩
          exact ⟨(0, 0, false), bad_loop s hs hn hg2 s.size 1 (by omega) (by omega), .inr ⟨rfl, okI_bad hg2⟩⟩
    obtain ⟨r, ⟨kp, ep⟩, hr⟩ := hP
    obtain ⟨K, hK⟩ : ∃ K, K = (ks + kp + 58) + 1 + 1 := ⟨_, rfl⟩
    have hlv : ∀ q, warrantorlaw07_lives.f (58 + q + 1 + 1) = some true := by
      intro q
      induction q with
      | zero => exact ItvEv.livesL_f
      | succ q ih => exact warrantorlaw07_lives.mono _ _ ih
    refine ⟨(ks + kp + 58) + 1 + 1, ?_⟩
    have eS := es ((ks + kp + 58) + 1 + 1) (by omega)
    have eP := ep ((ks + kp + 58) + 1 + 1) (by omega)
    have eL : warrantorlaw07_lives.f ((ks + kp + 58) + 1 + 1) = some true := by
      have := hlv (ks + kp)
      rwa [show 58 + (ks + kp) + 1 + 1 = (ks + kp + 58) + 1 + 1 by omega] at this
    simp only [showI_f, parseI_f _ hsz, parseI_f s (by omega), hpar, eP, eL, eS, ItvEv.refPlain_f, Option.bind_some, if_pos, beq_self_eq_true, Bool.and_self]
    rcases hr with ⟨h1, h2⟩ | ⟨h1, h2⟩
    · rw [h2]
      simp only [h1, beq_self_eq_true, Bool.and_self, if_pos]
    · rw [h1, h2]
      rfl
end Go.Proofs.YtkailfmehmgolaaDoor.ItvTx
namespace Go.Proofs.YtkailfmehmgolaaDoor.Pure
open Go.RowKit Go.Proofs.YtkailfmehmgolaaDoor.R Go.Proofs.YtkailfmehmgolaaDoorW.PrintWords Go.Proofs.YtkailfmehmgolaaDoorW.PrintLast
theorem ItvTexts : warrantorlaw07_ItvTexts.Pure := ItvTx.pure_ItvTexts
end Go.Proofs.YtkailfmehmgolaaDoor.Pure
