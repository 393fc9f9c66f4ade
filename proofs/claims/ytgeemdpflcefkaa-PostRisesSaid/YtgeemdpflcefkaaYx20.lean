import Derived.Test.YtgeemdpflcefkaaYx0
import Derived.Test.YtgeemdpflcefkaaYx17
namespace Go.Proofs.Ytgeemdpflcefkaa.Y
open Go.RowKit Go.Proofs.YtgeemdpflcefkaaW.PrintWords Go.Proofs.YtgeemdpflcefkaaW.PrintLast Go.Proofs.YtgeemdpflcefkaaW.PrintMore
attribute [local go_sem] max2_int min2_int max_two min_two max_three min_three max_four min_four   -- for this text's walks alone
set_option linter.unusedVariables false
set_option linter.unusedSimpArgs false
/-- A bound more. -/
def limitL (n : Nat) (xs : List Int) (i j : Nat) (c : Int) : List Int := xs.set (i * (n + 1) + j) (mn (rd xs ((i * (n + 1) + j : Nat) : Int)) c)
theorem limitL_length (n : Nat) (xs : List Int) (i j : Nat) (c : Int) : (limitL n xs i j c).length = xs.length := by rw [limitL, List.length_set]
set_option maxHeartbeats 8000000 in
set_option maxRecDepth 100000 in
theorem equal_calls (n i j : Nat) (hn : n ≤ 8) (hi : i ≤ n) (hj : j ≤ n) (c : Int) (g b cap base : Nat) (ok : Nat → Prop) (xs : List Int) (hxs : xs.length = (n + 1) * (n + 1)) (w : World)
   (hbk : w.heap[g]? = some (.cells #[.int .i64 n, .slice (some ⟨b, 0, none⟩) xs.length cap] 87 (0, 0))) (hR : Kd.R (Kd.int .i64) 3 w base ok (.slice (some ⟨b, 0, none⟩) xs.length cap) xs) :
   Calls Try.prog 70 #[.pointer (some ⟨g, 0, none⟩), .int .i64 i, .int .i64 j, .int .i64 c] w fun e w' => e = .returned (.tuple #[]) ∧ Kd.R (Kd.int .i64) 3 w' base ok (.slice (some ⟨b, 0, none⟩) xs.length cap) (limitL n (limitL n xs i j c) j i (wrap64 (-c))) ∧
    w'.heap[g]? = some (.cells #[.int .i64 n, .slice (some ⟨b, 0, none⟩) xs.length cap] 87 (0, 0)) ∧ Kept w w' (fun k => k = b) ∧ Below b w w' := by
 have HLT := Aside0.mk (Nat.le_of_lt (Kd.R_lt hR b rfl))
 have H1 := Aside0.mk (limit_calls n i j hn hi hj c g b cap base ok xs hxs w hbk hR)
 have H2 : Aside0 (∀ w2, Kd.R (Kd.int .i64) 3 w2 base ok (.slice (some ⟨b, 0, none⟩) xs.length cap) (limitL n xs i j c) → w2.heap[g]? = some (.cells #[.int .i64 n, .slice (some ⟨b, 0, none⟩) xs.length cap] 87 (0, 0)) → _) :=
   ⟨fun w2 h1 h2 => limit_calls n j i hn hj hi (wrap64 (-c)) g b cap base ok (limitL n xs i j c) (by rw [limitL_length]; exact hxs) w2 (by rw [limitL_length]; exact h2) (by rw [limitL_length]; exact h1)⟩
 clear hbk hR hxs
 go_enter Try.func70, Try.ntmps70
 go_wp2_with (first | ((with_reducible refine gate_dst (N := 12) rfl ?_); (with_reducible refine gate_callee (f := 66) rfl ?_); refine goesL_ (some 12) rfl rfl Try.func66 (by kernel_rfl) rfl #[.pointer (some ⟨g, 0, none⟩), .int .i64 i, .int .i64 j, .int .i64 c] rfl (by (try simp only [List.map_toArray, List.map_cons, List.map_nil]); first | done | rfl) ?_; (with_reducible refine H1.out.mono ?_); rintro e w5 ⟨rfl, hr1, hb1, hk1, hw1⟩; refine ⟨_, rfl, ?_⟩; have K1 := Aside0.mk hk1; have W1 := Aside0.mk hw1; have H3 := Aside0.mk (H2.out w5 hr1 hb1); clear H1 H2 hr1 hb1 hk1 hw1) | ((with_reducible refine gate_dst (N := 18) rfl ?_); (with_reducible refine gate_callee (f := 66) rfl ?_); refine goesL_ (some 18) rfl rfl Try.func66 (by kernel_rfl) rfl #[.pointer (some ⟨g, 0, none⟩), .int .i64 j, .int .i64 i, .int .i64 (wrap64 (-c))] rfl (by (try simp only [List.map_toArray, List.map_cons, List.map_nil]); first | done | rfl) ?_; (with_reducible refine H3.out.mono ?_); rintro e w6 ⟨rfl, hr2, hb2, hk2, hw2⟩; refine ⟨_, rfl, ?_⟩; have R2 := Aside0.mk hr2; have B2 := Aside0.mk hb2; have K2 := Aside0.mk hk2; have W2 := Aside0.mk hw2; clear H3 hr2 hb2 hk2 hw2))
 go_end0
 have e1 := limitL_length n xs i j c
 refine ⟨rfl, ?_, ?_, K1.out.then_ K2.out (fun _ hk => .inl hk), W1.out.trans W2.out⟩
 · have h := R2.out; rw [e1] at h; exact h
 · have h := B2.out; rw [e1] at h; exact h
end Go.Proofs.Ytgeemdpflcefkaa.Y
