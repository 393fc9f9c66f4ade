/- short names for closing steps that the walks repeat: each is a proof that is looked for where it is used -/
import Derived.Below
import Derived.Deep.Draws
import Derived.Deep.AppendLies
import Derived.Maps.AppendAt
import Derived.OwnWalk
import Derived.Laws.BytesArg
import Derived.Laws.MakeOwn
import Derived.Laws.OwnMore
import Derived.Deep.OwnRows
import Derived.Tactics
import Derived.Lib.ConvBytes
import Derived.Laws.Slices
import Derived.WalkKit
import Derived.KernelRfl
import Derived.RowKit3
import Derived.Deep.LoopGhost
import Derived.Deep.QuietTactic
import Derived.BigQuiet
import Derived.WideLaws
import Derived.Deep.DeepCutAuto
import Derived.Deep.CutBlock
import Derived.Deep.RegionHeld3
import Derived.Laws.Rows
import Derived.Lib.AppendStr
import Derived.ArgAppend
import Derived.Laws.IdiomCopy
import Derived.OrdersHeld
import Derived.Laws.BitsLemmas
import Derived.RowKit
import Derived.Test.YtgbndakiiblhmaaV
namespace Go.Proofs.YtgbndakiiblhmaaW.PrintWords
open Go.RowKit
/-- The world's blocks are the old ones, behind draws, new blocks and stores into new ones. -/
theorem HB_ {p : Prop} (h : p := by repeat (first | (with_reducible first | exact HB.out | apply below_alloc | apply pw_below_drewN | apply below_drew1 | refine below_set ?_ (Aside0.out (by assumption))) | exact HB.out)) : p := h
/-- The arguments of a call are these. -/
theorem MP_ {p : Prop} (h : p := by (try simp only [List.map_toArray, List.map_cons, List.map_nil]); first | done | rfl | (simp only [List.length_drop, List.length_take]; rfl)) : p := h
/-- The state of a region behind an operation. -/
theorem AP_ {p : Prop} (h : p := by simp only [Act.put, List.setIfInBounds_toArray, List.set_cons_zero, List.set_cons_succ, i64_w, i32_w]; rfl) : p := h
/-- A block's content, behind draws, new blocks, stores elsewhere and stores into itself. -/
theorem bk_ {p q : Prop} (h : q) (g : q → p := by intro hq_; (with_reducible repeat (first | refine blk_drewN ?_ _ | refine blk_drew ?_ | refine blk_alloc ?_ _)); exact hq_) : p := g h
/-- The world gets a new name; what is wanted of it is told. -/
theorem wp_world {P : Program} {c : Code} {K : Exit → Act → World → Prop} {a : Act} {W : World} (Q : World → Prop) (hQ : Q W) (h : ∀ w', Q w' → Code.wp P c K a w') : Code.wp P c K a W := h W hQ
theorem blk_farA {w : World} {g g' j : Nat} {t : TypeId} {cs : Array Value} (hp : Aside0 (g ≠ g')) (h : w.heap[g]? = some (.cells cs t (0, 0))) (u : Value) : (w.setCell ⟨g', j, none⟩ u).heap[g]? = some (.cells cs t (0, 0)) := blk_far h hp.out u
theorem bk2_ {p q : Prop} (h : q) (g : q → p := by intro hq_; (with_reducible repeat (first | apply blk_drewN | apply blk_drew | apply blk_alloc | (apply blk_farA; assumption) | apply blk_put)); (with_reducible exact hq_); all_goals rfl) : p := g h
end Go.Proofs.YtgbndakiiblhmaaW.PrintWords
