/- Contracts of the Go functions and their plain Lean functions, written by a program of this session out of the translation. -/
import Derived.Test.YtkhocaehhflpcaaProg
import Derived.Below
import Derived.Deep.Draws
import Derived.Deep.AppendLies
import Derived.Maps.AppendAt
import Derived.OwnWalk
import Derived.Laws.BytesArg
import Derived.Laws.MakeOwn
import Derived.Laws.OwnMore
import Derived.Deep.OwnRows
import Derived.Tactics
import Derived.Lib.ConvBytes
import Derived.Laws.Slices
import Derived.WalkKit
import Derived.KernelRfl
import Derived.RowKit3
import Derived.Deep.LoopGhost
import Derived.Deep.QuietTactic
import Derived.BigQuiet
import Derived.WideLaws
import Derived.Deep.DeepCutAuto
import Derived.Deep.CutBlock
import Derived.Deep.RegionHeld3
import Derived.Laws.Rows
import Derived.Lib.AppendStr
import Derived.ArgAppend
import Derived.Laws.IdiomCopy
import Derived.OrdersHeld
import Derived.Laws.BitsLemmas
import Derived.RowKit
import Derived.Laws.Externs
import Derived.Test.YtkhocaehhflpcaaKMore
namespace Go.Proofs.Ytkhocaehhflpcaa.PA
open Go.RowKit Go.Proofs.YtkhocaehhflpcaaW.PrintWords Go.Proofs.YtkhocaehhflpcaaW.PrintLast Go.Proofs.YtkhocaehhflpcaaW.PrintMore
attribute [local go_sem] max2_int min2_int max_two min_two max_three min_three max_four min_four   -- for this text's walks alone
set_option linter.unusedVariables false
set_option linter.unusedSimpArgs false



def errW : Option Int → Value
  | none => .nilIface
  | some c => .iface 0 (.int .i64 c)
theorem errW_none : errW none = .nilIface := rfl
theorem errW_some (c : Int) : errW (some c) = .iface 0 (.int .i64 c) := rfl

-- the values' own types

def add64s (x y : Int) : Int := (((x.toNat + y.toNat + 0) % 18446744073709551616 : Nat) : Int)
def add64c (x y : Int) : Int := (((x.toNat + y.toNat + 0) / 18446744073709551616 : Nat) : Int)
theorem add64_entry (P : Program) (x y : Int) (w : World) :
    (add64Entry #[.int .u64 x, .int .u64 y, .int .u64 0]).run P w = .ok (.tuple #[.int .u64 (add64s x y), .int .u64 (add64c x y)]) w := rfl
theorem add64_run (x y : Int) (w : World) :
    (callFunc 45 #[.int .u64 x, .int .u64 y, .int .u64 0]).run Try.prog w = .ok (.value (.tuple #[.int .u64 (add64s x y), .int .u64 (add64c x y)])) w := by
  rw [run_callFunc_extern Try.func45 (by kernel_rfl) (by kernel_rfl) (by kernel_rfl) (e := add64Entry) (by kernel_rfl), add64_entry]
  rfl
def sub64s (x y : Int) : Int := (((x.toNat + 18446744073709551616 - y.toNat - 0) % 18446744073709551616 : Nat) : Int)
def sub64c (x y : Int) : Int := ((if x.toNat < y.toNat + 0 then 1 else 0 : Nat) : Int)
def sub64Entry_ : Array Value → Sem Value := fun args => do
  let (x, y, b) ← Extern.MathBitsCarry.three "Sub64" args
  pure (Extern.MathBitsCarry.pair ((x + Extern.MathBitsCarry.m64 - y - b) % Extern.MathBitsCarry.m64) (if x < y + b then 1 else 0))
theorem sub64_entry (P : Program) (x y : Int) (w : World) :
    (sub64Entry_ #[.int .u64 x, .int .u64 y, .int .u64 0]).run P w = .ok (.tuple #[.int .u64 (sub64s x y), .int .u64 (sub64c x y)]) w := rfl
theorem sub64_run (x y : Int) (w : World) :
    (callFunc 47 #[.int .u64 x, .int .u64 y, .int .u64 0]).run Try.prog w = .ok (.value (.tuple #[.int .u64 (sub64s x y), .int .u64 (sub64c x y)])) w := by
  rw [run_callFunc_extern Try.func47 (by kernel_rfl) (by kernel_rfl) (by kernel_rfl) (e := sub64Entry_) (by kernel_rfl), sub64_entry]
  rfl
theorem ext_both (x : Int) : IntKind.u64.wrap (IntKind.u8.wrap x) = x % 256 := by rw [IntKind.wrap_u8, IntKind.wrap_u64]; omega
theorem below_both {w W w2 : World} {gb : Nat} (h : Below w.heap.size w W) (k : Below W.heap.size W w2) (hg : gb = W.heap.size) : Below w.heap.size w w2 ∧ w.heap.size ≤ gb := ⟨below_step h k, by rw [hg]; exact below_size h⟩
theorem blk_both {W w2 : World} {g gb : Nat} {o : Obj} (h : W.heap[g]? = some o) (hb : Below W.heap.size W w2) (hg : gb = W.heap.size) : w2.heap[g]? = some o ∧ g ≠ gb ∧ gb ≠ g := ⟨blk_below h hb, by rw [hg]; exact Nat.ne_of_lt (blk_lt h), by rw [hg]; exact Nat.ne_of_gt (blk_lt h)⟩
theorem bK {W0 W w2 : World} {g : Nat} {o : Obj} (k : Aside0 (W0.heap[g]? = some o)) (hb : Below W.heap.size W w2) (h : W0.heap[g]? = some o → W.heap[g]? = some o := by (intro h_; (with_reducible repeat (first | refine blk_drewN ?_ _ | refine blk_drew ?_ | refine blk_alloc ?_ _)); exact h_)) : w2.heap[g]? = some o := blk_below (h k.out) hb
theorem bN {W0 W w2 : World} {g gb : Nat} {o : Obj} (k : Aside0 (W0.heap[g]? = some o)) (hb : Below W.heap.size W w2) (hg : gb = W.heap.size) (h : W0.heap[g]? = some o → W.heap[g]? = some o := by (intro h_; (with_reducible repeat (first | refine blk_drewN ?_ _ | refine blk_drew ?_ | refine blk_alloc ?_ _)); exact h_)) : w2.heap[g]? = some o ∧ g ≠ gb ∧ gb ≠ g := blk_both (h k.out) hb hg
theorem bS {w W w2 : World} (hb : Below W.heap.size W w2) (h : Below w.heap.size w W := by repeat (first | (with_reducible first | exact HB.out | apply below_alloc | apply pw_below_drewN | apply below_drew1 | refine below_set ?_ (Aside0.out (by assumption))) | exact HB.out)) : Below w.heap.size w w2 := below_step h hb
theorem bT {w W w2 : World} {gb : Nat} (hb : Below W.heap.size W w2) (hg : gb = W.heap.size) (h : Below w.heap.size w W := by repeat (first | (with_reducible first | exact HB.out | apply below_alloc | apply pw_below_drewN | apply below_drew1 | refine below_set ?_ (Aside0.out (by assumption))) | exact HB.out)) : Below w.heap.size w w2 ∧ w.heap.size ≤ gb := below_both h hb hg
theorem bE {w W : World} (h : Below w.heap.size w W := by repeat (first | (with_reducible first | exact HB.out | apply below_alloc | apply pw_below_drewN | apply below_drew1 | refine below_set ?_ (Aside0.out (by assumption))) | exact HB.out)) : Below w.heap.size w W := h
theorem aG {α : Type} {a b : α} (h : a = b := by ((try simp only [List.map_toArray, List.map_cons, List.map_nil]); first | done | rfl | (simp only [List.length_drop, List.length_take]; rfl) | ((conv => rhs; simp only [← ext_both]); rfl))) : a = b := h

end Go.Proofs.Ytkhocaehhflpcaa.PA
