/- Contracts of the Go functions and their plain Lean functions, written by a program of this session out of the translation. -/
import Derived.Test.YtddaajikgjcknaaProg
import Derived.Below
import Derived.Deep.Draws
import Derived.Deep.AppendLies
import Derived.Maps.AppendAt
import Derived.OwnWalk
import Derived.Laws.BytesArg
import Derived.Laws.MakeOwn
import Derived.Laws.OwnMore
import Derived.Deep.OwnRows
import Derived.Tactics
import Derived.Lib.ConvBytes
import Derived.Laws.Slices
import Derived.WalkKit
import Derived.KernelRfl
import Derived.RowKit3
import Derived.Deep.LoopGhost
import Derived.Deep.QuietTactic
import Derived.BigQuiet
import Derived.WideLaws
import Derived.Deep.DeepCutAuto
import Derived.Deep.CutBlock
import Derived.Deep.RegionHeld3
import Derived.Laws.Rows
import Derived.Lib.AppendStr
import Derived.ArgAppend
import Derived.Laws.IdiomCopy
import Derived.OrdersHeld
import Derived.Laws.BitsLemmas
import Derived.RowKit
import Derived.Laws.Externs
import Derived.Test.YtddaajikgjcknaaKMore
namespace Go.Proofs.Ytddaajikgjcknaa.PA
open Go.RowKit Go.Proofs.YtddaajikgjcknaaW.PrintWords Go.Proofs.YtddaajikgjcknaaW.PrintLast Go.Proofs.YtddaajikgjcknaaW.PrintMore
attribute [local go_sem] max2_int min2_int max_two min_two max_three min_three max_four min_four   -- for this text's walks alone
set_option linter.unusedVariables false
set_option linter.unusedSimpArgs false



def errW : Option Int → Value
  | none => .nilIface
  | some c => .iface 0 (.int .i64 c)
theorem errW_none : errW none = .nilIface := rfl
theorem errW_some (c : Int) : errW (some c) = .iface 0 (.int .i64 c) := rfl

-- the values' own types

def add64s (x y : Int) : Int := (((x.toNat + y.toNat + 0) % 18446744073709551616 : Nat) : Int)
def add64c (x y : Int) : Int := (((x.toNat + y.toNat + 0) / 18446744073709551616 : Nat) : Int)
theorem add64_entry (P : Program) (x y : Int) (w : World) :
    (add64Entry #[.int .u64 x, .int .u64 y, .int .u64 0]).run P w = .ok (.tuple #[.int .u64 (add64s x y), .int .u64 (add64c x y)]) w := rfl
theorem add64_run (x y : Int) (w : World) :
    (callFunc 55 #[.int .u64 x, .int .u64 y, .int .u64 0]).run Try.prog w = .ok (.value (.tuple #[.int .u64 (add64s x y), .int .u64 (add64c x y)])) w := by
  rw [run_callFunc_extern Try.func55 (by kernel_rfl) (by kernel_rfl) (by kernel_rfl) (e := add64Entry) (by kernel_rfl), add64_entry]
  rfl
theorem ext_both (x : Int) : IntKind.u64.wrap (IntKind.u8.wrap x) = x % 256 := by rw [IntKind.wrap_u8, IntKind.wrap_u64]; omega
theorem below_both {w W w2 : World} {gb : Nat} (h : Below w.heap.size w W) (k : Below W.heap.size W w2) (hg : gb = W.heap.size) : Below w.heap.size w w2 ∧ w.heap.size ≤ gb := ⟨below_step h k, by rw [hg]; exact below_size h⟩

end Go.Proofs.Ytddaajikgjcknaa.PA
