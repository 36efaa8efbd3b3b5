/- An entry in the table of types. -/
import Derived.Test.YtnilmhhidmdlnaaPAx0
namespace Go.Proofs.Ytnilmhhidmdlnaa.PA
open Go.RowKit
theorem info36 : (Try.prog.info? 36).map (fun i => (i.zero, i.size, i.bytes)) = some (some (.agg #[(.int .i64 0), (.int .i64 0), (.int .i64 0), (.int .i64 0), (.int .i64 0), (.int .i64 0), (.string ⟨#[]⟩), (.string ⟨#[]⟩), (.slice none 0 0), (.int .u64 0)]), 10, 112) := by kernel_rfl
end Go.Proofs.Ytnilmhhidmdlnaa.PA
