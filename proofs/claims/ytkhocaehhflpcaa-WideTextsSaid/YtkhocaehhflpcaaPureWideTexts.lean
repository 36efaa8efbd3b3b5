/- The plain law of WideTexts. -/
import Derived.Test.YtkhocaehhflpcaaPAx17
import Derived.Test.YtkhocaehhflpcaaParseR
import Derived.Test.YtkhocaehhflpcaaTextR
import Derived.Test.YtkhocaehhflpcaaLive
namespace Go.Proofs.Ytkhocaehhflpcaa.Pure
open Go.RowKit Go.Proofs.Ytkhocaehhflpcaa.PA Go.Proofs.Ytkhocaehhflpcaa.Uw Go.Proofs.Ytkhocaehhflpcaa.Wide Go.Proofs.YtkhocaehhflpcaaW.PrintWords Go.Proofs.YtkhocaehhflpcaaW.PrintLast

theorem reads_some (L : List UInt8) : ∃ a b c, reads L = some (a, b, c) := by
  unfold reads out
  split
  · split
    · exact ⟨_, _, _, rfl⟩
    · exact ⟨_, _, _, rfl⟩
  · exact ⟨_, _, _, rfl⟩
theorem WideTexts : corebanklaw01_WideTexts.Pure := by
  intro h l s hh hl hs
  have hh := wf_I hh
  have hl := wf_U hl
  refine ⟨20000, ?_⟩
  unfold corebanklaw01_WideTexts.f
  rw [live_f 20000 (by decide)]
  by_cases g : (s.size : Int) > 200
  · rw [if_pos g]; rfl
  · rw [if_neg g, Parse_f s (by omega) 20000 (by decide), Parse_r s (by omega) 20000 (by decide)]
    obtain ⟨a, b, c, hr⟩ := reads_some s.data.toList
    rw [hr]
    obtain ⟨y, hy, hyl⟩ := Text_f h l hh hl
    obtain ⟨z, hz, hzl⟩ := Text_r h l hh hl
    simp only [Option.bind_some]
    rw [hy 20000 (by decide), hz 20000 (by decide), if_pos (by simp), if_pos trivial]
    simp only [Option.bind_some]
    rw [ByteArray.toList_eq, ByteArray.toList_eq, hyl, hzl, if_pos rfl]
end Go.Proofs.Ytkhocaehhflpcaa.Pure
