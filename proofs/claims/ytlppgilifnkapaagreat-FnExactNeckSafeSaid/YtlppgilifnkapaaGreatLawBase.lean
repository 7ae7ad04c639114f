/- What the laws over a run know of it. -/
import Derived.Test.YtlppgilifnkapaaGreatCallM
import Derived.Test.YtlppgilifnkapaaGreatSize
import Derived.Test.YtlppgilifnkapaaGreatOpen
set_option linter.unusedVariables false
set_option linter.unusedSimpArgs false
set_option maxRecDepth 100000
namespace Go.Proofs.YtlppgilifnkapaaGreat
open Go Go.RowKit


theorem wCalls_le {x : Neck} (h : wNeck x ≤ 1048576) : x.calls.length ≤ 1048576 ∧ ∀ q ∈ x.calls, q.got.length ≤ 1048576 := by
  unfold wNeck wCallS at h
  refine ⟨by omega, fun q hq => ?_⟩
  obtain ⟨k, hk, rfl⟩ := mem_elt hq
  have := wSum_elt (f := wCall) hk
  have h3 : wCall (elt x.calls k) ≤ 1048576 := by omega
  unfold wCall wAnswerS at h3
  omega
theorem fit_of_deep {x : Neck} (h : x.Deep) : x.Fit := ⟨fun m hm => ⟨(h.2.2.1 m hm).2.1, (h.2.2.1 m hm).2.2.1⟩, fun q hq => (h.2.2.2.1 q hq).1⟩
theorem lefts_neck {x : Neck} (h : 0 ≤ lefts 1048576 (wNeck x)) : wNeck x ≤ 1048576 := by have := lefts_pos h; omega

end Go.Proofs.YtlppgilifnkapaaGreat
