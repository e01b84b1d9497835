/- The program's PcName and the reference's PcName return the same string for every whole number of 64 bits. Conditions: none. -/
import Derived.Test.YtbllcjgccpdbkaaPFnExactPcNamex1
namespace Go.Proofs.Ytbllcjgccpdbkaa.Pure
open Go.RowKit Go.Proofs.Ytbllcjgccpdbkaa.PFnExactPcName Go.Proofs.YtbllcjgccpdbkaaW.PrintWords Go.Proofs.YtbllcjgccpdbkaaW.PrintLast

theorem FnExactPcName : laws_FnExactPcName.Pure := by
  intro a0 _
  unfold laws_FnExactPcName.f spec_PcName.f impl_PcName.f spec_l01In.f impl_within.f
  by_cases h1 : 0 ≤ a0
  · by_cases h2 : a0 ≤ 5
    · have h3 : a0 < 6 := by omega
      simp [h1, h2, h3]
    · simp [h1, h2]
  · simp [h1]

end Go.Proofs.Ytbllcjgccpdbkaa.Pure
