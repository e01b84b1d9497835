/- The program's OpCode and the reference's OpCode return the same string for every whole number of 64 bits. Conditions: none. -/
import Derived.Test.YtbllcjgccpdbkaaQFnExactOpCodex1
namespace Go.Proofs.Ytbllcjgccpdbkaa.Pure
open Go.RowKit Go.Proofs.Ytbllcjgccpdbkaa.QFnExactOpCode Go.Proofs.YtbllcjgccpdbkaaW.PrintWords Go.Proofs.YtbllcjgccpdbkaaW.PrintLast

theorem FnExactOpCode : laws_FnExactOpCode.Pure := by
  intro a0 _
  unfold laws_FnExactOpCode.f spec_OpCode.f impl_OpCode.f spec_l11Op.f impl_opOf.f spec_l01In.f impl_within.f
  by_cases h : 1 ≤ a0 ∧ a0 ≤ 8
  · have h' : a0 = 1 ∨ a0 = 2 ∨ a0 = 3 ∨ a0 = 4 ∨ a0 = 5 ∨ a0 = 6 ∨ a0 = 7 ∨ a0 = 8 := by omega
    rcases h' with rfl | rfl | rfl | rfl | rfl | rfl | rfl | rfl <;>
      simp [impl_opRows.f, spec_l11Codes.f, rd_T63, rdOf, wrap64]
  · by_cases h1 : 1 ≤ a0
    · have h2 : ¬ a0 ≤ 8 := fun h2 => h ⟨h1, h2⟩
      simp [h1, h2]
    · simp [h1]

end Go.Proofs.Ytbllcjgccpdbkaa.Pure
