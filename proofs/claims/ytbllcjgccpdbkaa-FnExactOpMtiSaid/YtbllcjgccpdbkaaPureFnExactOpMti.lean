/- The program's OpMti and the reference's OpMti return the same string for every whole number of 64 bits. Conditions: none. -/
import Derived.Test.YtbllcjgccpdbkaaQFnExactOpMtix1
namespace Go.Proofs.Ytbllcjgccpdbkaa.Pure
open Go.RowKit Go.Proofs.Ytbllcjgccpdbkaa.QFnExactOpMti Go.Proofs.YtbllcjgccpdbkaaW.PrintWords Go.Proofs.YtbllcjgccpdbkaaW.PrintLast

theorem FnExactOpMti : laws_FnExactOpMti.Pure := by
  intro a0 _
  unfold laws_FnExactOpMti.f spec_OpMti.f impl_OpMti.f spec_l11Op.f impl_opOf.f spec_l01In.f impl_within.f
  by_cases h : 1 ≤ a0 ∧ a0 ≤ 8
  · have h' : a0 = 1 ∨ a0 = 2 ∨ a0 = 3 ∨ a0 = 4 ∨ a0 = 5 ∨ a0 = 6 ∨ a0 = 7 ∨ a0 = 8 := by omega
    rcases h' with rfl | rfl | rfl | rfl | rfl | rfl | rfl | rfl <;>
      simp [impl_opRows.f, spec_l11Mtis.f, rd_T63, rdOf, wrap64]
  · by_cases h1 : 1 ≤ a0
    · have h2 : ¬ a0 ≤ 8 := fun h2 => h ⟨h1, h2⟩
      simp [h1, h2]
    · simp [h1]

end Go.Proofs.Ytbllcjgccpdbkaa.Pure
