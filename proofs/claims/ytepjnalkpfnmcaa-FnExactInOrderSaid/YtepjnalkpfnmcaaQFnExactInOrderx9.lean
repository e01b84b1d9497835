-- by my own printer (myprint.py, over the kit's print.py)
import Derived.Test.YtepjnalkpfnmcaaQFnExactInOrderx0
import Derived.Test.YtepjnalkpfnmcaaQFnExactInOrderx8
namespace Go.Proofs.Ytepjnalkpfnmcaa.QFnExactInOrder
open Go.RowKit Go.Proofs.YtepjnalkpfnmcaaW.PrintWords Go.Proofs.YtepjnalkpfnmcaaW.PrintLast Go.Proofs.YtepjnalkpfnmcaaW.PrintMore
attribute [local go_sem] max2_int min2_int max_two min_two max_three min_three max_four min_four   -- for this text's walks alone
set_option linter.unusedVariables false
set_option linter.unusedSimpArgs false
attribute [local go_sem] my_geq my_leq my_gtr
abbrev tb18_0_9 : Array Bool := #[b0, b0, b0, b0, b0, b0, b0, b0, b0, b0, b0, b0, b0, b0, b0, b0, b0, b0]
abbrev tb18_1_9 : Array Bool := #[b1, b0, b0, b0, b0, b0, b0, b0, b0, b0, b0, b0, b0, b0, b0, b0, b0, b0]
abbrev tb18_1f_9 : Array Bool := #[b1, b1, b1, b1, b1, b0, b0, b0, b0, b0, b0, b0, b0, b0, b0, b0, b0, b0]
abbrev tb18_1ff_9 : Array Bool := #[b1, b1, b1, b1, b1, b1, b1, b1, b1, b0, b0, b0, b0, b0, b0, b0, b0, b0]
abbrev tb18_1fff_9 : Array Bool := #[b1, b1, b1, b1, b1, b1, b1, b1, b1, b1, b1, b1, b1, b0, b0, b0, b0, b0]
abbrev tb18_1ffff_9 : Array Bool := #[b1, b1, b1, b1, b1, b1, b1, b1, b1, b1, b1, b1, b1, b1, b1, b1, b1, b0]
abbrev tb18_3f_9 : Array Bool := #[b1, b1, b1, b1, b1, b1, b0, b0, b0, b0, b0, b0, b0, b0, b0, b0, b0, b0]
abbrev tb18_3ff_9 : Array Bool := #[b1, b1, b1, b1, b1, b1, b1, b1, b1, b1, b0, b0, b0, b0, b0, b0, b0, b0]
abbrev tb18_3fff_9 : Array Bool := #[b1, b1, b1, b1, b1, b1, b1, b1, b1, b1, b1, b1, b1, b1, b0, b0, b0, b0]
abbrev tb18_3ffff_9 : Array Bool := #[b1, b1, b1, b1, b1, b1, b1, b1, b1, b1, b1, b1, b1, b1, b1, b1, b1, b1]
abbrev tb18_45ff_9 : Array Bool := #[b1, b1, b1, b1, b1, b1, b1, b1, b1, b0, b1, b0, b0, b0, b1, b0, b0, b0]
abbrev tb18_47ff_9 : Array Bool := #[b1, b1, b1, b1, b1, b1, b1, b1, b1, b1, b1, b0, b0, b0, b1, b0, b0, b0]
abbrev tb18_4fff_9 : Array Bool := #[b1, b1, b1, b1, b1, b1, b1, b1, b1, b1, b1, b1, b0, b0, b1, b0, b0, b0]
abbrev tb18_5_9 : Array Bool := #[b1, b0, b1, b0, b0, b0, b0, b0, b0, b0, b0, b0, b0, b0, b0, b0, b0, b0]
abbrev tb18_5ff_9 : Array Bool := #[b1, b1, b1, b1, b1, b1, b1, b1, b1, b0, b1, b0, b0, b0, b0, b0, b0, b0]
abbrev tb18_5fff_9 : Array Bool := #[b1, b1, b1, b1, b1, b1, b1, b1, b1, b1, b1, b1, b1, b0, b1, b0, b0, b0]
abbrev tb18_7_9 : Array Bool := #[b1, b1, b1, b0, b0, b0, b0, b0, b0, b0, b0, b0, b0, b0, b0, b0, b0, b0]
abbrev tb18_7f_9 : Array Bool := #[b1, b1, b1, b1, b1, b1, b1, b0, b0, b0, b0, b0, b0, b0, b0, b0, b0, b0]
abbrev tb18_7ff_9 : Array Bool := #[b1, b1, b1, b1, b1, b1, b1, b1, b1, b1, b1, b0, b0, b0, b0, b0, b0, b0]
abbrev tb18_7fff_9 : Array Bool := #[b1, b1, b1, b1, b1, b1, b1, b1, b1, b1, b1, b1, b1, b1, b1, b0, b0, b0]
abbrev tb18_f_9 : Array Bool := #[b1, b1, b1, b1, b0, b0, b0, b0, b0, b0, b0, b0, b0, b0, b0, b0, b0, b0]
abbrev tb18_ff_9 : Array Bool := #[b1, b1, b1, b1, b1, b1, b1, b1, b0, b0, b0, b0, b0, b0, b0, b0, b0, b0]
abbrev tb18_fff_9 : Array Bool := #[b1, b1, b1, b1, b1, b1, b1, b1, b1, b1, b1, b1, b0, b0, b0, b0, b0, b0]
abbrev tb18_ffff_9 : Array Bool := #[b1, b1, b1, b1, b1, b1, b1, b1, b1, b1, b1, b1, b1, b1, b1, b1, b0, b0]
abbrev tb36_0_9 : Array Bool := #[b0, b0, b0, b0, b0, b0, b0, b0, b0, b0, b0, b0, b0, b0, b0, b0, b0, b0, b0, b0, b0, b0, b0, b0, b0, b0, b0, b0, b0, b0, b0, b0, b0, b0, b0, b0]
abbrev tb36_1_9 : Array Bool := #[b1, b0, b0, b0, b0, b0, b0, b0, b0, b0, b0, b0, b0, b0, b0, b0, b0, b0, b0, b0, b0, b0, b0, b0, b0, b0, b0, b0, b0, b0, b0, b0, b0, b0, b0, b0]
abbrev tb36_17ffff_9 : Array Bool := #[b1, b1, b1, b1, b1, b1, b1, b1, b1, b1, b1, b1, b1, b1, b1, b1, b1, b1, b1, b0, b1, b0, b0, b0, b0, b0, b0, b0, b0, b0, b0, b0, b0, b0, b0, b0]
abbrev tb36_1ef_9 : Array Bool := #[b1, b1, b1, b1, b0, b1, b1, b1, b1, b0, b0, b0, b0, b0, b0, b0, b0, b0, b0, b0, b0, b0, b0, b0, b0, b0, b0, b0, b0, b0, b0, b0, b0, b0, b0, b0]
abbrev tb36_1f_9 : Array Bool := #[b1, b1, b1, b1, b1, b0, b0, b0, b0, b0, b0, b0, b0, b0, b0, b0, b0, b0, b0, b0, b0, b0, b0, b0, b0, b0, b0, b0, b0, b0, b0, b0, b0, b0, b0, b0]
abbrev tb36_1ff_9 : Array Bool := #[b1, b1, b1, b1, b1, b1, b1, b1, b1, b0, b0, b0, b0, b0, b0, b0, b0, b0, b0, b0, b0, b0, b0, b0, b0, b0, b0, b0, b0, b0, b0, b0, b0, b0, b0, b0]
abbrev tb36_1fff_9 : Array Bool := #[b1, b1, b1, b1, b1, b1, b1, b1, b1, b1, b1, b1, b1, b0, b0, b0, b0, b0, b0, b0, b0, b0, b0, b0, b0, b0, b0, b0, b0, b0, b0, b0, b0, b0, b0, b0]
abbrev tb36_1ffff_9 : Array Bool := #[b1, b1, b1, b1, b1, b1, b1, b1, b1, b1, b1, b1, b1, b1, b1, b1, b1, b0, b0, b0, b0, b0, b0, b0, b0, b0, b0, b0, b0, b0, b0, b0, b0, b0, b0, b0]
abbrev tb36_1fffff_9 : Array Bool := #[b1, b1, b1, b1, b1, b1, b1, b1, b1, b1, b1, b1, b1, b1, b1, b1, b1, b1, b1, b1, b1, b0, b0, b0, b0, b0, b0, b0, b0, b0, b0, b0, b0, b0, b0, b0]
abbrev tb36_1ffffff_9 : Array Bool := #[b1, b1, b1, b1, b1, b1, b1, b1, b1, b1, b1, b1, b1, b1, b1, b1, b1, b1, b1, b1, b1, b1, b1, b1, b1, b0, b0, b0, b0, b0, b0, b0, b0, b0, b0, b0]
abbrev tb36_1fffffff_9 : Array Bool := #[b1, b1, b1, b1, b1, b1, b1, b1, b1, b1, b1, b1, b1, b1, b1, b1, b1, b1, b1, b1, b1, b1, b1, b1, b1, b1, b1, b1, b1, b0, b0, b0, b0, b0, b0, b0]
abbrev tb36_1ffffffff_9 : Array Bool := #[b1, b1, b1, b1, b1, b1, b1, b1, b1, b1, b1, b1, b1, b1, b1, b1, b1, b1, b1, b1, b1, b1, b1, b1, b1, b1, b1, b1, b1, b1, b1, b1, b1, b0, b0, b0]
abbrev tb36_21ef_9 : Array Bool := #[b1, b1, b1, b1, b0, b1, b1, b1, b1, b0, b0, b0, b0, b1, b0, b0, b0, b0, b0, b0, b0, b0, b0, b0, b0, b0, b0, b0, b0, b0, b0, b0, b0, b0, b0, b0]
abbrev tb36_21ff_9 : Array Bool := #[b1, b1, b1, b1, b1, b1, b1, b1, b1, b0, b0, b0, b0, b1, b0, b0, b0, b0, b0, b0, b0, b0, b0, b0, b0, b0, b0, b0, b0, b0, b0, b0, b0, b0, b0, b0]
abbrev tb36_23ff_9 : Array Bool := #[b1, b1, b1, b1, b1, b1, b1, b1, b1, b1, b0, b0, b0, b1, b0, b0, b0, b0, b0, b0, b0, b0, b0, b0, b0, b0, b0, b0, b0, b0, b0, b0, b0, b0, b0, b0]
abbrev tb36_27ff_9 : Array Bool := #[b1, b1, b1, b1, b1, b1, b1, b1, b1, b1, b1, b0, b0, b1, b0, b0, b0, b0, b0, b0, b0, b0, b0, b0, b0, b0, b0, b0, b0, b0, b0, b0, b0, b0, b0, b0]
abbrev tb36_2f_9 : Array Bool := #[b1, b1, b1, b1, b0, b1, b0, b0, b0, b0, b0, b0, b0, b0, b0, b0, b0, b0, b0, b0, b0, b0, b0, b0, b0, b0, b0, b0, b0, b0, b0, b0, b0, b0, b0, b0]
abbrev tb36_2fff_9 : Array Bool := #[b1, b1, b1, b1, b1, b1, b1, b1, b1, b1, b1, b1, b0, b1, b0, b0, b0, b0, b0, b0, b0, b0, b0, b0, b0, b0, b0, b0, b0, b0, b0, b0, b0, b0, b0, b0]
abbrev tb36_3_9 : Array Bool := #[b1, b1, b0, b0, b0, b0, b0, b0, b0, b0, b0, b0, b0, b0, b0, b0, b0, b0, b0, b0, b0, b0, b0, b0, b0, b0, b0, b0, b0, b0, b0, b0, b0, b0, b0, b0]
abbrev tb36_3f_9 : Array Bool := #[b1, b1, b1, b1, b1, b1, b0, b0, b0, b0, b0, b0, b0, b0, b0, b0, b0, b0, b0, b0, b0, b0, b0, b0, b0, b0, b0, b0, b0, b0, b0, b0, b0, b0, b0, b0]
abbrev tb36_3ff_9 : Array Bool := #[b1, b1, b1, b1, b1, b1, b1, b1, b1, b1, b0, b0, b0, b0, b0, b0, b0, b0, b0, b0, b0, b0, b0, b0, b0, b0, b0, b0, b0, b0, b0, b0, b0, b0, b0, b0]
abbrev tb36_3fff_9 : Array Bool := #[b1, b1, b1, b1, b1, b1, b1, b1, b1, b1, b1, b1, b1, b1, b0, b0, b0, b0, b0, b0, b0, b0, b0, b0, b0, b0, b0, b0, b0, b0, b0, b0, b0, b0, b0, b0]
abbrev tb36_3ffff_9 : Array Bool := #[b1, b1, b1, b1, b1, b1, b1, b1, b1, b1, b1, b1, b1, b1, b1, b1, b1, b1, b0, b0, b0, b0, b0, b0, b0, b0, b0, b0, b0, b0, b0, b0, b0, b0, b0, b0]
abbrev tb36_3fffff_9 : Array Bool := #[b1, b1, b1, b1, b1, b1, b1, b1, b1, b1, b1, b1, b1, b1, b1, b1, b1, b1, b1, b1, b1, b1, b0, b0, b0, b0, b0, b0, b0, b0, b0, b0, b0, b0, b0, b0]
abbrev tb36_3ffffff_9 : Array Bool := #[b1, b1, b1, b1, b1, b1, b1, b1, b1, b1, b1, b1, b1, b1, b1, b1, b1, b1, b1, b1, b1, b1, b1, b1, b1, b1, b0, b0, b0, b0, b0, b0, b0, b0, b0, b0]
abbrev tb36_3fffffff_9 : Array Bool := #[b1, b1, b1, b1, b1, b1, b1, b1, b1, b1, b1, b1, b1, b1, b1, b1, b1, b1, b1, b1, b1, b1, b1, b1, b1, b1, b1, b1, b1, b1, b0, b0, b0, b0, b0, b0]
abbrev tb36_3ffffffff_9 : Array Bool := #[b1, b1, b1, b1, b1, b1, b1, b1, b1, b1, b1, b1, b1, b1, b1, b1, b1, b1, b1, b1, b1, b1, b1, b1, b1, b1, b1, b1, b1, b1, b1, b1, b1, b1, b0, b0]
abbrev tb36_6f_9 : Array Bool := #[b1, b1, b1, b1, b0, b1, b1, b0, b0, b0, b0, b0, b0, b0, b0, b0, b0, b0, b0, b0, b0, b0, b0, b0, b0, b0, b0, b0, b0, b0, b0, b0, b0, b0, b0, b0]
abbrev tb36_7_9 : Array Bool := #[b1, b1, b1, b0, b0, b0, b0, b0, b0, b0, b0, b0, b0, b0, b0, b0, b0, b0, b0, b0, b0, b0, b0, b0, b0, b0, b0, b0, b0, b0, b0, b0, b0, b0, b0, b0]
abbrev tb36_7f_9 : Array Bool := #[b1, b1, b1, b1, b1, b1, b1, b0, b0, b0, b0, b0, b0, b0, b0, b0, b0, b0, b0, b0, b0, b0, b0, b0, b0, b0, b0, b0, b0, b0, b0, b0, b0, b0, b0, b0]
abbrev tb36_7ff_9 : Array Bool := #[b1, b1, b1, b1, b1, b1, b1, b1, b1, b1, b1, b0, b0, b0, b0, b0, b0, b0, b0, b0, b0, b0, b0, b0, b0, b0, b0, b0, b0, b0, b0, b0, b0, b0, b0, b0]
abbrev tb36_7fff_9 : Array Bool := #[b1, b1, b1, b1, b1, b1, b1, b1, b1, b1, b1, b1, b1, b1, b1, b0, b0, b0, b0, b0, b0, b0, b0, b0, b0, b0, b0, b0, b0, b0, b0, b0, b0, b0, b0, b0]
abbrev tb36_7ffff_9 : Array Bool := #[b1, b1, b1, b1, b1, b1, b1, b1, b1, b1, b1, b1, b1, b1, b1, b1, b1, b1, b1, b0, b0, b0, b0, b0, b0, b0, b0, b0, b0, b0, b0, b0, b0, b0, b0, b0]
abbrev tb36_7fffff_9 : Array Bool := #[b1, b1, b1, b1, b1, b1, b1, b1, b1, b1, b1, b1, b1, b1, b1, b1, b1, b1, b1, b1, b1, b1, b1, b0, b0, b0, b0, b0, b0, b0, b0, b0, b0, b0, b0, b0]
abbrev tb36_7ffffff_9 : Array Bool := #[b1, b1, b1, b1, b1, b1, b1, b1, b1, b1, b1, b1, b1, b1, b1, b1, b1, b1, b1, b1, b1, b1, b1, b1, b1, b1, b1, b0, b0, b0, b0, b0, b0, b0, b0, b0]
abbrev tb36_7fffffff_9 : Array Bool := #[b1, b1, b1, b1, b1, b1, b1, b1, b1, b1, b1, b1, b1, b1, b1, b1, b1, b1, b1, b1, b1, b1, b1, b1, b1, b1, b1, b1, b1, b1, b1, b0, b0, b0, b0, b0]
abbrev tb36_7ffffffff_9 : Array Bool := #[b1, b1, b1, b1, b1, b1, b1, b1, b1, b1, b1, b1, b1, b1, b1, b1, b1, b1, b1, b1, b1, b1, b1, b1, b1, b1, b1, b1, b1, b1, b1, b1, b1, b1, b1, b0]
abbrev tb36_bfffffff_9 : Array Bool := #[b1, b1, b1, b1, b1, b1, b1, b1, b1, b1, b1, b1, b1, b1, b1, b1, b1, b1, b1, b1, b1, b1, b1, b1, b1, b1, b1, b1, b1, b1, b0, b1, b0, b0, b0, b0]
abbrev tb36_ef_9 : Array Bool := #[b1, b1, b1, b1, b0, b1, b1, b1, b0, b0, b0, b0, b0, b0, b0, b0, b0, b0, b0, b0, b0, b0, b0, b0, b0, b0, b0, b0, b0, b0, b0, b0, b0, b0, b0, b0]
abbrev tb36_f_9 : Array Bool := #[b1, b1, b1, b1, b0, b0, b0, b0, b0, b0, b0, b0, b0, b0, b0, b0, b0, b0, b0, b0, b0, b0, b0, b0, b0, b0, b0, b0, b0, b0, b0, b0, b0, b0, b0, b0]
abbrev tb36_ff_9 : Array Bool := #[b1, b1, b1, b1, b1, b1, b1, b1, b0, b0, b0, b0, b0, b0, b0, b0, b0, b0, b0, b0, b0, b0, b0, b0, b0, b0, b0, b0, b0, b0, b0, b0, b0, b0, b0, b0]
abbrev tb36_fff_9 : Array Bool := #[b1, b1, b1, b1, b1, b1, b1, b1, b1, b1, b1, b1, b0, b0, b0, b0, b0, b0, b0, b0, b0, b0, b0, b0, b0, b0, b0, b0, b0, b0, b0, b0, b0, b0, b0, b0]
abbrev tb36_ffff_9 : Array Bool := #[b1, b1, b1, b1, b1, b1, b1, b1, b1, b1, b1, b1, b1, b1, b1, b1, b0, b0, b0, b0, b0, b0, b0, b0, b0, b0, b0, b0, b0, b0, b0, b0, b0, b0, b0, b0]
abbrev tb36_fffff_9 : Array Bool := #[b1, b1, b1, b1, b1, b1, b1, b1, b1, b1, b1, b1, b1, b1, b1, b1, b1, b1, b1, b1, b0, b0, b0, b0, b0, b0, b0, b0, b0, b0, b0, b0, b0, b0, b0, b0]
abbrev tb36_ffffff_9 : Array Bool := #[b1, b1, b1, b1, b1, b1, b1, b1, b1, b1, b1, b1, b1, b1, b1, b1, b1, b1, b1, b1, b1, b1, b1, b1, b0, b0, b0, b0, b0, b0, b0, b0, b0, b0, b0, b0]
abbrev tb36_fffffff_9 : Array Bool := #[b1, b1, b1, b1, b1, b1, b1, b1, b1, b1, b1, b1, b1, b1, b1, b1, b1, b1, b1, b1, b1, b1, b1, b1, b1, b1, b1, b1, b0, b0, b0, b0, b0, b0, b0, b0]
abbrev tb36_ffffffff_9 : Array Bool := #[b1, b1, b1, b1, b1, b1, b1, b1, b1, b1, b1, b1, b1, b1, b1, b1, b1, b1, b1, b1, b1, b1, b1, b1, b1, b1, b1, b1, b1, b1, b1, b1, b0, b0, b0, b0]
abbrev tb36_fffffffff_9 : Array Bool := #[b1, b1, b1, b1, b1, b1, b1, b1, b1, b1, b1, b1, b1, b1, b1, b1, b1, b1, b1, b1, b1, b1, b1, b1, b1, b1, b1, b1, b1, b1, b1, b1, b1, b1, b1, b1]
/-! ### spec_InOrder: function 75 -/
mutual
def spec_InOrder.l0 : Nat → List Int → List Int → Int → Int → List (S121) → Int → Int → List (S126) → Option (Bool)
 | 0, _, _, _, _, _, _, _, _ => none
 | k + 1, x3, x11, x12, x13, x369000, x369001, x369002, x369003 => if x13 < x12 then (if 0 ≤ x13 then (if x13 < (x11.length : Int) then (if 0 ≤ (rd x11 x13) then (if (rd x11 x13) < (x369003.length : Int) then (if x13 > 0 then (if 0 ≤ (wrap64 (x13 - 1)) then (if (wrap64 (x13 - 1)) < (x3.length : Int) then (if 0 ≤ (rd x3 (wrap64 (x13 - 1))) then (if (rd x3 (wrap64 (x13 - 1))) < (x369003.length : Int) then (if ((rd_T126 x369003 (rd x3 (wrap64 (x13 - 1)))).f7) > ((rd_T126 x369003 (rd x11 x13)).f7) then (spec_InOrder.j1 k x3 x11 x12 x13 true x369000 x369001 x369002 x369003 ((rd_T126 x369003 (rd x11 x13)).f0) ((rd_T126 x369003 (rd x11 x13)).f1) ((rd_T126 x369003 (rd x11 x13)).f2) ((rd_T126 x369003 (rd x11 x13)).f3) ((rd_T126 x369003 (rd x11 x13)).f4) ((rd_T126 x369003 (rd x11 x13)).f5) ((rd_T126 x369003 (rd x11 x13)).f6) ((rd_T126 x369003 (rd x11 x13)).f7) ((rd_T126 x369003 (rd x11 x13)).f8)) else (if ((rd_T126 x369003 (rd x11 x13)).f5) < ((rd_T126 x369003 (rd x11 x13)).f4) then (spec_InOrder.j1 k x3 x11 x12 x13 true x369000 x369001 x369002 x369003 ((rd_T126 x369003 (rd x11 x13)).f0) ((rd_T126 x369003 (rd x11 x13)).f1) ((rd_T126 x369003 (rd x11 x13)).f2) ((rd_T126 x369003 (rd x11 x13)).f3) ((rd_T126 x369003 (rd x11 x13)).f4) ((rd_T126 x369003 (rd x11 x13)).f5) ((rd_T126 x369003 (rd x11 x13)).f6) ((rd_T126 x369003 (rd x11 x13)).f7) ((rd_T126 x369003 (rd x11 x13)).f8)) else (if ((rd_T126 x369003 (rd x11 x13)).f6) = (-1) then (spec_InOrder.j1 k x3 x11 x12 x13 false x369000 x369001 x369002 x369003 ((rd_T126 x369003 (rd x11 x13)).f0) ((rd_T126 x369003 (rd x11 x13)).f1) ((rd_T126 x369003 (rd x11 x13)).f2) ((rd_T126 x369003 (rd x11 x13)).f3) ((rd_T126 x369003 (rd x11 x13)).f4) ((rd_T126 x369003 (rd x11 x13)).f5) ((rd_T126 x369003 (rd x11 x13)).f6) ((rd_T126 x369003 (rd x11 x13)).f7) ((rd_T126 x369003 (rd x11 x13)).f8)) else (spec_InOrder.j1 k x3 x11 x12 x13 (decide (((rd_T126 x369003 (rd x11 x13)).f5) > ((rd_T126 x369003 (rd x11 x13)).f6))) x369000 x369001 x369002 x369003 ((rd_T126 x369003 (rd x11 x13)).f0) ((rd_T126 x369003 (rd x11 x13)).f1) ((rd_T126 x369003 (rd x11 x13)).f2) ((rd_T126 x369003 (rd x11 x13)).f3) ((rd_T126 x369003 (rd x11 x13)).f4) ((rd_T126 x369003 (rd x11 x13)).f5) ((rd_T126 x369003 (rd x11 x13)).f6) ((rd_T126 x369003 (rd x11 x13)).f7) ((rd_T126 x369003 (rd x11 x13)).f8))))) else (none)) else (none)) else (none)) else (none)) else (if ((rd_T126 x369003 (rd x11 x13)).f5) < ((rd_T126 x369003 (rd x11 x13)).f4) then (spec_InOrder.j1 k x3 x11 x12 x13 true x369000 x369001 x369002 x369003 ((rd_T126 x369003 (rd x11 x13)).f0) ((rd_T126 x369003 (rd x11 x13)).f1) ((rd_T126 x369003 (rd x11 x13)).f2) ((rd_T126 x369003 (rd x11 x13)).f3) ((rd_T126 x369003 (rd x11 x13)).f4) ((rd_T126 x369003 (rd x11 x13)).f5) ((rd_T126 x369003 (rd x11 x13)).f6) ((rd_T126 x369003 (rd x11 x13)).f7) ((rd_T126 x369003 (rd x11 x13)).f8)) else (if ((rd_T126 x369003 (rd x11 x13)).f6) = (-1) then (spec_InOrder.j1 k x3 x11 x12 x13 false x369000 x369001 x369002 x369003 ((rd_T126 x369003 (rd x11 x13)).f0) ((rd_T126 x369003 (rd x11 x13)).f1) ((rd_T126 x369003 (rd x11 x13)).f2) ((rd_T126 x369003 (rd x11 x13)).f3) ((rd_T126 x369003 (rd x11 x13)).f4) ((rd_T126 x369003 (rd x11 x13)).f5) ((rd_T126 x369003 (rd x11 x13)).f6) ((rd_T126 x369003 (rd x11 x13)).f7) ((rd_T126 x369003 (rd x11 x13)).f8)) else (spec_InOrder.j1 k x3 x11 x12 x13 (decide (((rd_T126 x369003 (rd x11 x13)).f5) > ((rd_T126 x369003 (rd x11 x13)).f6))) x369000 x369001 x369002 x369003 ((rd_T126 x369003 (rd x11 x13)).f0) ((rd_T126 x369003 (rd x11 x13)).f1) ((rd_T126 x369003 (rd x11 x13)).f2) ((rd_T126 x369003 (rd x11 x13)).f3) ((rd_T126 x369003 (rd x11 x13)).f4) ((rd_T126 x369003 (rd x11 x13)).f5) ((rd_T126 x369003 (rd x11 x13)).f6) ((rd_T126 x369003 (rd x11 x13)).f7) ((rd_T126 x369003 (rd x11 x13)).f8))))) else (none)) else (none)) else (none)) else (none)) else (some true)
def spec_InOrder.j1 : Nat → List Int → List Int → Int → Int → Bool → List (S121) → Int → Int → List (S126) → List Int → Int → List Int → Int → Int → Int → Int → Int → List Int → Option (Bool)
 | 0, _, _, _, _, _, _, _, _, _, _, _, _, _, _, _, _, _, _ => none
 | k + 1, x3, x11, x12, x13, x58, x369000, x369001, x369002, x369003, x375000, x375001, x375002, x375003, x375004, x375005, x375006, x375007, x375008 => if x58 = true then (some false) else (spec_InOrder.l1 k x3 x11 x12 x13 x3 (x3.length : Int) 0 x369000 x369001 x369002 x369003 x375000 x375001 x375002 x375003 x375004 x375005 x375006 x375007 x375008)
def spec_InOrder.l1 : Nat → List Int → List Int → Int → Int → List Int → Int → Int → List (S121) → Int → Int → List (S126) → List Int → Int → List Int → Int → Int → Int → Int → Int → List Int → Option (Bool)
 | 0, _, _, _, _, _, _, _, _, _, _, _, _, _, _, _, _, _, _, _, _ => none
 | k + 1, x3, x11, x12, x13, x59, x60, x61, x369000, x369001, x369002, x369003, x375000, x375001, x375002, x375003, x375004, x375005, x375006, x375007, x375008 => if x61 < x60 then (if 0 ≤ x61 then (if x61 < (x59.length : Int) then (if 0 ≤ (rd x59 x61) then (if (rd x59 x61) < (x369003.length : Int) then ((spec_Before.f ((rd_T126 x369003 (rd x59 x61)).f0) ((rd_T126 x369003 (rd x59 x61)).f1) ((rd_T126 x369003 (rd x59 x61)).f2) ((rd_T126 x369003 (rd x59 x61)).f3) ((rd_T126 x369003 (rd x59 x61)).f4) ((rd_T126 x369003 (rd x59 x61)).f5) ((rd_T126 x369003 (rd x59 x61)).f6) ((rd_T126 x369003 (rd x59 x61)).f7) ((rd_T126 x369003 (rd x59 x61)).f8) x375000 x375001 x375002 x375003 x375004 x375005 x375006 x375007 x375008).bind fun t379 => (if t379 = true then (if ((rd_T126 x369003 (rd x59 x61)).f5) ≥ x375005 then (some false) else (spec_InOrder.l1 k x3 x11 x12 x13 x59 x60 (wrap64 (x61 + 1)) x369000 x369001 x369002 x369003 x375000 x375001 x375002 x375003 x375004 x375005 x375006 x375007 x375008)) else (spec_InOrder.l1 k x3 x11 x12 x13 x59 x60 (wrap64 (x61 + 1)) x369000 x369001 x369002 x369003 x375000 x375001 x375002 x375003 x375004 x375005 x375006 x375007 x375008))) else (none)) else (none)) else (none)) else (none)) else (spec_InOrder.l0 k x3 x11 x12 (wrap64 (x13 + 1)) x369000 x369001 x369002 x369003)
end
def spec_InOrder.f (k : Nat) (l0_0 : List (S121)) (a0_1 : Int) (a0_2 : Int) (l0_3 : List (S126)) : Option (Bool) := (spec_OrderOf.f k l0_0 a0_1 a0_2 l0_3).bind fun t369 => (spec_InOrder.l0 k t369 t369 (t369.length : Int) 0 l0_0 a0_1 a0_2 l0_3)
def spec_InOrder.T6 : Bool × List (List Nat × List Nat) := (true, [([], []), ([0], [0]), ([1], [1]), ([2], [2]), ([3, 2], [2, 3]), ([2], [2]), ([2], [2]), ([6, 2], [2, 6]), ([5, 7, 2], [2, 5, 7]), ([8, 2], [2, 8]), ([4, 9, 2], [2, 4, 9]), ([10, 2], [2, 10]), ([11, 2], [2, 11]), ([2], [2]), ([13, 2], [2, 13]), ([12, 14, 2], [2, 12, 14]), ([2, 15], [2, 15]), ([16, 2], [16]), ([17], [17]), ([18, 17], [17, 18]), ([17], [17]), ([20, 17], [17, 20]), ([19, 21, 17], [17, 19, 21]), ([17, 22], [17, 22]), ([23, 17], [23]), ([24], [24]), ([25, 24], [24, 25]), ([26, 24], [24, 26]), ([27, 24, 24], [24, 27]), ([28], [28]), ([29, 28], [28, 29]), ([28], [28]), ([31, 28], [28, 31]), ([30, 32, 28], [28, 30, 32]), ([28, 33, 24], [24, 28, 33]), ([24, 34], [24, 34])])
def spec_InOrder.B6 : List Nat := [0, 1, 3, 7, 15, 7, 7, 71, 231, 487, 1023, 2047, 4095, 7, 8199, 32767, 65535, 131071, 262143, 524287, 262143, 1310719, 4194303, 8388607, 16777215, 33554431, 67108863, 134217727, 268435455, 536870911, 1073741823, 536870911, 2684354559, 8589934591, 17179869183, 34359738367]
theorem spec_InOrder.tab6 : rtab .any (opsOf Try.f75 6) = spec_InOrder.T6 := by kernel_rfl
theorem spec_InOrder.bits6 : waitsOk spec_InOrder.T6.2 spec_InOrder.B6 = true := by kernel_rfl
def spec_InOrder.T11 : Bool × List (List Nat × List Nat) := (true, [([], []), ([0], [0]), ([], []), ([1, 2], [1, 2]), ([3], [3]), ([], []), ([4, 5], [4, 5]), ([6, 6], [6]), ([7], [7]), ([8, 7], [7, 8]), ([7], [7]), ([9, 10, 7], [7, 9, 10]), ([11, 7], [7, 11]), ([12, 7], [7, 12]), ([7], [7]), ([14, 7], [7, 14]), ([13, 15, 7], [7, 13, 15]), ([7, 16], [7, 16])])
def spec_InOrder.B11 : List Nat := [0, 1, 0, 7, 15, 0, 63, 127, 255, 511, 255, 2047, 4095, 8191, 255, 16639, 65535, 131071]
theorem spec_InOrder.tab11 : rtab .any (opsOf Try.f75 11) = spec_InOrder.T11 := by kernel_rfl
theorem spec_InOrder.bits11 : waitsOk spec_InOrder.T11.2 spec_InOrder.B11 = true := by kernel_rfl
set_option maxHeartbeats 8000000 in
set_option maxRecDepth 100000 in
theorem spec_InOrder.calls (k : Nat) (A0_0 : Option Addr) (c0_0 : Nat) (l0_0 : List (S121)) (a0_1 : Int) (a0_2 : Int) (A0_3 : Option Addr) (c0_3 : Nat) (l0_3 : List (S126)) (r : Bool) (w : World) (hr0_0 : Kd.C k121 w A0_0 l0_0.length l0_0) (hc0_0 : l0_0.length ≤ c0_0) (hr0_3 : Kd.C k126 w A0_3 l0_3.length l0_3) (hc0_3 : l0_3.length ≤ c0_3) (h : spec_InOrder.f k l0_0 a0_1 a0_2 l0_3 = some r) :
  Calls Try.prog 75 #[.agg #[.slice A0_0 l0_0.length c0_0, .int .i64 a0_1, .int .i64 a0_2, .slice A0_3 l0_3.length c0_3]] w fun e w' => e = .returned (.bool r) ∧ Below w.heap.size w w' := by
 have hu56 := Try.underlying56
 have hu126 := Try.underlying126
 have HR0_0 := Aside0.mk hr0_0
 have HC0_0 := Aside0.mk hc0_0
 clear hr0_0 hc0_0
 have HR0_3 := Aside0.mk hr0_3
 have HC0_3 := Aside0.mk hc0_3
 clear hr0_3 hc0_3
 have HB := Aside0.mk (Below.refl w.heap.size w)
 have H : ((spec_OrderOf.f k l0_0 a0_1 a0_2 l0_3).bind fun t369 => (spec_InOrder.l0 k t369 t369 (t369.length : Int) 0 l0_0 a0_1 a0_2 l0_3)) = some r := h
 clear h
 obtain ⟨t369, A2, H⟩ := ob_ H
 have H' := Aside0.mk H
 clear H
 go_enter Try.func75, Try.ntmps75
 go_wp2_with (first | ((with_reducible refine gate_dst (N := 1) rfl ?_); refine be_ (N := 1) (cs := #[.slice A0_0 l0_0.length c0_0, .int .i64 a0_1, .int .i64 a0_2, .slice A0_3 l0_3.length c0_3]) (t := 56) ?_; intro gb368 hg w3 hbox hb; have BK368 := Aside0.mk (hbox); have GW368 := gw_ (w := w) hg; have GE368 := gw_ (w := w) hg; replace HB := Aside0.mk (below_step bl_ hb); clear hb hbox hg; obtain ⟨hcz4_0, hcz4_1, hcz4_2, hcz4_3, hfz4_0, hfz4_1, hfz4_2, hfz4_3⟩ := bx4_ BK368) | ((with_reducible refine gate_callee (f := 131) rfl ?_); refine goesL_ (some 10) rfl rfl Try.func131 (by kernel_rfl) rfl #[.agg #[.slice A0_0 l0_0.length c0_0, .int .i64 a0_1, .int .i64 a0_2, .slice A0_3 l0_3.length c0_3]] rfl gl_ ?_; (with_reducible refine (spec_OrderOf.calls k _ _ l0_0 a0_1 a0_2 _ _ l0_3 t369 _ ?side1 ?side2 ?side3 ?side4 A2.out).mono ?_); (case side1 => exact ca_ (Kd.C_below HR0_0.out HB.out)); (case side2 => exact HC0_0.out); (case side3 => exact ca_ (Kd.C_below HR0_3.out HB.out)); (case side4 => exact HC0_3.out); rintro e w5 ⟨v370, rfl, ho0, hb⟩; refine ⟨_, rfl, ?_⟩; have HO371 := Aside0.mk (Kd.R_lower ho0 (below_size bl_)); replace BK368 := Aside0.mk (blk_below (bk_ BK368) hb); replace HB := Aside0.mk (below_step bl_ hb); (try clear hb); (try clear hb2); (try clear hk); (try clear hi); (try clear ho0); obtain ⟨Ao6, co6, eo6⟩ := Kd.R_slice HO371.out; subst eo6))
 go_loopg [13] k (fun kq v13 w' => ∃ (x13_1 : Int), v13 = .int .i64 x13_1 ∧ Aside0 (spec_InOrder.l0 kq t369 t369 (t369.length : Int) x13_1 l0_0 a0_1 a0_2 l0_3 = some r) ∧ Aside0 (kq ≤ k) ∧ Aside0 (Kd.R (Kd.int .i64) 3 w' w.heap.size (fun _ => True) (.slice Ao6 t369.length co6) t369) ∧ Aside0 (Kd.R (Kd.int .i64) 3 w' w.heap.size (fun _ => True) (.slice Ao6 t369.length co6) t369) ∧ Aside0 (w'.heap[gb368]? = some (.cells #[(.slice A0_0 l0_0.length c0_0), .int .i64 a0_1, .int .i64 a0_2, (.slice A0_3 l0_3.length c0_3)] 56 (0, 0))) ∧ Aside0 (Below w.heap.size w w'))
 case atStart => exact ⟨(0), sp_, H', ⟨Nat.le_refl _⟩, ⟨ra_ HO371⟩, ⟨ra_ HO371⟩, ⟨by (with_reducible repeat (first | refine blk_drewN ?_ _ | refine blk_drew ?_ | refine blk_alloc ?_ _)); exact BK368.out⟩, ⟨bl_⟩⟩
 case round =>
  clear H'
  try clear c1
  try clear p2
  try clear hcz4_0
  try clear hcz4_1
  try clear hcz4_2
  try clear hcz4_3
  try clear hfz4_0
  try clear hfz4_1
  try clear hfz4_2
  try clear hfz4_3
  obtain ⟨x13_1, rfl, HA, HK1, HO_3, HO_11, BK368, HB⟩ := hrel
  cases gk with
  | zero => exact absurd HA.out (by simp [spec_InOrder.l0])
  | succ k1 =>
   have H := HA.out
   clear HA
   simp only [spec_InOrder.l0] at H
   by_cases c7 : x13_1 < (t369.length : Int)
   ·rw [if_pos c7] at H
    have c7b0 : decide (x13_1 < (t369.length : Int)) = true := decide_eq_true c7
    clear c7
    by_cases c8 : 0 ≤ x13_1
    ·rw [if_pos c8] at H
     have c8b0 : decide (0 ≤ x13_1) = true := decide_eq_true c8
     clear c8
     by_cases c9 : x13_1 < (t369.length : Int)
     ·rw [if_pos c9] at H
      have c9b0 : decide (x13_1 < (t369.length : Int)) = true := decide_eq_true c9
      clear c9
      by_cases c10 : 0 ≤ (rd t369 x13_1)
      ·rw [if_pos c10] at H
       have c10b0 : decide (0 ≤ (rd t369 x13_1)) = true := decide_eq_true c10
       clear c10
       by_cases c11 : (rd t369 x13_1) < (l0_3.length : Int)
       ·rw [if_pos c11] at H
        have c11b0 : decide ((rd t369 x13_1) < (l0_3.length : Int)) = true := decide_eq_true c11
        clear c11
        have HC12 := Aside0.mk H
        clear H
        have p372 : 0 ≤ (x13_1 : Int) := od_
        have q372 : x13_1 < (t369.length : Int) := od_
        obtain ⟨ad372, e372, hx372_0⟩ := Kd.at_int (Kd.R_reads' HO_11.out).2.2 x13_1 p372 q372
        cases e372
        replace p372 := eq_true p372
        replace q372 := eq_true q372
        have hcz13_0 := cz_ BK368 0 (.slice A0_0 l0_0.length c0_0)
        have hcz13_1 := cz_ BK368 1 (.int .i64 a0_1)
        have hcz13_2 := cz_ BK368 2 (.int .i64 a0_2)
        have hcz13_3 := cz_ BK368 3 (.slice A0_3 l0_3.length c0_3)
        have hfz13_0 := fz_ BK368 0
        have hfz13_1 := fz_ BK368 1
        have hfz13_2 := fz_ BK368 2
        have hfz13_3 := fz_ BK368 3
        have p373 : 0 ≤ ((rd t369 x13_1) : Int) := od_
        have q373 : (rd t369 x13_1) < (l0_3.length : Int) := od_
        obtain ⟨ad373, A373_0, c373_0, A373_2, c373_2, A373_8, c373_8, e373, hx373_0, hx373_1, hx373_2, hx373_3, hx373_4, hx373_5, hx373_6, hx373_7, hx373_8, hl373_0, hi373_0, hl373_2, hi373_2, hl373_8, hi373_8⟩ := at_T126 HR0_3.out (rd t369 x13_1) p373 q373
        cases e373
        replace hx373_0 := kc_ HB hx373_0
        replace hx373_1 := kc_ HB hx373_1
        replace hx373_2 := kc_ HB hx373_2
        replace hx373_3 := kc_ HB hx373_3
        replace hx373_4 := kc_ HB hx373_4
        replace hx373_5 := kc_ HB hx373_5
        replace hx373_6 := kc_ HB hx373_6
        replace hx373_7 := kc_ HB hx373_7
        replace hx373_8 := kc_ HB hx373_8
        have HR373_0 := Aside0.mk hi373_0
        have HC373_0 := Aside0.mk hl373_0
        clear hi373_0 hl373_0
        have HR373_2 := Aside0.mk hi373_2
        have HC373_2 := Aside0.mk hl373_2
        clear hi373_2 hl373_2
        have HR373_8 := Aside0.mk hi373_8
        have HC373_8 := Aside0.mk hl373_8
        clear hi373_8 hl373_8
        replace p373 := eq_true p373
        replace q373 := eq_true q373
        go_upto_region 6 with (first | ((with_reducible refine gate_dst (N := 6) rfl ?_); refine be_ (N := 6) (cs := #[.slice none 0 0, .int .i64 0, .slice none 0 0, .int .i64 0, .int .i64 0, .int .i64 0, .int .i64 0, .int .i64 0, .slice none 0 0]) (t := 126) ?_; intro gb374 hg w14 hbox hb; replace HO_3 := Aside0.mk (Kd.R_below (ra_ HO_3) hb); replace HO_11 := Aside0.mk (Kd.R_below (ra_ HO_11) hb); have BK374 := Aside0.mk (hbox); have GW374 := gw_ (w := w) hg; have GE374 := gw_ (w := w) hg; replace HB := Aside0.mk (below_step bl_ hb); have NB368_374 := Aside0.mk ((by rw [hg]; exact Nat.ne_of_lt (blk_lt (bk_ BK368)) : gb368 ≠ gb374)); have NB374_368 := Aside0.mk ((by rw [hg]; exact Nat.ne_of_gt (blk_lt (bk_ BK368)) : gb374 ≠ gb368)); replace BK368 := Aside0.mk (blk_below (bk_ BK368) hb); clear hb hbox hg; have hnb15 := NB374_368.out; have hnc15 := NB368_374.out; obtain ⟨hcz16_0, hcz16_1, hcz16_2, hcz16_3, hcz16_4, hcz16_5, hcz16_6, hcz16_7, hcz16_8, hfz16_0, hfz16_1, hfz16_2, hfz16_3, hfz16_4, hfz16_5, hfz16_6, hfz16_7, hfz16_8⟩ := bx9_ BK374))
        (try simp only [Act.put, List.setIfInBounds_toArray, List.set_cons_zero, List.set_cons_succ])
        go_cut [58] (fun v58 wc => ∃ (kq : Nat) (x58_11 : Bool), v58 = .bool x58_11 ∧ Aside0 (spec_InOrder.j1 kq t369 t369 (t369.length : Int) x13_1 x58_11 l0_0 a0_1 a0_2 l0_3 ((rd_T126 l0_3 (rd t369 x13_1)).f0) ((rd_T126 l0_3 (rd t369 x13_1)).f1) ((rd_T126 l0_3 (rd t369 x13_1)).f2) ((rd_T126 l0_3 (rd t369 x13_1)).f3) ((rd_T126 l0_3 (rd t369 x13_1)).f4) ((rd_T126 l0_3 (rd t369 x13_1)).f5) ((rd_T126 l0_3 (rd t369 x13_1)).f6) ((rd_T126 l0_3 (rd t369 x13_1)).f7) ((rd_T126 l0_3 (rd t369 x13_1)).f8) = some r) ∧ Aside0 (kq ≤ k1) ∧ Aside0 (Kd.R (Kd.int .i64) 3 wc w.heap.size (fun _ => True) (.slice (some ad372) t369.length co6) t369) ∧ Aside0 (Kd.R (Kd.int .i64) 3 wc w.heap.size (fun _ => True) (.slice (some ad372) t369.length co6) t369) ∧ Aside0 (wc.heap[gb368]? = some (.cells #[(.slice A0_0 l0_0.length c0_0), .int .i64 a0_1, .int .i64 a0_2, (.slice (some ad373) l0_3.length c0_3)] 56 (0, 0))) ∧ Aside0 (wc.heap[gb374]? = some (.cells #[(.slice A373_0 ((rd_T126 l0_3 (rd t369 x13_1)).f0).length c373_0), .int .i64 ((rd_T126 l0_3 (rd t369 x13_1)).f1), (.slice A373_2 ((rd_T126 l0_3 (rd t369 x13_1)).f2).length c373_2), .int .i64 ((rd_T126 l0_3 (rd t369 x13_1)).f3), .int .i64 ((rd_T126 l0_3 (rd t369 x13_1)).f4), .int .i64 ((rd_T126 l0_3 (rd t369 x13_1)).f5), .int .i64 ((rd_T126 l0_3 (rd t369 x13_1)).f6), .int .i64 ((rd_T126 l0_3 (rd t369 x13_1)).f7), (.slice A373_8 ((rd_T126 l0_3 (rd t369 x13_1)).f8).length c373_8)] 126 (0, 0))) ∧ Aside0 (Below w.heap.size w wc))
        case first =>
         have H := HC12.out
         clear HC12
         by_cases c17 : x13_1 > 0
         ·rw [if_pos c17] at H
          have c17b0 : decide (0 < x13_1) = true := decide_eq_true c17
          clear c17
          (first | rw [c17b0] | (simp only [i64_w, i32_w]; rw [c17b0]) | skip)
          obtain ⟨ji18, hji18⟩ : ∃ j_ : Int, (wrap64 (x13_1 - 1)) = j_ := ⟨_, rfl⟩
          replace H : (if 0 ≤ (ji18) then (if (ji18) < (t369.length : Int) then (if 0 ≤ (rd t369 (ji18)) then (if (rd t369 (ji18)) < (l0_3.length : Int) then (if ((rd_T126 l0_3 (rd t369 (ji18))).f7) > ((rd_T126 l0_3 (rd t369 x13_1)).f7) then (spec_InOrder.j1 k1 t369 t369 (t369.length : Int) x13_1 true l0_0 a0_1 a0_2 l0_3 ((rd_T126 l0_3 (rd t369 x13_1)).f0) ((rd_T126 l0_3 (rd t369 x13_1)).f1) ((rd_T126 l0_3 (rd t369 x13_1)).f2) ((rd_T126 l0_3 (rd t369 x13_1)).f3) ((rd_T126 l0_3 (rd t369 x13_1)).f4) ((rd_T126 l0_3 (rd t369 x13_1)).f5) ((rd_T126 l0_3 (rd t369 x13_1)).f6) ((rd_T126 l0_3 (rd t369 x13_1)).f7) ((rd_T126 l0_3 (rd t369 x13_1)).f8)) else (if ((rd_T126 l0_3 (rd t369 x13_1)).f5) < ((rd_T126 l0_3 (rd t369 x13_1)).f4) then (spec_InOrder.j1 k1 t369 t369 (t369.length : Int) x13_1 true l0_0 a0_1 a0_2 l0_3 ((rd_T126 l0_3 (rd t369 x13_1)).f0) ((rd_T126 l0_3 (rd t369 x13_1)).f1) ((rd_T126 l0_3 (rd t369 x13_1)).f2) ((rd_T126 l0_3 (rd t369 x13_1)).f3) ((rd_T126 l0_3 (rd t369 x13_1)).f4) ((rd_T126 l0_3 (rd t369 x13_1)).f5) ((rd_T126 l0_3 (rd t369 x13_1)).f6) ((rd_T126 l0_3 (rd t369 x13_1)).f7) ((rd_T126 l0_3 (rd t369 x13_1)).f8)) else (if ((rd_T126 l0_3 (rd t369 x13_1)).f6) = (-1) then (spec_InOrder.j1 k1 t369 t369 (t369.length : Int) x13_1 false l0_0 a0_1 a0_2 l0_3 ((rd_T126 l0_3 (rd t369 x13_1)).f0) ((rd_T126 l0_3 (rd t369 x13_1)).f1) ((rd_T126 l0_3 (rd t369 x13_1)).f2) ((rd_T126 l0_3 (rd t369 x13_1)).f3) ((rd_T126 l0_3 (rd t369 x13_1)).f4) ((rd_T126 l0_3 (rd t369 x13_1)).f5) ((rd_T126 l0_3 (rd t369 x13_1)).f6) ((rd_T126 l0_3 (rd t369 x13_1)).f7) ((rd_T126 l0_3 (rd t369 x13_1)).f8)) else (spec_InOrder.j1 k1 t369 t369 (t369.length : Int) x13_1 (decide (((rd_T126 l0_3 (rd t369 x13_1)).f5) > ((rd_T126 l0_3 (rd t369 x13_1)).f6))) l0_0 a0_1 a0_2 l0_3 ((rd_T126 l0_3 (rd t369 x13_1)).f0) ((rd_T126 l0_3 (rd t369 x13_1)).f1) ((rd_T126 l0_3 (rd t369 x13_1)).f2) ((rd_T126 l0_3 (rd t369 x13_1)).f3) ((rd_T126 l0_3 (rd t369 x13_1)).f4) ((rd_T126 l0_3 (rd t369 x13_1)).f5) ((rd_T126 l0_3 (rd t369 x13_1)).f6) ((rd_T126 l0_3 (rd t369 x13_1)).f7) ((rd_T126 l0_3 (rd t369 x13_1)).f8))))) else (none)) else (none)) else (none)) else (none)) = some r := by first | (rw [hji18] at H; exact H) | (simp only [hji18] at H ⊢; exact H)
          have hji18w : (IntKind.i64.wrap (x13_1 - 1)) = ji18 := (i64_w _).trans hji18
          by_cases c19 : 0 ≤ (ji18)
          ·rw [if_pos c19] at H
           have c19b0 : decide (0 ≤ (ji18)) = true := decide_eq_true c19
           clear c19
           by_cases c20 : (ji18) < (t369.length : Int)
           ·rw [if_pos c20] at H
            have c20b0 : decide ((ji18) < (t369.length : Int)) = true := decide_eq_true c20
            clear c20
            by_cases c21 : 0 ≤ (rd t369 (ji18))
            ·rw [if_pos c21] at H
             have c21b0 : decide (0 ≤ (rd t369 (ji18))) = true := decide_eq_true c21
             clear c21
             by_cases c22 : (rd t369 (ji18)) < (l0_3.length : Int)
             ·rw [if_pos c22] at H
              have c22b0 : decide ((rd t369 (ji18)) < (l0_3.length : Int)) = true := decide_eq_true c22
              clear c22
              by_cases c23 : ((rd_T126 l0_3 (rd t369 (ji18))).f7) > ((rd_T126 l0_3 (rd t369 x13_1)).f7)
              ·rw [if_pos c23] at H
               have c23b0 : decide (((rd_T126 l0_3 (rd t369 x13_1)).f7) < ((rd_T126 l0_3 (rd t369 (ji18))).f7)) = true := decide_eq_true c23
               clear c23
               have H' := Aside0.mk H
               clear H
               try go_wp2
               have n0_ := Aside0.mk (Kd.R_mono (ok' := fun _ => True) (Kd.R_far (p := ⟨gb374, 8, none⟩) (Kd.R_far (p := ⟨gb374, 7, none⟩) (Kd.R_far (p := ⟨gb374, 6, none⟩) (Kd.R_far (p := ⟨gb374, 5, none⟩) (Kd.R_far (p := ⟨gb374, 4, none⟩) (Kd.R_far (p := ⟨gb374, 3, none⟩) (Kd.R_far (p := ⟨gb374, 2, none⟩) (Kd.R_far (p := ⟨gb374, 1, none⟩) (Kd.R_far (p := ⟨gb374, 0, none⟩) (Kd.R_types HO_3.out BK374.out (by decide)) (fun _ hk => hk.2) (.slice A373_0 ((rd_T126 l0_3 (rd t369 x13_1)).f0).length c373_0)) (fun _ hk => hk.2) (.int .i64 ((rd_T126 l0_3 (rd t369 x13_1)).f1))) (fun _ hk => hk.2) (.slice A373_2 ((rd_T126 l0_3 (rd t369 x13_1)).f2).length c373_2)) (fun _ hk => hk.2) (.int .i64 ((rd_T126 l0_3 (rd t369 x13_1)).f3))) (fun _ hk => hk.2) (.int .i64 ((rd_T126 l0_3 (rd t369 x13_1)).f4))) (fun _ hk => hk.2) (.int .i64 ((rd_T126 l0_3 (rd t369 x13_1)).f5))) (fun _ hk => hk.2) (.int .i64 ((rd_T126 l0_3 (rd t369 x13_1)).f6))) (fun _ hk => hk.2) (.int .i64 ((rd_T126 l0_3 (rd t369 x13_1)).f7))) (fun _ hk => hk.2) (.slice A373_8 ((rd_T126 l0_3 (rd t369 x13_1)).f8).length c373_8)) (fun _ hk => trivial))
               have n1_ := Aside0.mk (Kd.R_mono (ok' := fun _ => True) (Kd.R_far (p := ⟨gb374, 8, none⟩) (Kd.R_far (p := ⟨gb374, 7, none⟩) (Kd.R_far (p := ⟨gb374, 6, none⟩) (Kd.R_far (p := ⟨gb374, 5, none⟩) (Kd.R_far (p := ⟨gb374, 4, none⟩) (Kd.R_far (p := ⟨gb374, 3, none⟩) (Kd.R_far (p := ⟨gb374, 2, none⟩) (Kd.R_far (p := ⟨gb374, 1, none⟩) (Kd.R_far (p := ⟨gb374, 0, none⟩) (Kd.R_types HO_11.out BK374.out (by decide)) (fun _ hk => hk.2) (.slice A373_0 ((rd_T126 l0_3 (rd t369 x13_1)).f0).length c373_0)) (fun _ hk => hk.2) (.int .i64 ((rd_T126 l0_3 (rd t369 x13_1)).f1))) (fun _ hk => hk.2) (.slice A373_2 ((rd_T126 l0_3 (rd t369 x13_1)).f2).length c373_2)) (fun _ hk => hk.2) (.int .i64 ((rd_T126 l0_3 (rd t369 x13_1)).f3))) (fun _ hk => hk.2) (.int .i64 ((rd_T126 l0_3 (rd t369 x13_1)).f4))) (fun _ hk => hk.2) (.int .i64 ((rd_T126 l0_3 (rd t369 x13_1)).f5))) (fun _ hk => hk.2) (.int .i64 ((rd_T126 l0_3 (rd t369 x13_1)).f6))) (fun _ hk => hk.2) (.int .i64 ((rd_T126 l0_3 (rd t369 x13_1)).f7))) (fun _ hk => hk.2) (.slice A373_8 ((rd_T126 l0_3 (rd t369 x13_1)).f8).length c373_8)) (fun _ hk => trivial))
               have n2_ : Aside0 ((((((((((w14.setCell ⟨gb374, 0, none⟩ (.slice A373_0 ((rd_T126 l0_3 (rd t369 x13_1)).f0).length c373_0)).setCell ⟨gb374, 1, none⟩ (.int .i64 ((rd_T126 l0_3 (rd t369 x13_1)).f1))).setCell ⟨gb374, 2, none⟩ (.slice A373_2 ((rd_T126 l0_3 (rd t369 x13_1)).f2).length c373_2)).setCell ⟨gb374, 3, none⟩ (.int .i64 ((rd_T126 l0_3 (rd t369 x13_1)).f3))).setCell ⟨gb374, 4, none⟩ (.int .i64 ((rd_T126 l0_3 (rd t369 x13_1)).f4))).setCell ⟨gb374, 5, none⟩ (.int .i64 ((rd_T126 l0_3 (rd t369 x13_1)).f5))).setCell ⟨gb374, 6, none⟩ (.int .i64 ((rd_T126 l0_3 (rd t369 x13_1)).f6))).setCell ⟨gb374, 7, none⟩ (.int .i64 ((rd_T126 l0_3 (rd t369 x13_1)).f7))).setCell ⟨gb374, 8, none⟩ (.slice A373_8 ((rd_T126 l0_3 (rd t369 x13_1)).f8).length c373_8)).heap[gb368]? = some (.cells #[.slice A0_0 l0_0.length c0_0, .int .i64 a0_1, .int .i64 a0_2, .slice (some ad373) l0_3.length c0_3] 56 (0, 0))) := ⟨by (repeat (with_reducible refine blk_far ?_ NB368_374.out _)); exact BK368.out⟩
               have n3_ : Aside0 ((((((((((w14.setCell ⟨gb374, 0, none⟩ (.slice A373_0 ((rd_T126 l0_3 (rd t369 x13_1)).f0).length c373_0)).setCell ⟨gb374, 1, none⟩ (.int .i64 ((rd_T126 l0_3 (rd t369 x13_1)).f1))).setCell ⟨gb374, 2, none⟩ (.slice A373_2 ((rd_T126 l0_3 (rd t369 x13_1)).f2).length c373_2)).setCell ⟨gb374, 3, none⟩ (.int .i64 ((rd_T126 l0_3 (rd t369 x13_1)).f3))).setCell ⟨gb374, 4, none⟩ (.int .i64 ((rd_T126 l0_3 (rd t369 x13_1)).f4))).setCell ⟨gb374, 5, none⟩ (.int .i64 ((rd_T126 l0_3 (rd t369 x13_1)).f5))).setCell ⟨gb374, 6, none⟩ (.int .i64 ((rd_T126 l0_3 (rd t369 x13_1)).f6))).setCell ⟨gb374, 7, none⟩ (.int .i64 ((rd_T126 l0_3 (rd t369 x13_1)).f7))).setCell ⟨gb374, 8, none⟩ (.slice A373_8 ((rd_T126 l0_3 (rd t369 x13_1)).f8).length c373_8)).heap[gb374]? = some (.cells #[.slice A373_0 ((rd_T126 l0_3 (rd t369 x13_1)).f0).length c373_0, .int .i64 ((rd_T126 l0_3 (rd t369 x13_1)).f1), .slice A373_2 ((rd_T126 l0_3 (rd t369 x13_1)).f2).length c373_2, .int .i64 ((rd_T126 l0_3 (rd t369 x13_1)).f3), .int .i64 ((rd_T126 l0_3 (rd t369 x13_1)).f4), .int .i64 ((rd_T126 l0_3 (rd t369 x13_1)).f5), .int .i64 ((rd_T126 l0_3 (rd t369 x13_1)).f6), .int .i64 ((rd_T126 l0_3 (rd t369 x13_1)).f7), .slice A373_8 ((rd_T126 l0_3 (rd t369 x13_1)).f8).length c373_8] 126 (0, 0))) := ⟨by (with_reducible repeat (first | refine blk_drewN ?_ _ | refine blk_drew ?_ | refine blk_alloc ?_ _)); apply bq9_8_7_6_5_4_3_2_1_0_; (with_reducible repeat (first | refine blk_drewN ?_ _ | refine blk_drew ?_ | refine blk_alloc ?_ _)); exact BK374.out⟩
               have n4_ : Aside0 (Below w.heap.size w (((((((((w14.setCell ⟨gb374, 0, none⟩ (.slice A373_0 ((rd_T126 l0_3 (rd t369 x13_1)).f0).length c373_0)).setCell ⟨gb374, 1, none⟩ (.int .i64 ((rd_T126 l0_3 (rd t369 x13_1)).f1))).setCell ⟨gb374, 2, none⟩ (.slice A373_2 ((rd_T126 l0_3 (rd t369 x13_1)).f2).length c373_2)).setCell ⟨gb374, 3, none⟩ (.int .i64 ((rd_T126 l0_3 (rd t369 x13_1)).f3))).setCell ⟨gb374, 4, none⟩ (.int .i64 ((rd_T126 l0_3 (rd t369 x13_1)).f4))).setCell ⟨gb374, 5, none⟩ (.int .i64 ((rd_T126 l0_3 (rd t369 x13_1)).f5))).setCell ⟨gb374, 6, none⟩ (.int .i64 ((rd_T126 l0_3 (rd t369 x13_1)).f6))).setCell ⟨gb374, 7, none⟩ (.int .i64 ((rd_T126 l0_3 (rd t369 x13_1)).f7))).setCell ⟨gb374, 8, none⟩ (.slice A373_8 ((rd_T126 l0_3 (rd t369 x13_1)).f8).length c373_8))) := ⟨bl_⟩
               (try clear HO_3)
               (try clear HO_11)
               (try clear BK368)
               (try clear BK374)
               (try clear HB)
               generalize (((((((((w14.setCell ⟨gb374, 0, none⟩ (.slice A373_0 ((rd_T126 l0_3 (rd t369 x13_1)).f0).length c373_0)).setCell ⟨gb374, 1, none⟩ (.int .i64 ((rd_T126 l0_3 (rd t369 x13_1)).f1))).setCell ⟨gb374, 2, none⟩ (.slice A373_2 ((rd_T126 l0_3 (rd t369 x13_1)).f2).length c373_2)).setCell ⟨gb374, 3, none⟩ (.int .i64 ((rd_T126 l0_3 (rd t369 x13_1)).f3))).setCell ⟨gb374, 4, none⟩ (.int .i64 ((rd_T126 l0_3 (rd t369 x13_1)).f4))).setCell ⟨gb374, 5, none⟩ (.int .i64 ((rd_T126 l0_3 (rd t369 x13_1)).f5))).setCell ⟨gb374, 6, none⟩ (.int .i64 ((rd_T126 l0_3 (rd t369 x13_1)).f6))).setCell ⟨gb374, 7, none⟩ (.int .i64 ((rd_T126 l0_3 (rd t369 x13_1)).f7))).setCell ⟨gb374, 8, none⟩ (.slice A373_8 ((rd_T126 l0_3 (rd t369 x13_1)).f8).length c373_8)) = w24 at n0_ n1_ n2_ n3_ n4_ ⊢
               have HO_3 := n0_
               have HO_11 := n1_
               have BK368 := n2_
               have BK374 := n3_
               have HB := n4_
               clear n0_ n1_ n2_ n3_ n4_
               have n0_ := Aside0.mk (Kd.R_drew HO_3.out)
               have n1_ := Aside0.mk (Kd.R_drew HO_11.out)
               have n2_ := Aside0.mk (blk_drew BK368.out)
               have n3_ := Aside0.mk (blk_drew BK374.out)
               have n4_ := Aside0.mk (below_drew1 HB.out)
               clear HO_3
               clear HO_11
               clear BK368
               clear BK374
               clear HB
               have HO_3 := n0_
               have HO_11 := n1_
               have BK368 := n2_
               have BK374 := n3_
               have HB := n4_
               clear n0_ n1_ n2_ n3_ n4_
               have p375 : 0 ≤ ((ji18) : Int) := od_
               have q375 : (ji18) < (t369.length : Int) := od_
               obtain ⟨ad375, e375, hx375_0⟩ := Kd.at_int (Kd.R_reads' HO_3.out).2.2 (ji18) p375 q375
               obtain rfl : ad372 = ad375 := (by injection e375)
               replace p375 := eq_true p375
               replace q375 := eq_true q375
               have p376 : 0 ≤ ((rd t369 (ji18)) : Int) := od_
               have q376 : (rd t369 (ji18)) < (l0_3.length : Int) := od_
               obtain ⟨ad376, A376_0, c376_0, A376_2, c376_2, A376_8, c376_8, e376, hx376_0, hx376_1, hx376_2, hx376_3, hx376_4, hx376_5, hx376_6, hx376_7, hx376_8, hl376_0, hi376_0, hl376_2, hi376_2, hl376_8, hi376_8⟩ := at_T126 HR0_3.out (rd t369 (ji18)) p376 q376
               have hw376_8 := hx376_8
               have hw376_7 := hx376_7
               have hw376_6 := hx376_6
               have hw376_5 := hx376_5
               have hw376_4 := hx376_4
               have hw376_3 := hx376_3
               have hw376_2 := hx376_2
               have hw376_1 := hx376_1
               have hw376_0 := hx376_0
               obtain rfl : ad373 = ad376 := (by injection e376)
               replace hx376_0 := kc_ HB hx376_0
               replace hx376_1 := kc_ HB hx376_1
               replace hx376_2 := kc_ HB hx376_2
               replace hx376_3 := kc_ HB hx376_3
               replace hx376_4 := kc_ HB hx376_4
               replace hx376_5 := kc_ HB hx376_5
               replace hx376_6 := kc_ HB hx376_6
               replace hx376_7 := kc_ HB hx376_7
               replace hx376_8 := kc_ HB hx376_8
               have HR376_0 := Aside0.mk hi376_0
               have HC376_0 := Aside0.mk hl376_0
               clear hi376_0 hl376_0
               have HR376_2 := Aside0.mk hi376_2
               have HC376_2 := Aside0.mk hl376_2
               clear hi376_2 hl376_2
               have HR376_8 := Aside0.mk hi376_8
               have HC376_8 := Aside0.mk hl376_8
               clear hi376_8 hl376_8
               replace p376 := eq_true p376
               replace q376 := eq_true q376
               refine start_ (n := 36) (S := fun w' => w'.cell? ⟨gb368, 0, none⟩ = some (.slice A0_0 l0_0.length c0_0) ∧ w'.cell? ⟨gb368, 1, none⟩ = some (.int .i64 a0_1) ∧ w'.cell? ⟨gb368, 2, none⟩ = some (.int .i64 a0_2) ∧ w'.cell? ⟨gb368, 3, none⟩ = some (.slice (some ad373) l0_3.length c0_3) ∧ w'.cell? ⟨gb374, 0, none⟩ = some (.slice A373_0 ((rd_T126 l0_3 (rd t369 x13_1)).f0).length c373_0) ∧ w'.cell? ⟨gb374, 1, none⟩ = some (.int .i64 ((rd_T126 l0_3 (rd t369 x13_1)).f1)) ∧ w'.cell? ⟨gb374, 2, none⟩ = some (.slice A373_2 ((rd_T126 l0_3 (rd t369 x13_1)).f2).length c373_2) ∧ w'.cell? ⟨gb374, 3, none⟩ = some (.int .i64 ((rd_T126 l0_3 (rd t369 x13_1)).f3)) ∧ w'.cell? ⟨gb374, 4, none⟩ = some (.int .i64 ((rd_T126 l0_3 (rd t369 x13_1)).f4)) ∧ w'.cell? ⟨gb374, 5, none⟩ = some (.int .i64 ((rd_T126 l0_3 (rd t369 x13_1)).f5)) ∧ w'.cell? ⟨gb374, 6, none⟩ = some (.int .i64 ((rd_T126 l0_3 (rd t369 x13_1)).f6)) ∧ w'.cell? ⟨gb374, 7, none⟩ = some (.int .i64 ((rd_T126 l0_3 (rd t369 x13_1)).f7)) ∧ w'.cell? ⟨gb374, 8, none⟩ = some (.slice A373_8 ((rd_T126 l0_3 (rd t369 x13_1)).f8).length c373_8) ∧ w'.cell? (ad372.add ((ji18)).toNat) = some (.int .i64 (rd t369 (ji18))) ∧ w'.cell? (ad373.add (((rd t369 (ji18))).toNat * 9)) = some (.slice A376_0 ((rd_T126 l0_3 (rd t369 (ji18))).f0).length c376_0) ∧ w'.cell? ⟨(ad373.add (((rd t369 (ji18))).toNat * 9)).block, (ad373.add (((rd t369 (ji18))).toNat * 9)).off + 1, none⟩ = some (.int .i64 ((rd_T126 l0_3 (rd t369 (ji18))).f1)) ∧ w'.cell? ⟨(ad373.add (((rd t369 (ji18))).toNat * 9)).block, (ad373.add (((rd t369 (ji18))).toNat * 9)).off + 2, none⟩ = some (.slice A376_2 ((rd_T126 l0_3 (rd t369 (ji18))).f2).length c376_2) ∧ w'.cell? ⟨(ad373.add (((rd t369 (ji18))).toNat * 9)).block, (ad373.add (((rd t369 (ji18))).toNat * 9)).off + 3, none⟩ = some (.int .i64 ((rd_T126 l0_3 (rd t369 (ji18))).f3)) ∧ w'.cell? ⟨(ad373.add (((rd t369 (ji18))).toNat * 9)).block, (ad373.add (((rd t369 (ji18))).toNat * 9)).off + 4, none⟩ = some (.int .i64 ((rd_T126 l0_3 (rd t369 (ji18))).f4)) ∧ w'.cell? ⟨(ad373.add (((rd t369 (ji18))).toNat * 9)).block, (ad373.add (((rd t369 (ji18))).toNat * 9)).off + 5, none⟩ = some (.int .i64 ((rd_T126 l0_3 (rd t369 (ji18))).f5)) ∧ w'.cell? ⟨(ad373.add (((rd t369 (ji18))).toNat * 9)).block, (ad373.add (((rd t369 (ji18))).toNat * 9)).off + 6, none⟩ = some (.int .i64 ((rd_T126 l0_3 (rd t369 (ji18))).f6)) ∧ w'.cell? ⟨(ad373.add (((rd t369 (ji18))).toNat * 9)).block, (ad373.add (((rd t369 (ji18))).toNat * 9)).off + 7, none⟩ = some (.int .i64 ((rd_T126 l0_3 (rd t369 (ji18))).f7)) ∧ w'.cell? ⟨(ad373.add (((rd t369 (ji18))).toNat * 9)).block, (ad373.add (((rd t369 (ji18))).toNat * 9)).off + 8, none⟩ = some (.slice A376_8 ((rd_T126 l0_3 (rd t369 (ji18))).f8).length c376_8)) (ds := []) tb36_0_9 (by kernel_rfl) rfl rfl ⟨cy_ BK368 0, cy_ BK368 1, cy_ BK368 2, cy_ BK368 3, cy_ BK374 0, cy_ BK374 1, cy_ BK374 2, cy_ BK374 3, cy_ BK374 4, cy_ BK374 5, cy_ BK374 6, cy_ BK374 7, cy_ BK374 8, hx375_0, (kc_ HB hw376_0), (kc_ HB hw376_1), (kc_ HB hw376_2), (kc_ HB hw376_3), (kc_ HB hw376_4), (kc_ HB hw376_5), (kc_ HB hw376_6), (kc_ HB hw376_7), (kc_ HB hw376_8)⟩ (fun hHeld => ?_); refine with_tabW spec_InOrder.tab6 spec_InOrder.bits6 (fun HT_ HW_ => ?_)
               generalize w24.drew = w25 at HO_3 HO_11 BK368 BK374 HB HR376_0 HR376_2 HR376_8 hx375_0 hx376_0 hx376_1 hx376_2 hx376_3 hx376_4 hx376_5 hx376_6 hx376_7 hx376_8 hHeld ⊢
               refine pl_ HT_ 0 23 tb36_1_9 ?_
               refine pl_ HT_ 1 24 tb36_3_9 ?_
               refine pl_ HT_ 2 25 tb36_7_9 ?_
               refine pl_ HT_ 3 26 tb36_f_9 ?_
               refine pl_ HT_ 5 28 tb36_2f_9 ?_
               refine pl_ HT_ 6 29 tb36_6f_9 ?_
               refine pl_ HT_ 7 30 tb36_ef_9 ?_
               refine pl_ HT_ 8 31 tb36_1ef_9 ?_
               refine pl_ HT_ 13 36 tb36_21ef_9 ?_
               refine take_ (i := 4) (N := some 27) (v := ?_) (a' := ?_) tb36_21ff_9 rfl rfl (take_ofW HT_.out HW_.out (by kernel_rfl)) (fun _ _ _ h => h) (Or.inl ⟨by rfl, ?_⟩) hHeld ?_ ?_
               rotate_left
               ·rintro w' ⟨s0, s1, s2, s3, s4, s5, s6, s7, s8, s9, s10, s11, s12, s13, s14, s15, s16, s17, s18, s19, s20, s21, s22⟩
                go_simp
                with_reducible rfl
               rotate_left
               ·simp only [Act.put, q_]
                rfl
               refine take_ (i := 9) (N := some 32) (v := ?_) (a' := ?_) tb36_23ff_9 rfl rfl (take_ofW HT_.out HW_.out (by kernel_rfl)) (fun _ _ _ h => h) (Or.inl ⟨by rfl, ?_⟩) hHeld ?_ ?_
               rotate_left
               ·rintro w' ⟨s0, s1, s2, s3, s4, s5, s6, s7, s8, s9, s10, s11, s12, s13, s14, s15, s16, s17, s18, s19, s20, s21, s22⟩
                go_simp
                with_reducible rfl
               rotate_left
               ·simp only [Act.put, q_]
                rfl
               refine pl_ HT_ 10 33 tb36_27ff_9 ?_
               refine pl_ HT_ 11 34 tb36_2fff_9 ?_
               refine take_ (i := 12) (N := some 35) (v := ?_) (a' := ?_) tb36_3fff_9 rfl rfl (take_ofW HT_.out HW_.out (by kernel_rfl)) (fun _ _ _ h => h) (Or.inl ⟨by rfl, ?_⟩) hHeld ?_ ?_
               rotate_left
               ·rintro w' ⟨s0, s1, s2, s3, s4, s5, s6, s7, s8, s9, s10, s11, s12, s13, s14, s15, s16, s17, s18, s19, s20, s21, s22⟩
                go_simp
                with_reducible rfl
               rotate_left
               ·simp only [Act.put, q_]
                rfl
               refine take_ (i := 14) (N := some 37) (v := ?_) (a' := ?_) tb36_7fff_9 rfl rfl (take_ofW HT_.out HW_.out (by kernel_rfl)) (fun _ _ _ h => h) (Or.inl ⟨by rfl, ?_⟩) hHeld ?_ ?_
               rotate_left
               ·rintro w' ⟨s0, s1, s2, s3, s4, s5, s6, s7, s8, s9, s10, s11, s12, s13, s14, s15, s16, s17, s18, s19, s20, s21, s22⟩
                go_simp
                with_reducible rfl
               rotate_left
               ·simp only [Act.put, q_]
                rfl
               refine pl_ HT_ 15 38 tb36_ffff_9 ?_
               refine pl_ HT_ 16 39 tb36_1ffff_9 ?_
               refine pl_ HT_ 17 40 tb36_3ffff_9 ?_
               refine pr_ HT_ 18 41 tb36_7ffff_9 ?_
               refine pr_ HT_ 19 42 tb36_fffff_9 ?_
               refine pr_ HT_ 20 43 tb36_1fffff_9 ?_
               refine pr_ HT_ 21 44 tb36_3fffff_9 ?_
               refine pr_ HT_ 22 45 tb36_7fffff_9 ?_
               refine pl_ HT_ 23 46 tb36_ffffff_9 ?_
               refine pl_ HT_ 24 47 tb36_1ffffff_9 ?_
               refine pr_ HT_ 25 48 tb36_3ffffff_9 ?_
               refine pr_ HT_ 26 49 tb36_7ffffff_9 ?_
               refine pr_ HT_ 27 50 tb36_fffffff_9 ?_
               refine pr_ HT_ 28 51 tb36_1fffffff_9 ?_
               refine pr_ HT_ 29 52 tb36_3fffffff_9 ?_
               refine pr_ HT_ 30 53 tb36_7fffffff_9 ?_
               refine pr_ HT_ 31 54 tb36_ffffffff_9 ?_
               refine pr_ HT_ 32 55 tb36_1ffffffff_9 ?_
               refine pr_ HT_ 33 56 tb36_3ffffffff_9 ?_
               refine pr_ HT_ 34 57 tb36_7ffffffff_9 ?_
               refine pl_ HT_ 35 58 tb36_fffffffff_9 ?_
               refine done_ (done_of HT_.out (by kernel_rfl)) ?_
               try go_wp2
               go_meet
               case rel => exact ⟨_, (true), sp_, H', ⟨by have := HK1.out; first | omega | exact Nat.le_refl _⟩, ⟨ra_ HO_3⟩, ⟨ra_ HO_11⟩, ⟨by (with_reducible repeat (first | refine blk_drewN ?_ _ | refine blk_drew ?_ | refine blk_alloc ?_ _)); exact BK368.out⟩, ⟨by (with_reducible repeat (first | refine blk_drewN ?_ _ | refine blk_drew ?_ | refine blk_alloc ?_ _)); exact BK374.out⟩, ⟨bl_⟩⟩
              ·rw [if_neg c23] at H
               have c23b0 : decide (((rd_T126 l0_3 (rd t369 x13_1)).f7) < ((rd_T126 l0_3 (rd t369 (ji18))).f7)) = false := decide_eq_false c23
               clear c23
               by_cases c26 : ((rd_T126 l0_3 (rd t369 x13_1)).f5) < ((rd_T126 l0_3 (rd t369 x13_1)).f4)
               ·rw [if_pos c26] at H
                have c26b0 : decide (((rd_T126 l0_3 (rd t369 x13_1)).f5) < ((rd_T126 l0_3 (rd t369 x13_1)).f4)) = true := decide_eq_true c26
                clear c26
                have H' := Aside0.mk H
                clear H
                try go_wp2
                have n0_ := Aside0.mk (Kd.R_mono (ok' := fun _ => True) (Kd.R_far (p := ⟨gb374, 8, none⟩) (Kd.R_far (p := ⟨gb374, 7, none⟩) (Kd.R_far (p := ⟨gb374, 6, none⟩) (Kd.R_far (p := ⟨gb374, 5, none⟩) (Kd.R_far (p := ⟨gb374, 4, none⟩) (Kd.R_far (p := ⟨gb374, 3, none⟩) (Kd.R_far (p := ⟨gb374, 2, none⟩) (Kd.R_far (p := ⟨gb374, 1, none⟩) (Kd.R_far (p := ⟨gb374, 0, none⟩) (Kd.R_types HO_3.out BK374.out (by decide)) (fun _ hk => hk.2) (.slice A373_0 ((rd_T126 l0_3 (rd t369 x13_1)).f0).length c373_0)) (fun _ hk => hk.2) (.int .i64 ((rd_T126 l0_3 (rd t369 x13_1)).f1))) (fun _ hk => hk.2) (.slice A373_2 ((rd_T126 l0_3 (rd t369 x13_1)).f2).length c373_2)) (fun _ hk => hk.2) (.int .i64 ((rd_T126 l0_3 (rd t369 x13_1)).f3))) (fun _ hk => hk.2) (.int .i64 ((rd_T126 l0_3 (rd t369 x13_1)).f4))) (fun _ hk => hk.2) (.int .i64 ((rd_T126 l0_3 (rd t369 x13_1)).f5))) (fun _ hk => hk.2) (.int .i64 ((rd_T126 l0_3 (rd t369 x13_1)).f6))) (fun _ hk => hk.2) (.int .i64 ((rd_T126 l0_3 (rd t369 x13_1)).f7))) (fun _ hk => hk.2) (.slice A373_8 ((rd_T126 l0_3 (rd t369 x13_1)).f8).length c373_8)) (fun _ hk => trivial))
                have n1_ := Aside0.mk (Kd.R_mono (ok' := fun _ => True) (Kd.R_far (p := ⟨gb374, 8, none⟩) (Kd.R_far (p := ⟨gb374, 7, none⟩) (Kd.R_far (p := ⟨gb374, 6, none⟩) (Kd.R_far (p := ⟨gb374, 5, none⟩) (Kd.R_far (p := ⟨gb374, 4, none⟩) (Kd.R_far (p := ⟨gb374, 3, none⟩) (Kd.R_far (p := ⟨gb374, 2, none⟩) (Kd.R_far (p := ⟨gb374, 1, none⟩) (Kd.R_far (p := ⟨gb374, 0, none⟩) (Kd.R_types HO_11.out BK374.out (by decide)) (fun _ hk => hk.2) (.slice A373_0 ((rd_T126 l0_3 (rd t369 x13_1)).f0).length c373_0)) (fun _ hk => hk.2) (.int .i64 ((rd_T126 l0_3 (rd t369 x13_1)).f1))) (fun _ hk => hk.2) (.slice A373_2 ((rd_T126 l0_3 (rd t369 x13_1)).f2).length c373_2)) (fun _ hk => hk.2) (.int .i64 ((rd_T126 l0_3 (rd t369 x13_1)).f3))) (fun _ hk => hk.2) (.int .i64 ((rd_T126 l0_3 (rd t369 x13_1)).f4))) (fun _ hk => hk.2) (.int .i64 ((rd_T126 l0_3 (rd t369 x13_1)).f5))) (fun _ hk => hk.2) (.int .i64 ((rd_T126 l0_3 (rd t369 x13_1)).f6))) (fun _ hk => hk.2) (.int .i64 ((rd_T126 l0_3 (rd t369 x13_1)).f7))) (fun _ hk => hk.2) (.slice A373_8 ((rd_T126 l0_3 (rd t369 x13_1)).f8).length c373_8)) (fun _ hk => trivial))
                have n2_ : Aside0 ((((((((((w14.setCell ⟨gb374, 0, none⟩ (.slice A373_0 ((rd_T126 l0_3 (rd t369 x13_1)).f0).length c373_0)).setCell ⟨gb374, 1, none⟩ (.int .i64 ((rd_T126 l0_3 (rd t369 x13_1)).f1))).setCell ⟨gb374, 2, none⟩ (.slice A373_2 ((rd_T126 l0_3 (rd t369 x13_1)).f2).length c373_2)).setCell ⟨gb374, 3, none⟩ (.int .i64 ((rd_T126 l0_3 (rd t369 x13_1)).f3))).setCell ⟨gb374, 4, none⟩ (.int .i64 ((rd_T126 l0_3 (rd t369 x13_1)).f4))).setCell ⟨gb374, 5, none⟩ (.int .i64 ((rd_T126 l0_3 (rd t369 x13_1)).f5))).setCell ⟨gb374, 6, none⟩ (.int .i64 ((rd_T126 l0_3 (rd t369 x13_1)).f6))).setCell ⟨gb374, 7, none⟩ (.int .i64 ((rd_T126 l0_3 (rd t369 x13_1)).f7))).setCell ⟨gb374, 8, none⟩ (.slice A373_8 ((rd_T126 l0_3 (rd t369 x13_1)).f8).length c373_8)).heap[gb368]? = some (.cells #[.slice A0_0 l0_0.length c0_0, .int .i64 a0_1, .int .i64 a0_2, .slice (some ad373) l0_3.length c0_3] 56 (0, 0))) := ⟨by (repeat (with_reducible refine blk_far ?_ NB368_374.out _)); exact BK368.out⟩
                have n3_ : Aside0 ((((((((((w14.setCell ⟨gb374, 0, none⟩ (.slice A373_0 ((rd_T126 l0_3 (rd t369 x13_1)).f0).length c373_0)).setCell ⟨gb374, 1, none⟩ (.int .i64 ((rd_T126 l0_3 (rd t369 x13_1)).f1))).setCell ⟨gb374, 2, none⟩ (.slice A373_2 ((rd_T126 l0_3 (rd t369 x13_1)).f2).length c373_2)).setCell ⟨gb374, 3, none⟩ (.int .i64 ((rd_T126 l0_3 (rd t369 x13_1)).f3))).setCell ⟨gb374, 4, none⟩ (.int .i64 ((rd_T126 l0_3 (rd t369 x13_1)).f4))).setCell ⟨gb374, 5, none⟩ (.int .i64 ((rd_T126 l0_3 (rd t369 x13_1)).f5))).setCell ⟨gb374, 6, none⟩ (.int .i64 ((rd_T126 l0_3 (rd t369 x13_1)).f6))).setCell ⟨gb374, 7, none⟩ (.int .i64 ((rd_T126 l0_3 (rd t369 x13_1)).f7))).setCell ⟨gb374, 8, none⟩ (.slice A373_8 ((rd_T126 l0_3 (rd t369 x13_1)).f8).length c373_8)).heap[gb374]? = some (.cells #[.slice A373_0 ((rd_T126 l0_3 (rd t369 x13_1)).f0).length c373_0, .int .i64 ((rd_T126 l0_3 (rd t369 x13_1)).f1), .slice A373_2 ((rd_T126 l0_3 (rd t369 x13_1)).f2).length c373_2, .int .i64 ((rd_T126 l0_3 (rd t369 x13_1)).f3), .int .i64 ((rd_T126 l0_3 (rd t369 x13_1)).f4), .int .i64 ((rd_T126 l0_3 (rd t369 x13_1)).f5), .int .i64 ((rd_T126 l0_3 (rd t369 x13_1)).f6), .int .i64 ((rd_T126 l0_3 (rd t369 x13_1)).f7), .slice A373_8 ((rd_T126 l0_3 (rd t369 x13_1)).f8).length c373_8] 126 (0, 0))) := ⟨by (with_reducible repeat (first | refine blk_drewN ?_ _ | refine blk_drew ?_ | refine blk_alloc ?_ _)); apply bq9_8_7_6_5_4_3_2_1_0_; (with_reducible repeat (first | refine blk_drewN ?_ _ | refine blk_drew ?_ | refine blk_alloc ?_ _)); exact BK374.out⟩
                have n4_ : Aside0 (Below w.heap.size w (((((((((w14.setCell ⟨gb374, 0, none⟩ (.slice A373_0 ((rd_T126 l0_3 (rd t369 x13_1)).f0).length c373_0)).setCell ⟨gb374, 1, none⟩ (.int .i64 ((rd_T126 l0_3 (rd t369 x13_1)).f1))).setCell ⟨gb374, 2, none⟩ (.slice A373_2 ((rd_T126 l0_3 (rd t369 x13_1)).f2).length c373_2)).setCell ⟨gb374, 3, none⟩ (.int .i64 ((rd_T126 l0_3 (rd t369 x13_1)).f3))).setCell ⟨gb374, 4, none⟩ (.int .i64 ((rd_T126 l0_3 (rd t369 x13_1)).f4))).setCell ⟨gb374, 5, none⟩ (.int .i64 ((rd_T126 l0_3 (rd t369 x13_1)).f5))).setCell ⟨gb374, 6, none⟩ (.int .i64 ((rd_T126 l0_3 (rd t369 x13_1)).f6))).setCell ⟨gb374, 7, none⟩ (.int .i64 ((rd_T126 l0_3 (rd t369 x13_1)).f7))).setCell ⟨gb374, 8, none⟩ (.slice A373_8 ((rd_T126 l0_3 (rd t369 x13_1)).f8).length c373_8))) := ⟨bl_⟩
                (try clear HO_3)
                (try clear HO_11)
                (try clear BK368)
                (try clear BK374)
                (try clear HB)
                generalize (((((((((w14.setCell ⟨gb374, 0, none⟩ (.slice A373_0 ((rd_T126 l0_3 (rd t369 x13_1)).f0).length c373_0)).setCell ⟨gb374, 1, none⟩ (.int .i64 ((rd_T126 l0_3 (rd t369 x13_1)).f1))).setCell ⟨gb374, 2, none⟩ (.slice A373_2 ((rd_T126 l0_3 (rd t369 x13_1)).f2).length c373_2)).setCell ⟨gb374, 3, none⟩ (.int .i64 ((rd_T126 l0_3 (rd t369 x13_1)).f3))).setCell ⟨gb374, 4, none⟩ (.int .i64 ((rd_T126 l0_3 (rd t369 x13_1)).f4))).setCell ⟨gb374, 5, none⟩ (.int .i64 ((rd_T126 l0_3 (rd t369 x13_1)).f5))).setCell ⟨gb374, 6, none⟩ (.int .i64 ((rd_T126 l0_3 (rd t369 x13_1)).f6))).setCell ⟨gb374, 7, none⟩ (.int .i64 ((rd_T126 l0_3 (rd t369 x13_1)).f7))).setCell ⟨gb374, 8, none⟩ (.slice A373_8 ((rd_T126 l0_3 (rd t369 x13_1)).f8).length c373_8)) = w27 at n0_ n1_ n2_ n3_ n4_ ⊢
                have HO_3 := n0_
                have HO_11 := n1_
                have BK368 := n2_
                have BK374 := n3_
                have HB := n4_
                clear n0_ n1_ n2_ n3_ n4_
                have n0_ := Aside0.mk (Kd.R_drew HO_3.out)
                have n1_ := Aside0.mk (Kd.R_drew HO_11.out)
                have n2_ := Aside0.mk (blk_drew BK368.out)
                have n3_ := Aside0.mk (blk_drew BK374.out)
                have n4_ := Aside0.mk (below_drew1 HB.out)
                clear HO_3
                clear HO_11
                clear BK368
                clear BK374
                clear HB
                have HO_3 := n0_
                have HO_11 := n1_
                have BK368 := n2_
                have BK374 := n3_
                have HB := n4_
                clear n0_ n1_ n2_ n3_ n4_
                have p375 : 0 ≤ ((ji18) : Int) := od_
                have q375 : (ji18) < (t369.length : Int) := od_
                obtain ⟨ad375, e375, hx375_0⟩ := Kd.at_int (Kd.R_reads' HO_3.out).2.2 (ji18) p375 q375
                obtain rfl : ad372 = ad375 := (by injection e375)
                replace p375 := eq_true p375
                replace q375 := eq_true q375
                have p376 : 0 ≤ ((rd t369 (ji18)) : Int) := od_
                have q376 : (rd t369 (ji18)) < (l0_3.length : Int) := od_
                obtain ⟨ad376, A376_0, c376_0, A376_2, c376_2, A376_8, c376_8, e376, hx376_0, hx376_1, hx376_2, hx376_3, hx376_4, hx376_5, hx376_6, hx376_7, hx376_8, hl376_0, hi376_0, hl376_2, hi376_2, hl376_8, hi376_8⟩ := at_T126 HR0_3.out (rd t369 (ji18)) p376 q376
                have hw376_8 := hx376_8
                have hw376_7 := hx376_7
                have hw376_6 := hx376_6
                have hw376_5 := hx376_5
                have hw376_4 := hx376_4
                have hw376_3 := hx376_3
                have hw376_2 := hx376_2
                have hw376_1 := hx376_1
                have hw376_0 := hx376_0
                obtain rfl : ad373 = ad376 := (by injection e376)
                replace hx376_0 := kc_ HB hx376_0
                replace hx376_1 := kc_ HB hx376_1
                replace hx376_2 := kc_ HB hx376_2
                replace hx376_3 := kc_ HB hx376_3
                replace hx376_4 := kc_ HB hx376_4
                replace hx376_5 := kc_ HB hx376_5
                replace hx376_6 := kc_ HB hx376_6
                replace hx376_7 := kc_ HB hx376_7
                replace hx376_8 := kc_ HB hx376_8
                have HR376_0 := Aside0.mk hi376_0
                have HC376_0 := Aside0.mk hl376_0
                clear hi376_0 hl376_0
                have HR376_2 := Aside0.mk hi376_2
                have HC376_2 := Aside0.mk hl376_2
                clear hi376_2 hl376_2
                have HR376_8 := Aside0.mk hi376_8
                have HC376_8 := Aside0.mk hl376_8
                clear hi376_8 hl376_8
                replace p376 := eq_true p376
                replace q376 := eq_true q376
                refine start_ (n := 36) (S := fun w' => w'.cell? ⟨gb368, 0, none⟩ = some (.slice A0_0 l0_0.length c0_0) ∧ w'.cell? ⟨gb368, 1, none⟩ = some (.int .i64 a0_1) ∧ w'.cell? ⟨gb368, 2, none⟩ = some (.int .i64 a0_2) ∧ w'.cell? ⟨gb368, 3, none⟩ = some (.slice (some ad373) l0_3.length c0_3) ∧ w'.cell? ⟨gb374, 0, none⟩ = some (.slice A373_0 ((rd_T126 l0_3 (rd t369 x13_1)).f0).length c373_0) ∧ w'.cell? ⟨gb374, 1, none⟩ = some (.int .i64 ((rd_T126 l0_3 (rd t369 x13_1)).f1)) ∧ w'.cell? ⟨gb374, 2, none⟩ = some (.slice A373_2 ((rd_T126 l0_3 (rd t369 x13_1)).f2).length c373_2) ∧ w'.cell? ⟨gb374, 3, none⟩ = some (.int .i64 ((rd_T126 l0_3 (rd t369 x13_1)).f3)) ∧ w'.cell? ⟨gb374, 4, none⟩ = some (.int .i64 ((rd_T126 l0_3 (rd t369 x13_1)).f4)) ∧ w'.cell? ⟨gb374, 5, none⟩ = some (.int .i64 ((rd_T126 l0_3 (rd t369 x13_1)).f5)) ∧ w'.cell? ⟨gb374, 6, none⟩ = some (.int .i64 ((rd_T126 l0_3 (rd t369 x13_1)).f6)) ∧ w'.cell? ⟨gb374, 7, none⟩ = some (.int .i64 ((rd_T126 l0_3 (rd t369 x13_1)).f7)) ∧ w'.cell? ⟨gb374, 8, none⟩ = some (.slice A373_8 ((rd_T126 l0_3 (rd t369 x13_1)).f8).length c373_8) ∧ w'.cell? (ad372.add ((ji18)).toNat) = some (.int .i64 (rd t369 (ji18))) ∧ w'.cell? (ad373.add (((rd t369 (ji18))).toNat * 9)) = some (.slice A376_0 ((rd_T126 l0_3 (rd t369 (ji18))).f0).length c376_0) ∧ w'.cell? ⟨(ad373.add (((rd t369 (ji18))).toNat * 9)).block, (ad373.add (((rd t369 (ji18))).toNat * 9)).off + 1, none⟩ = some (.int .i64 ((rd_T126 l0_3 (rd t369 (ji18))).f1)) ∧ w'.cell? ⟨(ad373.add (((rd t369 (ji18))).toNat * 9)).block, (ad373.add (((rd t369 (ji18))).toNat * 9)).off + 2, none⟩ = some (.slice A376_2 ((rd_T126 l0_3 (rd t369 (ji18))).f2).length c376_2) ∧ w'.cell? ⟨(ad373.add (((rd t369 (ji18))).toNat * 9)).block, (ad373.add (((rd t369 (ji18))).toNat * 9)).off + 3, none⟩ = some (.int .i64 ((rd_T126 l0_3 (rd t369 (ji18))).f3)) ∧ w'.cell? ⟨(ad373.add (((rd t369 (ji18))).toNat * 9)).block, (ad373.add (((rd t369 (ji18))).toNat * 9)).off + 4, none⟩ = some (.int .i64 ((rd_T126 l0_3 (rd t369 (ji18))).f4)) ∧ w'.cell? ⟨(ad373.add (((rd t369 (ji18))).toNat * 9)).block, (ad373.add (((rd t369 (ji18))).toNat * 9)).off + 5, none⟩ = some (.int .i64 ((rd_T126 l0_3 (rd t369 (ji18))).f5)) ∧ w'.cell? ⟨(ad373.add (((rd t369 (ji18))).toNat * 9)).block, (ad373.add (((rd t369 (ji18))).toNat * 9)).off + 6, none⟩ = some (.int .i64 ((rd_T126 l0_3 (rd t369 (ji18))).f6)) ∧ w'.cell? ⟨(ad373.add (((rd t369 (ji18))).toNat * 9)).block, (ad373.add (((rd t369 (ji18))).toNat * 9)).off + 7, none⟩ = some (.int .i64 ((rd_T126 l0_3 (rd t369 (ji18))).f7)) ∧ w'.cell? ⟨(ad373.add (((rd t369 (ji18))).toNat * 9)).block, (ad373.add (((rd t369 (ji18))).toNat * 9)).off + 8, none⟩ = some (.slice A376_8 ((rd_T126 l0_3 (rd t369 (ji18))).f8).length c376_8)) (ds := []) tb36_0_9 (by kernel_rfl) rfl rfl ⟨cy_ BK368 0, cy_ BK368 1, cy_ BK368 2, cy_ BK368 3, cy_ BK374 0, cy_ BK374 1, cy_ BK374 2, cy_ BK374 3, cy_ BK374 4, cy_ BK374 5, cy_ BK374 6, cy_ BK374 7, cy_ BK374 8, hx375_0, (kc_ HB hw376_0), (kc_ HB hw376_1), (kc_ HB hw376_2), (kc_ HB hw376_3), (kc_ HB hw376_4), (kc_ HB hw376_5), (kc_ HB hw376_6), (kc_ HB hw376_7), (kc_ HB hw376_8)⟩ (fun hHeld => ?_); refine with_tabW spec_InOrder.tab6 spec_InOrder.bits6 (fun HT_ HW_ => ?_)
                generalize w27.drew = w28 at HO_3 HO_11 BK368 BK374 HB HR376_0 HR376_2 HR376_8 hx375_0 hx376_0 hx376_1 hx376_2 hx376_3 hx376_4 hx376_5 hx376_6 hx376_7 hx376_8 hHeld ⊢
                refine pl_ HT_ 0 23 tb36_1_9 ?_
                refine pl_ HT_ 1 24 tb36_3_9 ?_
                refine pl_ HT_ 2 25 tb36_7_9 ?_
                refine pl_ HT_ 3 26 tb36_f_9 ?_
                refine pl_ HT_ 5 28 tb36_2f_9 ?_
                refine pl_ HT_ 6 29 tb36_6f_9 ?_
                refine pl_ HT_ 7 30 tb36_ef_9 ?_
                refine pl_ HT_ 8 31 tb36_1ef_9 ?_
                refine pl_ HT_ 13 36 tb36_21ef_9 ?_
                refine take_ (i := 4) (N := some 27) (v := ?_) (a' := ?_) tb36_21ff_9 rfl rfl (take_ofW HT_.out HW_.out (by kernel_rfl)) (fun _ _ _ h => h) (Or.inl ⟨by rfl, ?_⟩) hHeld ?_ ?_
                rotate_left
                ·rintro w' ⟨s0, s1, s2, s3, s4, s5, s6, s7, s8, s9, s10, s11, s12, s13, s14, s15, s16, s17, s18, s19, s20, s21, s22⟩
                 go_simp
                 with_reducible rfl
                rotate_left
                ·simp only [Act.put, q_]
                 rfl
                refine take_ (i := 9) (N := some 32) (v := ?_) (a' := ?_) tb36_23ff_9 rfl rfl (take_ofW HT_.out HW_.out (by kernel_rfl)) (fun _ _ _ h => h) (Or.inl ⟨by rfl, ?_⟩) hHeld ?_ ?_
                rotate_left
                ·rintro w' ⟨s0, s1, s2, s3, s4, s5, s6, s7, s8, s9, s10, s11, s12, s13, s14, s15, s16, s17, s18, s19, s20, s21, s22⟩
                 go_simp
                 with_reducible rfl
                rotate_left
                ·simp only [Act.put, q_]
                 rfl
                refine pl_ HT_ 10 33 tb36_27ff_9 ?_
                refine pl_ HT_ 11 34 tb36_2fff_9 ?_
                refine take_ (i := 12) (N := some 35) (v := ?_) (a' := ?_) tb36_3fff_9 rfl rfl (take_ofW HT_.out HW_.out (by kernel_rfl)) (fun _ _ _ h => h) (Or.inl ⟨by rfl, ?_⟩) hHeld ?_ ?_
                rotate_left
                ·rintro w' ⟨s0, s1, s2, s3, s4, s5, s6, s7, s8, s9, s10, s11, s12, s13, s14, s15, s16, s17, s18, s19, s20, s21, s22⟩
                 go_simp
                 with_reducible rfl
                rotate_left
                ·simp only [Act.put, q_]
                 rfl
                refine take_ (i := 14) (N := some 37) (v := ?_) (a' := ?_) tb36_7fff_9 rfl rfl (take_ofW HT_.out HW_.out (by kernel_rfl)) (fun _ _ _ h => h) (Or.inl ⟨by rfl, ?_⟩) hHeld ?_ ?_
                rotate_left
                ·rintro w' ⟨s0, s1, s2, s3, s4, s5, s6, s7, s8, s9, s10, s11, s12, s13, s14, s15, s16, s17, s18, s19, s20, s21, s22⟩
                 go_simp
                 with_reducible rfl
                rotate_left
                ·simp only [Act.put, q_]
                 rfl
                refine pl_ HT_ 15 38 tb36_ffff_9 ?_
                refine pl_ HT_ 16 39 tb36_1ffff_9 ?_
                refine pl_ HT_ 17 40 tb36_3ffff_9 ?_
                refine pl_ HT_ 18 41 tb36_7ffff_9 ?_
                refine pl_ HT_ 20 43 tb36_17ffff_9 ?_
                refine take_ (i := 19) (N := some 42) (v := ?_) (a' := ?_) tb36_1fffff_9 rfl rfl (take_ofW HT_.out HW_.out (by kernel_rfl)) (fun _ _ _ h => h) (Or.inl ⟨by rfl, ?_⟩) hHeld ?_ ?_
                rotate_left
                ·rintro w' ⟨s0, s1, s2, s3, s4, s5, s6, s7, s8, s9, s10, s11, s12, s13, s14, s15, s16, s17, s18, s19, s20, s21, s22⟩
                 go_simp
                 with_reducible rfl
                rotate_left
                ·simp only [Act.put, q_]
                 rfl
                refine take_ (i := 21) (N := some 44) (v := ?_) (a' := ?_) tb36_3fffff_9 rfl rfl (take_ofW HT_.out HW_.out (by kernel_rfl)) (fun _ _ _ h => h) (Or.inl ⟨by rfl, ?_⟩) hHeld ?_ ?_
                rotate_left
                ·rintro w' ⟨s0, s1, s2, s3, s4, s5, s6, s7, s8, s9, s10, s11, s12, s13, s14, s15, s16, s17, s18, s19, s20, s21, s22⟩
                 go_simp
                 with_reducible rfl
                rotate_left
                ·simp only [Act.put, q_]
                 rfl
                refine pl_ HT_ 22 45 tb36_7fffff_9 ?_
                refine pl_ HT_ 23 46 tb36_ffffff_9 ?_
                refine pl_ HT_ 24 47 tb36_1ffffff_9 ?_
                refine pr_ HT_ 25 48 tb36_3ffffff_9 ?_
                refine pr_ HT_ 26 49 tb36_7ffffff_9 ?_
                refine pr_ HT_ 27 50 tb36_fffffff_9 ?_
                refine pr_ HT_ 28 51 tb36_1fffffff_9 ?_
                refine pr_ HT_ 29 52 tb36_3fffffff_9 ?_
                refine pr_ HT_ 30 53 tb36_7fffffff_9 ?_
                refine pr_ HT_ 31 54 tb36_ffffffff_9 ?_
                refine pr_ HT_ 32 55 tb36_1ffffffff_9 ?_
                refine pr_ HT_ 33 56 tb36_3ffffffff_9 ?_
                refine pr_ HT_ 34 57 tb36_7ffffffff_9 ?_
                refine pl_ HT_ 35 58 tb36_fffffffff_9 ?_
                refine done_ (done_of HT_.out (by kernel_rfl)) ?_
                try go_wp2
                go_meet
                case rel => exact ⟨_, (true), sp_, H', ⟨by have := HK1.out; first | omega | exact Nat.le_refl _⟩, ⟨ra_ HO_3⟩, ⟨ra_ HO_11⟩, ⟨by (with_reducible repeat (first | refine blk_drewN ?_ _ | refine blk_drew ?_ | refine blk_alloc ?_ _)); exact BK368.out⟩, ⟨by (with_reducible repeat (first | refine blk_drewN ?_ _ | refine blk_drew ?_ | refine blk_alloc ?_ _)); exact BK374.out⟩, ⟨bl_⟩⟩
               ·rw [if_neg c26] at H
                have c26b0 : decide (((rd_T126 l0_3 (rd t369 x13_1)).f5) < ((rd_T126 l0_3 (rd t369 x13_1)).f4)) = false := decide_eq_false c26
                clear c26
                by_cases c29 : ((rd_T126 l0_3 (rd t369 x13_1)).f6) = (-1)
                ·rw [if_pos c29] at H
                 have c29b0 : (((rd_T126 l0_3 (rd t369 x13_1)).f6) == (-1)) = true := beq_iff_eq.mpr c29
                 have c29b1 : (((rd_T126 l0_3 (rd t369 x13_1)).f6) != (-1)) = false := bne_eq_false_iff_eq.mpr c29
                 clear c29
                 have H' := Aside0.mk H
                 clear H
                 try go_wp2
                 have n0_ := Aside0.mk (Kd.R_mono (ok' := fun _ => True) (Kd.R_far (p := ⟨gb374, 8, none⟩) (Kd.R_far (p := ⟨gb374, 7, none⟩) (Kd.R_far (p := ⟨gb374, 6, none⟩) (Kd.R_far (p := ⟨gb374, 5, none⟩) (Kd.R_far (p := ⟨gb374, 4, none⟩) (Kd.R_far (p := ⟨gb374, 3, none⟩) (Kd.R_far (p := ⟨gb374, 2, none⟩) (Kd.R_far (p := ⟨gb374, 1, none⟩) (Kd.R_far (p := ⟨gb374, 0, none⟩) (Kd.R_types HO_3.out BK374.out (by decide)) (fun _ hk => hk.2) (.slice A373_0 ((rd_T126 l0_3 (rd t369 x13_1)).f0).length c373_0)) (fun _ hk => hk.2) (.int .i64 ((rd_T126 l0_3 (rd t369 x13_1)).f1))) (fun _ hk => hk.2) (.slice A373_2 ((rd_T126 l0_3 (rd t369 x13_1)).f2).length c373_2)) (fun _ hk => hk.2) (.int .i64 ((rd_T126 l0_3 (rd t369 x13_1)).f3))) (fun _ hk => hk.2) (.int .i64 ((rd_T126 l0_3 (rd t369 x13_1)).f4))) (fun _ hk => hk.2) (.int .i64 ((rd_T126 l0_3 (rd t369 x13_1)).f5))) (fun _ hk => hk.2) (.int .i64 ((rd_T126 l0_3 (rd t369 x13_1)).f6))) (fun _ hk => hk.2) (.int .i64 ((rd_T126 l0_3 (rd t369 x13_1)).f7))) (fun _ hk => hk.2) (.slice A373_8 ((rd_T126 l0_3 (rd t369 x13_1)).f8).length c373_8)) (fun _ hk => trivial))
                 have n1_ := Aside0.mk (Kd.R_mono (ok' := fun _ => True) (Kd.R_far (p := ⟨gb374, 8, none⟩) (Kd.R_far (p := ⟨gb374, 7, none⟩) (Kd.R_far (p := ⟨gb374, 6, none⟩) (Kd.R_far (p := ⟨gb374, 5, none⟩) (Kd.R_far (p := ⟨gb374, 4, none⟩) (Kd.R_far (p := ⟨gb374, 3, none⟩) (Kd.R_far (p := ⟨gb374, 2, none⟩) (Kd.R_far (p := ⟨gb374, 1, none⟩) (Kd.R_far (p := ⟨gb374, 0, none⟩) (Kd.R_types HO_11.out BK374.out (by decide)) (fun _ hk => hk.2) (.slice A373_0 ((rd_T126 l0_3 (rd t369 x13_1)).f0).length c373_0)) (fun _ hk => hk.2) (.int .i64 ((rd_T126 l0_3 (rd t369 x13_1)).f1))) (fun _ hk => hk.2) (.slice A373_2 ((rd_T126 l0_3 (rd t369 x13_1)).f2).length c373_2)) (fun _ hk => hk.2) (.int .i64 ((rd_T126 l0_3 (rd t369 x13_1)).f3))) (fun _ hk => hk.2) (.int .i64 ((rd_T126 l0_3 (rd t369 x13_1)).f4))) (fun _ hk => hk.2) (.int .i64 ((rd_T126 l0_3 (rd t369 x13_1)).f5))) (fun _ hk => hk.2) (.int .i64 ((rd_T126 l0_3 (rd t369 x13_1)).f6))) (fun _ hk => hk.2) (.int .i64 ((rd_T126 l0_3 (rd t369 x13_1)).f7))) (fun _ hk => hk.2) (.slice A373_8 ((rd_T126 l0_3 (rd t369 x13_1)).f8).length c373_8)) (fun _ hk => trivial))
                 have n2_ : Aside0 ((((((((((w14.setCell ⟨gb374, 0, none⟩ (.slice A373_0 ((rd_T126 l0_3 (rd t369 x13_1)).f0).length c373_0)).setCell ⟨gb374, 1, none⟩ (.int .i64 ((rd_T126 l0_3 (rd t369 x13_1)).f1))).setCell ⟨gb374, 2, none⟩ (.slice A373_2 ((rd_T126 l0_3 (rd t369 x13_1)).f2).length c373_2)).setCell ⟨gb374, 3, none⟩ (.int .i64 ((rd_T126 l0_3 (rd t369 x13_1)).f3))).setCell ⟨gb374, 4, none⟩ (.int .i64 ((rd_T126 l0_3 (rd t369 x13_1)).f4))).setCell ⟨gb374, 5, none⟩ (.int .i64 ((rd_T126 l0_3 (rd t369 x13_1)).f5))).setCell ⟨gb374, 6, none⟩ (.int .i64 ((rd_T126 l0_3 (rd t369 x13_1)).f6))).setCell ⟨gb374, 7, none⟩ (.int .i64 ((rd_T126 l0_3 (rd t369 x13_1)).f7))).setCell ⟨gb374, 8, none⟩ (.slice A373_8 ((rd_T126 l0_3 (rd t369 x13_1)).f8).length c373_8)).heap[gb368]? = some (.cells #[.slice A0_0 l0_0.length c0_0, .int .i64 a0_1, .int .i64 a0_2, .slice (some ad373) l0_3.length c0_3] 56 (0, 0))) := ⟨by (repeat (with_reducible refine blk_far ?_ NB368_374.out _)); exact BK368.out⟩
                 have n3_ : Aside0 ((((((((((w14.setCell ⟨gb374, 0, none⟩ (.slice A373_0 ((rd_T126 l0_3 (rd t369 x13_1)).f0).length c373_0)).setCell ⟨gb374, 1, none⟩ (.int .i64 ((rd_T126 l0_3 (rd t369 x13_1)).f1))).setCell ⟨gb374, 2, none⟩ (.slice A373_2 ((rd_T126 l0_3 (rd t369 x13_1)).f2).length c373_2)).setCell ⟨gb374, 3, none⟩ (.int .i64 ((rd_T126 l0_3 (rd t369 x13_1)).f3))).setCell ⟨gb374, 4, none⟩ (.int .i64 ((rd_T126 l0_3 (rd t369 x13_1)).f4))).setCell ⟨gb374, 5, none⟩ (.int .i64 ((rd_T126 l0_3 (rd t369 x13_1)).f5))).setCell ⟨gb374, 6, none⟩ (.int .i64 ((rd_T126 l0_3 (rd t369 x13_1)).f6))).setCell ⟨gb374, 7, none⟩ (.int .i64 ((rd_T126 l0_3 (rd t369 x13_1)).f7))).setCell ⟨gb374, 8, none⟩ (.slice A373_8 ((rd_T126 l0_3 (rd t369 x13_1)).f8).length c373_8)).heap[gb374]? = some (.cells #[.slice A373_0 ((rd_T126 l0_3 (rd t369 x13_1)).f0).length c373_0, .int .i64 ((rd_T126 l0_3 (rd t369 x13_1)).f1), .slice A373_2 ((rd_T126 l0_3 (rd t369 x13_1)).f2).length c373_2, .int .i64 ((rd_T126 l0_3 (rd t369 x13_1)).f3), .int .i64 ((rd_T126 l0_3 (rd t369 x13_1)).f4), .int .i64 ((rd_T126 l0_3 (rd t369 x13_1)).f5), .int .i64 ((rd_T126 l0_3 (rd t369 x13_1)).f6), .int .i64 ((rd_T126 l0_3 (rd t369 x13_1)).f7), .slice A373_8 ((rd_T126 l0_3 (rd t369 x13_1)).f8).length c373_8] 126 (0, 0))) := ⟨by (with_reducible repeat (first | refine blk_drewN ?_ _ | refine blk_drew ?_ | refine blk_alloc ?_ _)); apply bq9_8_7_6_5_4_3_2_1_0_; (with_reducible repeat (first | refine blk_drewN ?_ _ | refine blk_drew ?_ | refine blk_alloc ?_ _)); exact BK374.out⟩
                 have n4_ : Aside0 (Below w.heap.size w (((((((((w14.setCell ⟨gb374, 0, none⟩ (.slice A373_0 ((rd_T126 l0_3 (rd t369 x13_1)).f0).length c373_0)).setCell ⟨gb374, 1, none⟩ (.int .i64 ((rd_T126 l0_3 (rd t369 x13_1)).f1))).setCell ⟨gb374, 2, none⟩ (.slice A373_2 ((rd_T126 l0_3 (rd t369 x13_1)).f2).length c373_2)).setCell ⟨gb374, 3, none⟩ (.int .i64 ((rd_T126 l0_3 (rd t369 x13_1)).f3))).setCell ⟨gb374, 4, none⟩ (.int .i64 ((rd_T126 l0_3 (rd t369 x13_1)).f4))).setCell ⟨gb374, 5, none⟩ (.int .i64 ((rd_T126 l0_3 (rd t369 x13_1)).f5))).setCell ⟨gb374, 6, none⟩ (.int .i64 ((rd_T126 l0_3 (rd t369 x13_1)).f6))).setCell ⟨gb374, 7, none⟩ (.int .i64 ((rd_T126 l0_3 (rd t369 x13_1)).f7))).setCell ⟨gb374, 8, none⟩ (.slice A373_8 ((rd_T126 l0_3 (rd t369 x13_1)).f8).length c373_8))) := ⟨bl_⟩
                 (try clear HO_3)
                 (try clear HO_11)
                 (try clear BK368)
                 (try clear BK374)
                 (try clear HB)
                 generalize (((((((((w14.setCell ⟨gb374, 0, none⟩ (.slice A373_0 ((rd_T126 l0_3 (rd t369 x13_1)).f0).length c373_0)).setCell ⟨gb374, 1, none⟩ (.int .i64 ((rd_T126 l0_3 (rd t369 x13_1)).f1))).setCell ⟨gb374, 2, none⟩ (.slice A373_2 ((rd_T126 l0_3 (rd t369 x13_1)).f2).length c373_2)).setCell ⟨gb374, 3, none⟩ (.int .i64 ((rd_T126 l0_3 (rd t369 x13_1)).f3))).setCell ⟨gb374, 4, none⟩ (.int .i64 ((rd_T126 l0_3 (rd t369 x13_1)).f4))).setCell ⟨gb374, 5, none⟩ (.int .i64 ((rd_T126 l0_3 (rd t369 x13_1)).f5))).setCell ⟨gb374, 6, none⟩ (.int .i64 ((rd_T126 l0_3 (rd t369 x13_1)).f6))).setCell ⟨gb374, 7, none⟩ (.int .i64 ((rd_T126 l0_3 (rd t369 x13_1)).f7))).setCell ⟨gb374, 8, none⟩ (.slice A373_8 ((rd_T126 l0_3 (rd t369 x13_1)).f8).length c373_8)) = w30 at n0_ n1_ n2_ n3_ n4_ ⊢
                 have HO_3 := n0_
                 have HO_11 := n1_
                 have BK368 := n2_
                 have BK374 := n3_
                 have HB := n4_
                 clear n0_ n1_ n2_ n3_ n4_
                 have n0_ := Aside0.mk (Kd.R_drew HO_3.out)
                 have n1_ := Aside0.mk (Kd.R_drew HO_11.out)
                 have n2_ := Aside0.mk (blk_drew BK368.out)
                 have n3_ := Aside0.mk (blk_drew BK374.out)
                 have n4_ := Aside0.mk (below_drew1 HB.out)
                 clear HO_3
                 clear HO_11
                 clear BK368
                 clear BK374
                 clear HB
                 have HO_3 := n0_
                 have HO_11 := n1_
                 have BK368 := n2_
                 have BK374 := n3_
                 have HB := n4_
                 clear n0_ n1_ n2_ n3_ n4_
                 have p375 : 0 ≤ ((ji18) : Int) := od_
                 have q375 : (ji18) < (t369.length : Int) := od_
                 obtain ⟨ad375, e375, hx375_0⟩ := Kd.at_int (Kd.R_reads' HO_3.out).2.2 (ji18) p375 q375
                 obtain rfl : ad372 = ad375 := (by injection e375)
                 replace p375 := eq_true p375
                 replace q375 := eq_true q375
                 have p376 : 0 ≤ ((rd t369 (ji18)) : Int) := od_
                 have q376 : (rd t369 (ji18)) < (l0_3.length : Int) := od_
                 obtain ⟨ad376, A376_0, c376_0, A376_2, c376_2, A376_8, c376_8, e376, hx376_0, hx376_1, hx376_2, hx376_3, hx376_4, hx376_5, hx376_6, hx376_7, hx376_8, hl376_0, hi376_0, hl376_2, hi376_2, hl376_8, hi376_8⟩ := at_T126 HR0_3.out (rd t369 (ji18)) p376 q376
                 have hw376_8 := hx376_8
                 have hw376_7 := hx376_7
                 have hw376_6 := hx376_6
                 have hw376_5 := hx376_5
                 have hw376_4 := hx376_4
                 have hw376_3 := hx376_3
                 have hw376_2 := hx376_2
                 have hw376_1 := hx376_1
                 have hw376_0 := hx376_0
                 obtain rfl : ad373 = ad376 := (by injection e376)
                 replace hx376_0 := kc_ HB hx376_0
                 replace hx376_1 := kc_ HB hx376_1
                 replace hx376_2 := kc_ HB hx376_2
                 replace hx376_3 := kc_ HB hx376_3
                 replace hx376_4 := kc_ HB hx376_4
                 replace hx376_5 := kc_ HB hx376_5
                 replace hx376_6 := kc_ HB hx376_6
                 replace hx376_7 := kc_ HB hx376_7
                 replace hx376_8 := kc_ HB hx376_8
                 have HR376_0 := Aside0.mk hi376_0
                 have HC376_0 := Aside0.mk hl376_0
                 clear hi376_0 hl376_0
                 have HR376_2 := Aside0.mk hi376_2
                 have HC376_2 := Aside0.mk hl376_2
                 clear hi376_2 hl376_2
                 have HR376_8 := Aside0.mk hi376_8
                 have HC376_8 := Aside0.mk hl376_8
                 clear hi376_8 hl376_8
                 replace p376 := eq_true p376
                 replace q376 := eq_true q376
                 refine start_ (n := 36) (S := fun w' => w'.cell? ⟨gb368, 0, none⟩ = some (.slice A0_0 l0_0.length c0_0) ∧ w'.cell? ⟨gb368, 1, none⟩ = some (.int .i64 a0_1) ∧ w'.cell? ⟨gb368, 2, none⟩ = some (.int .i64 a0_2) ∧ w'.cell? ⟨gb368, 3, none⟩ = some (.slice (some ad373) l0_3.length c0_3) ∧ w'.cell? ⟨gb374, 0, none⟩ = some (.slice A373_0 ((rd_T126 l0_3 (rd t369 x13_1)).f0).length c373_0) ∧ w'.cell? ⟨gb374, 1, none⟩ = some (.int .i64 ((rd_T126 l0_3 (rd t369 x13_1)).f1)) ∧ w'.cell? ⟨gb374, 2, none⟩ = some (.slice A373_2 ((rd_T126 l0_3 (rd t369 x13_1)).f2).length c373_2) ∧ w'.cell? ⟨gb374, 3, none⟩ = some (.int .i64 ((rd_T126 l0_3 (rd t369 x13_1)).f3)) ∧ w'.cell? ⟨gb374, 4, none⟩ = some (.int .i64 ((rd_T126 l0_3 (rd t369 x13_1)).f4)) ∧ w'.cell? ⟨gb374, 5, none⟩ = some (.int .i64 ((rd_T126 l0_3 (rd t369 x13_1)).f5)) ∧ w'.cell? ⟨gb374, 6, none⟩ = some (.int .i64 ((rd_T126 l0_3 (rd t369 x13_1)).f6)) ∧ w'.cell? ⟨gb374, 7, none⟩ = some (.int .i64 ((rd_T126 l0_3 (rd t369 x13_1)).f7)) ∧ w'.cell? ⟨gb374, 8, none⟩ = some (.slice A373_8 ((rd_T126 l0_3 (rd t369 x13_1)).f8).length c373_8) ∧ w'.cell? (ad372.add ((ji18)).toNat) = some (.int .i64 (rd t369 (ji18))) ∧ w'.cell? (ad373.add (((rd t369 (ji18))).toNat * 9)) = some (.slice A376_0 ((rd_T126 l0_3 (rd t369 (ji18))).f0).length c376_0) ∧ w'.cell? ⟨(ad373.add (((rd t369 (ji18))).toNat * 9)).block, (ad373.add (((rd t369 (ji18))).toNat * 9)).off + 1, none⟩ = some (.int .i64 ((rd_T126 l0_3 (rd t369 (ji18))).f1)) ∧ w'.cell? ⟨(ad373.add (((rd t369 (ji18))).toNat * 9)).block, (ad373.add (((rd t369 (ji18))).toNat * 9)).off + 2, none⟩ = some (.slice A376_2 ((rd_T126 l0_3 (rd t369 (ji18))).f2).length c376_2) ∧ w'.cell? ⟨(ad373.add (((rd t369 (ji18))).toNat * 9)).block, (ad373.add (((rd t369 (ji18))).toNat * 9)).off + 3, none⟩ = some (.int .i64 ((rd_T126 l0_3 (rd t369 (ji18))).f3)) ∧ w'.cell? ⟨(ad373.add (((rd t369 (ji18))).toNat * 9)).block, (ad373.add (((rd t369 (ji18))).toNat * 9)).off + 4, none⟩ = some (.int .i64 ((rd_T126 l0_3 (rd t369 (ji18))).f4)) ∧ w'.cell? ⟨(ad373.add (((rd t369 (ji18))).toNat * 9)).block, (ad373.add (((rd t369 (ji18))).toNat * 9)).off + 5, none⟩ = some (.int .i64 ((rd_T126 l0_3 (rd t369 (ji18))).f5)) ∧ w'.cell? ⟨(ad373.add (((rd t369 (ji18))).toNat * 9)).block, (ad373.add (((rd t369 (ji18))).toNat * 9)).off + 6, none⟩ = some (.int .i64 ((rd_T126 l0_3 (rd t369 (ji18))).f6)) ∧ w'.cell? ⟨(ad373.add (((rd t369 (ji18))).toNat * 9)).block, (ad373.add (((rd t369 (ji18))).toNat * 9)).off + 7, none⟩ = some (.int .i64 ((rd_T126 l0_3 (rd t369 (ji18))).f7)) ∧ w'.cell? ⟨(ad373.add (((rd t369 (ji18))).toNat * 9)).block, (ad373.add (((rd t369 (ji18))).toNat * 9)).off + 8, none⟩ = some (.slice A376_8 ((rd_T126 l0_3 (rd t369 (ji18))).f8).length c376_8)) (ds := []) tb36_0_9 (by kernel_rfl) rfl rfl ⟨cy_ BK368 0, cy_ BK368 1, cy_ BK368 2, cy_ BK368 3, cy_ BK374 0, cy_ BK374 1, cy_ BK374 2, cy_ BK374 3, cy_ BK374 4, cy_ BK374 5, cy_ BK374 6, cy_ BK374 7, cy_ BK374 8, hx375_0, (kc_ HB hw376_0), (kc_ HB hw376_1), (kc_ HB hw376_2), (kc_ HB hw376_3), (kc_ HB hw376_4), (kc_ HB hw376_5), (kc_ HB hw376_6), (kc_ HB hw376_7), (kc_ HB hw376_8)⟩ (fun hHeld => ?_); refine with_tabW spec_InOrder.tab6 spec_InOrder.bits6 (fun HT_ HW_ => ?_)
                 generalize w30.drew = w31 at HO_3 HO_11 BK368 BK374 HB HR376_0 HR376_2 HR376_8 hx375_0 hx376_0 hx376_1 hx376_2 hx376_3 hx376_4 hx376_5 hx376_6 hx376_7 hx376_8 hHeld ⊢
                 refine pl_ HT_ 0 23 tb36_1_9 ?_
                 refine pl_ HT_ 1 24 tb36_3_9 ?_
                 refine pl_ HT_ 2 25 tb36_7_9 ?_
                 refine pl_ HT_ 3 26 tb36_f_9 ?_
                 refine pl_ HT_ 5 28 tb36_2f_9 ?_
                 refine pl_ HT_ 6 29 tb36_6f_9 ?_
                 refine pl_ HT_ 7 30 tb36_ef_9 ?_
                 refine pl_ HT_ 8 31 tb36_1ef_9 ?_
                 refine pl_ HT_ 13 36 tb36_21ef_9 ?_
                 refine take_ (i := 4) (N := some 27) (v := ?_) (a' := ?_) tb36_21ff_9 rfl rfl (take_ofW HT_.out HW_.out (by kernel_rfl)) (fun _ _ _ h => h) (Or.inl ⟨by rfl, ?_⟩) hHeld ?_ ?_
                 rotate_left
                 ·rintro w' ⟨s0, s1, s2, s3, s4, s5, s6, s7, s8, s9, s10, s11, s12, s13, s14, s15, s16, s17, s18, s19, s20, s21, s22⟩
                  go_simp
                  with_reducible rfl
                 rotate_left
                 ·simp only [Act.put, q_]
                  rfl
                 refine take_ (i := 9) (N := some 32) (v := ?_) (a' := ?_) tb36_23ff_9 rfl rfl (take_ofW HT_.out HW_.out (by kernel_rfl)) (fun _ _ _ h => h) (Or.inl ⟨by rfl, ?_⟩) hHeld ?_ ?_
                 rotate_left
                 ·rintro w' ⟨s0, s1, s2, s3, s4, s5, s6, s7, s8, s9, s10, s11, s12, s13, s14, s15, s16, s17, s18, s19, s20, s21, s22⟩
                  go_simp
                  with_reducible rfl
                 rotate_left
                 ·simp only [Act.put, q_]
                  rfl
                 refine pl_ HT_ 10 33 tb36_27ff_9 ?_
                 refine pl_ HT_ 11 34 tb36_2fff_9 ?_
                 refine take_ (i := 12) (N := some 35) (v := ?_) (a' := ?_) tb36_3fff_9 rfl rfl (take_ofW HT_.out HW_.out (by kernel_rfl)) (fun _ _ _ h => h) (Or.inl ⟨by rfl, ?_⟩) hHeld ?_ ?_
                 rotate_left
                 ·rintro w' ⟨s0, s1, s2, s3, s4, s5, s6, s7, s8, s9, s10, s11, s12, s13, s14, s15, s16, s17, s18, s19, s20, s21, s22⟩
                  go_simp
                  with_reducible rfl
                 rotate_left
                 ·simp only [Act.put, q_]
                  rfl
                 refine take_ (i := 14) (N := some 37) (v := ?_) (a' := ?_) tb36_7fff_9 rfl rfl (take_ofW HT_.out HW_.out (by kernel_rfl)) (fun _ _ _ h => h) (Or.inl ⟨by rfl, ?_⟩) hHeld ?_ ?_
                 rotate_left
                 ·rintro w' ⟨s0, s1, s2, s3, s4, s5, s6, s7, s8, s9, s10, s11, s12, s13, s14, s15, s16, s17, s18, s19, s20, s21, s22⟩
                  go_simp
                  with_reducible rfl
                 rotate_left
                 ·simp only [Act.put, q_]
                  rfl
                 refine pl_ HT_ 15 38 tb36_ffff_9 ?_
                 refine pl_ HT_ 16 39 tb36_1ffff_9 ?_
                 refine pl_ HT_ 17 40 tb36_3ffff_9 ?_
                 refine pl_ HT_ 18 41 tb36_7ffff_9 ?_
                 refine pl_ HT_ 20 43 tb36_17ffff_9 ?_
                 refine take_ (i := 19) (N := some 42) (v := ?_) (a' := ?_) tb36_1fffff_9 rfl rfl (take_ofW HT_.out HW_.out (by kernel_rfl)) (fun _ _ _ h => h) (Or.inl ⟨by rfl, ?_⟩) hHeld ?_ ?_
                 rotate_left
                 ·rintro w' ⟨s0, s1, s2, s3, s4, s5, s6, s7, s8, s9, s10, s11, s12, s13, s14, s15, s16, s17, s18, s19, s20, s21, s22⟩
                  go_simp
                  with_reducible rfl
                 rotate_left
                 ·simp only [Act.put, q_]
                  rfl
                 refine take_ (i := 21) (N := some 44) (v := ?_) (a' := ?_) tb36_3fffff_9 rfl rfl (take_ofW HT_.out HW_.out (by kernel_rfl)) (fun _ _ _ h => h) (Or.inl ⟨by rfl, ?_⟩) hHeld ?_ ?_
                 rotate_left
                 ·rintro w' ⟨s0, s1, s2, s3, s4, s5, s6, s7, s8, s9, s10, s11, s12, s13, s14, s15, s16, s17, s18, s19, s20, s21, s22⟩
                  go_simp
                  with_reducible rfl
                 rotate_left
                 ·simp only [Act.put, q_]
                  rfl
                 refine pl_ HT_ 22 45 tb36_7fffff_9 ?_
                 refine pl_ HT_ 23 46 tb36_ffffff_9 ?_
                 refine pl_ HT_ 24 47 tb36_1ffffff_9 ?_
                 refine pl_ HT_ 25 48 tb36_3ffffff_9 ?_
                 refine take_ (i := 26) (N := some 49) (v := ?_) (a' := ?_) tb36_7ffffff_9 rfl rfl (take_ofW HT_.out HW_.out (by kernel_rfl)) (fun _ _ _ h => h) (Or.inl ⟨by rfl, ?_⟩) hHeld ?_ ?_
                 rotate_left
                 ·rintro w' ⟨s0, s1, s2, s3, s4, s5, s6, s7, s8, s9, s10, s11, s12, s13, s14, s15, s16, s17, s18, s19, s20, s21, s22⟩
                  go_simp
                  with_reducible rfl
                 rotate_left
                 ·simp only [Act.put, q_]
                  rfl
                 refine pl_ HT_ 27 50 tb36_fffffff_9 ?_
                 refine pl_ HT_ 28 51 tb36_1fffffff_9 ?_
                 refine pr_ HT_ 29 52 tb36_3fffffff_9 ?_
                 refine pr_ HT_ 30 53 tb36_7fffffff_9 ?_
                 refine pr_ HT_ 31 54 tb36_ffffffff_9 ?_
                 refine pr_ HT_ 32 55 tb36_1ffffffff_9 ?_
                 refine pr_ HT_ 33 56 tb36_3ffffffff_9 ?_
                 refine pl_ HT_ 34 57 tb36_7ffffffff_9 ?_
                 refine pl_ HT_ 35 58 tb36_fffffffff_9 ?_
                 refine done_ (done_of HT_.out (by kernel_rfl)) ?_
                 try go_wp2
                 go_meet
                 case rel => exact ⟨_, (false), sp_, H', ⟨by have := HK1.out; first | omega | exact Nat.le_refl _⟩, ⟨ra_ HO_3⟩, ⟨ra_ HO_11⟩, ⟨by (with_reducible repeat (first | refine blk_drewN ?_ _ | refine blk_drew ?_ | refine blk_alloc ?_ _)); exact BK368.out⟩, ⟨by (with_reducible repeat (first | refine blk_drewN ?_ _ | refine blk_drew ?_ | refine blk_alloc ?_ _)); exact BK374.out⟩, ⟨bl_⟩⟩
                ·rw [if_neg c29] at H
                 have c29b0 : (((rd_T126 l0_3 (rd t369 x13_1)).f6) == (-1)) = false := beq_eq_false_iff_ne.mpr c29
                 have c29b1 : (((rd_T126 l0_3 (rd t369 x13_1)).f6) != (-1)) = true := bne_iff_ne.mpr c29
                 have H' := Aside0.mk H
                 clear H
                 try go_wp2
                 have n0_ := Aside0.mk (Kd.R_mono (ok' := fun _ => True) (Kd.R_far (p := ⟨gb374, 8, none⟩) (Kd.R_far (p := ⟨gb374, 7, none⟩) (Kd.R_far (p := ⟨gb374, 6, none⟩) (Kd.R_far (p := ⟨gb374, 5, none⟩) (Kd.R_far (p := ⟨gb374, 4, none⟩) (Kd.R_far (p := ⟨gb374, 3, none⟩) (Kd.R_far (p := ⟨gb374, 2, none⟩) (Kd.R_far (p := ⟨gb374, 1, none⟩) (Kd.R_far (p := ⟨gb374, 0, none⟩) (Kd.R_types HO_3.out BK374.out (by decide)) (fun _ hk => hk.2) (.slice A373_0 ((rd_T126 l0_3 (rd t369 x13_1)).f0).length c373_0)) (fun _ hk => hk.2) (.int .i64 ((rd_T126 l0_3 (rd t369 x13_1)).f1))) (fun _ hk => hk.2) (.slice A373_2 ((rd_T126 l0_3 (rd t369 x13_1)).f2).length c373_2)) (fun _ hk => hk.2) (.int .i64 ((rd_T126 l0_3 (rd t369 x13_1)).f3))) (fun _ hk => hk.2) (.int .i64 ((rd_T126 l0_3 (rd t369 x13_1)).f4))) (fun _ hk => hk.2) (.int .i64 ((rd_T126 l0_3 (rd t369 x13_1)).f5))) (fun _ hk => hk.2) (.int .i64 ((rd_T126 l0_3 (rd t369 x13_1)).f6))) (fun _ hk => hk.2) (.int .i64 ((rd_T126 l0_3 (rd t369 x13_1)).f7))) (fun _ hk => hk.2) (.slice A373_8 ((rd_T126 l0_3 (rd t369 x13_1)).f8).length c373_8)) (fun _ hk => trivial))
                 have n1_ := Aside0.mk (Kd.R_mono (ok' := fun _ => True) (Kd.R_far (p := ⟨gb374, 8, none⟩) (Kd.R_far (p := ⟨gb374, 7, none⟩) (Kd.R_far (p := ⟨gb374, 6, none⟩) (Kd.R_far (p := ⟨gb374, 5, none⟩) (Kd.R_far (p := ⟨gb374, 4, none⟩) (Kd.R_far (p := ⟨gb374, 3, none⟩) (Kd.R_far (p := ⟨gb374, 2, none⟩) (Kd.R_far (p := ⟨gb374, 1, none⟩) (Kd.R_far (p := ⟨gb374, 0, none⟩) (Kd.R_types HO_11.out BK374.out (by decide)) (fun _ hk => hk.2) (.slice A373_0 ((rd_T126 l0_3 (rd t369 x13_1)).f0).length c373_0)) (fun _ hk => hk.2) (.int .i64 ((rd_T126 l0_3 (rd t369 x13_1)).f1))) (fun _ hk => hk.2) (.slice A373_2 ((rd_T126 l0_3 (rd t369 x13_1)).f2).length c373_2)) (fun _ hk => hk.2) (.int .i64 ((rd_T126 l0_3 (rd t369 x13_1)).f3))) (fun _ hk => hk.2) (.int .i64 ((rd_T126 l0_3 (rd t369 x13_1)).f4))) (fun _ hk => hk.2) (.int .i64 ((rd_T126 l0_3 (rd t369 x13_1)).f5))) (fun _ hk => hk.2) (.int .i64 ((rd_T126 l0_3 (rd t369 x13_1)).f6))) (fun _ hk => hk.2) (.int .i64 ((rd_T126 l0_3 (rd t369 x13_1)).f7))) (fun _ hk => hk.2) (.slice A373_8 ((rd_T126 l0_3 (rd t369 x13_1)).f8).length c373_8)) (fun _ hk => trivial))
                 have n2_ : Aside0 ((((((((((w14.setCell ⟨gb374, 0, none⟩ (.slice A373_0 ((rd_T126 l0_3 (rd t369 x13_1)).f0).length c373_0)).setCell ⟨gb374, 1, none⟩ (.int .i64 ((rd_T126 l0_3 (rd t369 x13_1)).f1))).setCell ⟨gb374, 2, none⟩ (.slice A373_2 ((rd_T126 l0_3 (rd t369 x13_1)).f2).length c373_2)).setCell ⟨gb374, 3, none⟩ (.int .i64 ((rd_T126 l0_3 (rd t369 x13_1)).f3))).setCell ⟨gb374, 4, none⟩ (.int .i64 ((rd_T126 l0_3 (rd t369 x13_1)).f4))).setCell ⟨gb374, 5, none⟩ (.int .i64 ((rd_T126 l0_3 (rd t369 x13_1)).f5))).setCell ⟨gb374, 6, none⟩ (.int .i64 ((rd_T126 l0_3 (rd t369 x13_1)).f6))).setCell ⟨gb374, 7, none⟩ (.int .i64 ((rd_T126 l0_3 (rd t369 x13_1)).f7))).setCell ⟨gb374, 8, none⟩ (.slice A373_8 ((rd_T126 l0_3 (rd t369 x13_1)).f8).length c373_8)).heap[gb368]? = some (.cells #[.slice A0_0 l0_0.length c0_0, .int .i64 a0_1, .int .i64 a0_2, .slice (some ad373) l0_3.length c0_3] 56 (0, 0))) := ⟨by (repeat (with_reducible refine blk_far ?_ NB368_374.out _)); exact BK368.out⟩
                 have n3_ : Aside0 ((((((((((w14.setCell ⟨gb374, 0, none⟩ (.slice A373_0 ((rd_T126 l0_3 (rd t369 x13_1)).f0).length c373_0)).setCell ⟨gb374, 1, none⟩ (.int .i64 ((rd_T126 l0_3 (rd t369 x13_1)).f1))).setCell ⟨gb374, 2, none⟩ (.slice A373_2 ((rd_T126 l0_3 (rd t369 x13_1)).f2).length c373_2)).setCell ⟨gb374, 3, none⟩ (.int .i64 ((rd_T126 l0_3 (rd t369 x13_1)).f3))).setCell ⟨gb374, 4, none⟩ (.int .i64 ((rd_T126 l0_3 (rd t369 x13_1)).f4))).setCell ⟨gb374, 5, none⟩ (.int .i64 ((rd_T126 l0_3 (rd t369 x13_1)).f5))).setCell ⟨gb374, 6, none⟩ (.int .i64 ((rd_T126 l0_3 (rd t369 x13_1)).f6))).setCell ⟨gb374, 7, none⟩ (.int .i64 ((rd_T126 l0_3 (rd t369 x13_1)).f7))).setCell ⟨gb374, 8, none⟩ (.slice A373_8 ((rd_T126 l0_3 (rd t369 x13_1)).f8).length c373_8)).heap[gb374]? = some (.cells #[.slice A373_0 ((rd_T126 l0_3 (rd t369 x13_1)).f0).length c373_0, .int .i64 ((rd_T126 l0_3 (rd t369 x13_1)).f1), .slice A373_2 ((rd_T126 l0_3 (rd t369 x13_1)).f2).length c373_2, .int .i64 ((rd_T126 l0_3 (rd t369 x13_1)).f3), .int .i64 ((rd_T126 l0_3 (rd t369 x13_1)).f4), .int .i64 ((rd_T126 l0_3 (rd t369 x13_1)).f5), .int .i64 ((rd_T126 l0_3 (rd t369 x13_1)).f6), .int .i64 ((rd_T126 l0_3 (rd t369 x13_1)).f7), .slice A373_8 ((rd_T126 l0_3 (rd t369 x13_1)).f8).length c373_8] 126 (0, 0))) := ⟨by (with_reducible repeat (first | refine blk_drewN ?_ _ | refine blk_drew ?_ | refine blk_alloc ?_ _)); apply bq9_8_7_6_5_4_3_2_1_0_; (with_reducible repeat (first | refine blk_drewN ?_ _ | refine blk_drew ?_ | refine blk_alloc ?_ _)); exact BK374.out⟩
                 have n4_ : Aside0 (Below w.heap.size w (((((((((w14.setCell ⟨gb374, 0, none⟩ (.slice A373_0 ((rd_T126 l0_3 (rd t369 x13_1)).f0).length c373_0)).setCell ⟨gb374, 1, none⟩ (.int .i64 ((rd_T126 l0_3 (rd t369 x13_1)).f1))).setCell ⟨gb374, 2, none⟩ (.slice A373_2 ((rd_T126 l0_3 (rd t369 x13_1)).f2).length c373_2)).setCell ⟨gb374, 3, none⟩ (.int .i64 ((rd_T126 l0_3 (rd t369 x13_1)).f3))).setCell ⟨gb374, 4, none⟩ (.int .i64 ((rd_T126 l0_3 (rd t369 x13_1)).f4))).setCell ⟨gb374, 5, none⟩ (.int .i64 ((rd_T126 l0_3 (rd t369 x13_1)).f5))).setCell ⟨gb374, 6, none⟩ (.int .i64 ((rd_T126 l0_3 (rd t369 x13_1)).f6))).setCell ⟨gb374, 7, none⟩ (.int .i64 ((rd_T126 l0_3 (rd t369 x13_1)).f7))).setCell ⟨gb374, 8, none⟩ (.slice A373_8 ((rd_T126 l0_3 (rd t369 x13_1)).f8).length c373_8))) := ⟨bl_⟩
                 (try clear HO_3)
                 (try clear HO_11)
                 (try clear BK368)
                 (try clear BK374)
                 (try clear HB)
                 generalize (((((((((w14.setCell ⟨gb374, 0, none⟩ (.slice A373_0 ((rd_T126 l0_3 (rd t369 x13_1)).f0).length c373_0)).setCell ⟨gb374, 1, none⟩ (.int .i64 ((rd_T126 l0_3 (rd t369 x13_1)).f1))).setCell ⟨gb374, 2, none⟩ (.slice A373_2 ((rd_T126 l0_3 (rd t369 x13_1)).f2).length c373_2)).setCell ⟨gb374, 3, none⟩ (.int .i64 ((rd_T126 l0_3 (rd t369 x13_1)).f3))).setCell ⟨gb374, 4, none⟩ (.int .i64 ((rd_T126 l0_3 (rd t369 x13_1)).f4))).setCell ⟨gb374, 5, none⟩ (.int .i64 ((rd_T126 l0_3 (rd t369 x13_1)).f5))).setCell ⟨gb374, 6, none⟩ (.int .i64 ((rd_T126 l0_3 (rd t369 x13_1)).f6))).setCell ⟨gb374, 7, none⟩ (.int .i64 ((rd_T126 l0_3 (rd t369 x13_1)).f7))).setCell ⟨gb374, 8, none⟩ (.slice A373_8 ((rd_T126 l0_3 (rd t369 x13_1)).f8).length c373_8)) = w32 at n0_ n1_ n2_ n3_ n4_ ⊢
                 have HO_3 := n0_
                 have HO_11 := n1_
                 have BK368 := n2_
                 have BK374 := n3_
                 have HB := n4_
                 clear n0_ n1_ n2_ n3_ n4_
                 have n0_ := Aside0.mk (Kd.R_drew HO_3.out)
                 have n1_ := Aside0.mk (Kd.R_drew HO_11.out)
                 have n2_ := Aside0.mk (blk_drew BK368.out)
                 have n3_ := Aside0.mk (blk_drew BK374.out)
                 have n4_ := Aside0.mk (below_drew1 HB.out)
                 clear HO_3
                 clear HO_11
                 clear BK368
                 clear BK374
                 clear HB
                 have HO_3 := n0_
                 have HO_11 := n1_
                 have BK368 := n2_
                 have BK374 := n3_
                 have HB := n4_
                 clear n0_ n1_ n2_ n3_ n4_
                 have p375 : 0 ≤ ((ji18) : Int) := od_
                 have q375 : (ji18) < (t369.length : Int) := od_
                 obtain ⟨ad375, e375, hx375_0⟩ := Kd.at_int (Kd.R_reads' HO_3.out).2.2 (ji18) p375 q375
                 obtain rfl : ad372 = ad375 := (by injection e375)
                 replace p375 := eq_true p375
                 replace q375 := eq_true q375
                 have p376 : 0 ≤ ((rd t369 (ji18)) : Int) := od_
                 have q376 : (rd t369 (ji18)) < (l0_3.length : Int) := od_
                 obtain ⟨ad376, A376_0, c376_0, A376_2, c376_2, A376_8, c376_8, e376, hx376_0, hx376_1, hx376_2, hx376_3, hx376_4, hx376_5, hx376_6, hx376_7, hx376_8, hl376_0, hi376_0, hl376_2, hi376_2, hl376_8, hi376_8⟩ := at_T126 HR0_3.out (rd t369 (ji18)) p376 q376
                 have hw376_8 := hx376_8
                 have hw376_7 := hx376_7
                 have hw376_6 := hx376_6
                 have hw376_5 := hx376_5
                 have hw376_4 := hx376_4
                 have hw376_3 := hx376_3
                 have hw376_2 := hx376_2
                 have hw376_1 := hx376_1
                 have hw376_0 := hx376_0
                 obtain rfl : ad373 = ad376 := (by injection e376)
                 replace hx376_0 := kc_ HB hx376_0
                 replace hx376_1 := kc_ HB hx376_1
                 replace hx376_2 := kc_ HB hx376_2
                 replace hx376_3 := kc_ HB hx376_3
                 replace hx376_4 := kc_ HB hx376_4
                 replace hx376_5 := kc_ HB hx376_5
                 replace hx376_6 := kc_ HB hx376_6
                 replace hx376_7 := kc_ HB hx376_7
                 replace hx376_8 := kc_ HB hx376_8
                 have HR376_0 := Aside0.mk hi376_0
                 have HC376_0 := Aside0.mk hl376_0
                 clear hi376_0 hl376_0
                 have HR376_2 := Aside0.mk hi376_2
                 have HC376_2 := Aside0.mk hl376_2
                 clear hi376_2 hl376_2
                 have HR376_8 := Aside0.mk hi376_8
                 have HC376_8 := Aside0.mk hl376_8
                 clear hi376_8 hl376_8
                 replace p376 := eq_true p376
                 replace q376 := eq_true q376
                 refine start_ (n := 36) (S := fun w' => w'.cell? ⟨gb368, 0, none⟩ = some (.slice A0_0 l0_0.length c0_0) ∧ w'.cell? ⟨gb368, 1, none⟩ = some (.int .i64 a0_1) ∧ w'.cell? ⟨gb368, 2, none⟩ = some (.int .i64 a0_2) ∧ w'.cell? ⟨gb368, 3, none⟩ = some (.slice (some ad373) l0_3.length c0_3) ∧ w'.cell? ⟨gb374, 0, none⟩ = some (.slice A373_0 ((rd_T126 l0_3 (rd t369 x13_1)).f0).length c373_0) ∧ w'.cell? ⟨gb374, 1, none⟩ = some (.int .i64 ((rd_T126 l0_3 (rd t369 x13_1)).f1)) ∧ w'.cell? ⟨gb374, 2, none⟩ = some (.slice A373_2 ((rd_T126 l0_3 (rd t369 x13_1)).f2).length c373_2) ∧ w'.cell? ⟨gb374, 3, none⟩ = some (.int .i64 ((rd_T126 l0_3 (rd t369 x13_1)).f3)) ∧ w'.cell? ⟨gb374, 4, none⟩ = some (.int .i64 ((rd_T126 l0_3 (rd t369 x13_1)).f4)) ∧ w'.cell? ⟨gb374, 5, none⟩ = some (.int .i64 ((rd_T126 l0_3 (rd t369 x13_1)).f5)) ∧ w'.cell? ⟨gb374, 6, none⟩ = some (.int .i64 ((rd_T126 l0_3 (rd t369 x13_1)).f6)) ∧ w'.cell? ⟨gb374, 7, none⟩ = some (.int .i64 ((rd_T126 l0_3 (rd t369 x13_1)).f7)) ∧ w'.cell? ⟨gb374, 8, none⟩ = some (.slice A373_8 ((rd_T126 l0_3 (rd t369 x13_1)).f8).length c373_8) ∧ w'.cell? (ad372.add ((ji18)).toNat) = some (.int .i64 (rd t369 (ji18))) ∧ w'.cell? (ad373.add (((rd t369 (ji18))).toNat * 9)) = some (.slice A376_0 ((rd_T126 l0_3 (rd t369 (ji18))).f0).length c376_0) ∧ w'.cell? ⟨(ad373.add (((rd t369 (ji18))).toNat * 9)).block, (ad373.add (((rd t369 (ji18))).toNat * 9)).off + 1, none⟩ = some (.int .i64 ((rd_T126 l0_3 (rd t369 (ji18))).f1)) ∧ w'.cell? ⟨(ad373.add (((rd t369 (ji18))).toNat * 9)).block, (ad373.add (((rd t369 (ji18))).toNat * 9)).off + 2, none⟩ = some (.slice A376_2 ((rd_T126 l0_3 (rd t369 (ji18))).f2).length c376_2) ∧ w'.cell? ⟨(ad373.add (((rd t369 (ji18))).toNat * 9)).block, (ad373.add (((rd t369 (ji18))).toNat * 9)).off + 3, none⟩ = some (.int .i64 ((rd_T126 l0_3 (rd t369 (ji18))).f3)) ∧ w'.cell? ⟨(ad373.add (((rd t369 (ji18))).toNat * 9)).block, (ad373.add (((rd t369 (ji18))).toNat * 9)).off + 4, none⟩ = some (.int .i64 ((rd_T126 l0_3 (rd t369 (ji18))).f4)) ∧ w'.cell? ⟨(ad373.add (((rd t369 (ji18))).toNat * 9)).block, (ad373.add (((rd t369 (ji18))).toNat * 9)).off + 5, none⟩ = some (.int .i64 ((rd_T126 l0_3 (rd t369 (ji18))).f5)) ∧ w'.cell? ⟨(ad373.add (((rd t369 (ji18))).toNat * 9)).block, (ad373.add (((rd t369 (ji18))).toNat * 9)).off + 6, none⟩ = some (.int .i64 ((rd_T126 l0_3 (rd t369 (ji18))).f6)) ∧ w'.cell? ⟨(ad373.add (((rd t369 (ji18))).toNat * 9)).block, (ad373.add (((rd t369 (ji18))).toNat * 9)).off + 7, none⟩ = some (.int .i64 ((rd_T126 l0_3 (rd t369 (ji18))).f7)) ∧ w'.cell? ⟨(ad373.add (((rd t369 (ji18))).toNat * 9)).block, (ad373.add (((rd t369 (ji18))).toNat * 9)).off + 8, none⟩ = some (.slice A376_8 ((rd_T126 l0_3 (rd t369 (ji18))).f8).length c376_8)) (ds := []) tb36_0_9 (by kernel_rfl) rfl rfl ⟨cy_ BK368 0, cy_ BK368 1, cy_ BK368 2, cy_ BK368 3, cy_ BK374 0, cy_ BK374 1, cy_ BK374 2, cy_ BK374 3, cy_ BK374 4, cy_ BK374 5, cy_ BK374 6, cy_ BK374 7, cy_ BK374 8, hx375_0, (kc_ HB hw376_0), (kc_ HB hw376_1), (kc_ HB hw376_2), (kc_ HB hw376_3), (kc_ HB hw376_4), (kc_ HB hw376_5), (kc_ HB hw376_6), (kc_ HB hw376_7), (kc_ HB hw376_8)⟩ (fun hHeld => ?_); refine with_tabW spec_InOrder.tab6 spec_InOrder.bits6 (fun HT_ HW_ => ?_)
                 generalize w32.drew = w33 at HO_3 HO_11 BK368 BK374 HB HR376_0 HR376_2 HR376_8 hx375_0 hx376_0 hx376_1 hx376_2 hx376_3 hx376_4 hx376_5 hx376_6 hx376_7 hx376_8 hHeld ⊢
                 refine pl_ HT_ 0 23 tb36_1_9 ?_
                 refine pl_ HT_ 1 24 tb36_3_9 ?_
                 refine pl_ HT_ 2 25 tb36_7_9 ?_
                 refine pl_ HT_ 3 26 tb36_f_9 ?_
                 refine pl_ HT_ 5 28 tb36_2f_9 ?_
                 refine pl_ HT_ 6 29 tb36_6f_9 ?_
                 refine pl_ HT_ 7 30 tb36_ef_9 ?_
                 refine pl_ HT_ 8 31 tb36_1ef_9 ?_
                 refine pl_ HT_ 13 36 tb36_21ef_9 ?_
                 refine take_ (i := 4) (N := some 27) (v := ?_) (a' := ?_) tb36_21ff_9 rfl rfl (take_ofW HT_.out HW_.out (by kernel_rfl)) (fun _ _ _ h => h) (Or.inl ⟨by rfl, ?_⟩) hHeld ?_ ?_
                 rotate_left
                 ·rintro w' ⟨s0, s1, s2, s3, s4, s5, s6, s7, s8, s9, s10, s11, s12, s13, s14, s15, s16, s17, s18, s19, s20, s21, s22⟩
                  go_simp
                  with_reducible rfl
                 rotate_left
                 ·simp only [Act.put, q_]
                  rfl
                 refine take_ (i := 9) (N := some 32) (v := ?_) (a' := ?_) tb36_23ff_9 rfl rfl (take_ofW HT_.out HW_.out (by kernel_rfl)) (fun _ _ _ h => h) (Or.inl ⟨by rfl, ?_⟩) hHeld ?_ ?_
                 rotate_left
                 ·rintro w' ⟨s0, s1, s2, s3, s4, s5, s6, s7, s8, s9, s10, s11, s12, s13, s14, s15, s16, s17, s18, s19, s20, s21, s22⟩
                  go_simp
                  with_reducible rfl
                 rotate_left
                 ·simp only [Act.put, q_]
                  rfl
                 refine pl_ HT_ 10 33 tb36_27ff_9 ?_
                 refine pl_ HT_ 11 34 tb36_2fff_9 ?_
                 refine take_ (i := 12) (N := some 35) (v := ?_) (a' := ?_) tb36_3fff_9 rfl rfl (take_ofW HT_.out HW_.out (by kernel_rfl)) (fun _ _ _ h => h) (Or.inl ⟨by rfl, ?_⟩) hHeld ?_ ?_
                 rotate_left
                 ·rintro w' ⟨s0, s1, s2, s3, s4, s5, s6, s7, s8, s9, s10, s11, s12, s13, s14, s15, s16, s17, s18, s19, s20, s21, s22⟩
                  go_simp
                  with_reducible rfl
                 rotate_left
                 ·simp only [Act.put, q_]
                  rfl
                 refine take_ (i := 14) (N := some 37) (v := ?_) (a' := ?_) tb36_7fff_9 rfl rfl (take_ofW HT_.out HW_.out (by kernel_rfl)) (fun _ _ _ h => h) (Or.inl ⟨by rfl, ?_⟩) hHeld ?_ ?_
                 rotate_left
                 ·rintro w' ⟨s0, s1, s2, s3, s4, s5, s6, s7, s8, s9, s10, s11, s12, s13, s14, s15, s16, s17, s18, s19, s20, s21, s22⟩
                  go_simp
                  with_reducible rfl
                 rotate_left
                 ·simp only [Act.put, q_]
                  rfl
                 refine pl_ HT_ 15 38 tb36_ffff_9 ?_
                 refine pl_ HT_ 16 39 tb36_1ffff_9 ?_
                 refine pl_ HT_ 17 40 tb36_3ffff_9 ?_
                 refine pl_ HT_ 18 41 tb36_7ffff_9 ?_
                 refine pl_ HT_ 20 43 tb36_17ffff_9 ?_
                 refine take_ (i := 19) (N := some 42) (v := ?_) (a' := ?_) tb36_1fffff_9 rfl rfl (take_ofW HT_.out HW_.out (by kernel_rfl)) (fun _ _ _ h => h) (Or.inl ⟨by rfl, ?_⟩) hHeld ?_ ?_
                 rotate_left
                 ·rintro w' ⟨s0, s1, s2, s3, s4, s5, s6, s7, s8, s9, s10, s11, s12, s13, s14, s15, s16, s17, s18, s19, s20, s21, s22⟩
                  go_simp
                  with_reducible rfl
                 rotate_left
                 ·simp only [Act.put, q_]
                  rfl
                 refine take_ (i := 21) (N := some 44) (v := ?_) (a' := ?_) tb36_3fffff_9 rfl rfl (take_ofW HT_.out HW_.out (by kernel_rfl)) (fun _ _ _ h => h) (Or.inl ⟨by rfl, ?_⟩) hHeld ?_ ?_
                 rotate_left
                 ·rintro w' ⟨s0, s1, s2, s3, s4, s5, s6, s7, s8, s9, s10, s11, s12, s13, s14, s15, s16, s17, s18, s19, s20, s21, s22⟩
                  go_simp
                  with_reducible rfl
                 rotate_left
                 ·simp only [Act.put, q_]
                  rfl
                 refine pl_ HT_ 22 45 tb36_7fffff_9 ?_
                 refine pl_ HT_ 23 46 tb36_ffffff_9 ?_
                 refine pl_ HT_ 24 47 tb36_1ffffff_9 ?_
                 refine pl_ HT_ 25 48 tb36_3ffffff_9 ?_
                 refine take_ (i := 26) (N := some 49) (v := ?_) (a' := ?_) tb36_7ffffff_9 rfl rfl (take_ofW HT_.out HW_.out (by kernel_rfl)) (fun _ _ _ h => h) (Or.inl ⟨by rfl, ?_⟩) hHeld ?_ ?_
                 rotate_left
                 ·rintro w' ⟨s0, s1, s2, s3, s4, s5, s6, s7, s8, s9, s10, s11, s12, s13, s14, s15, s16, s17, s18, s19, s20, s21, s22⟩
                  go_simp
                  with_reducible rfl
                 rotate_left
                 ·simp only [Act.put, q_]
                  rfl
                 refine pl_ HT_ 27 50 tb36_fffffff_9 ?_
                 refine pl_ HT_ 28 51 tb36_1fffffff_9 ?_
                 refine pl_ HT_ 29 52 tb36_3fffffff_9 ?_
                 refine pl_ HT_ 31 54 tb36_bfffffff_9 ?_
                 refine take_ (i := 30) (N := some 53) (v := ?_) (a' := ?_) tb36_ffffffff_9 rfl rfl (take_ofW HT_.out HW_.out (by kernel_rfl)) (fun _ _ _ h => h) (Or.inl ⟨by rfl, ?_⟩) hHeld ?_ ?_
                 rotate_left
                 ·rintro w' ⟨s0, s1, s2, s3, s4, s5, s6, s7, s8, s9, s10, s11, s12, s13, s14, s15, s16, s17, s18, s19, s20, s21, s22⟩
                  go_simp
                  with_reducible rfl
                 rotate_left
                 ·simp only [Act.put, q_]
                  rfl
                 refine take_ (i := 32) (N := some 55) (v := ?_) (a' := ?_) tb36_1ffffffff_9 rfl rfl (take_ofW HT_.out HW_.out (by kernel_rfl)) (fun _ _ _ h => h) (Or.inl ⟨by rfl, ?_⟩) hHeld ?_ ?_
                 rotate_left
                 ·rintro w' ⟨s0, s1, s2, s3, s4, s5, s6, s7, s8, s9, s10, s11, s12, s13, s14, s15, s16, s17, s18, s19, s20, s21, s22⟩
                  go_simp
                  with_reducible rfl
                 rotate_left
                 ·simp only [Act.put, q_]
                  rfl
                 refine pl_ HT_ 33 56 tb36_3ffffffff_9 ?_
                 refine pl_ HT_ 34 57 tb36_7ffffffff_9 ?_
                 refine pl_ HT_ 35 58 tb36_fffffffff_9 ?_
                 refine done_ (done_of HT_.out (by kernel_rfl)) ?_
                 try go_wp2
                 go_meet
                 case rel => exact ⟨_, (decide (((rd_T126 l0_3 (rd t369 x13_1)).f5) > ((rd_T126 l0_3 (rd t369 x13_1)).f6))), sp_, H', ⟨by have := HK1.out; first | omega | exact Nat.le_refl _⟩, ⟨ra_ HO_3⟩, ⟨ra_ HO_11⟩, ⟨by (with_reducible repeat (first | refine blk_drewN ?_ _ | refine blk_drew ?_ | refine blk_alloc ?_ _)); exact BK368.out⟩, ⟨by (with_reducible repeat (first | refine blk_drewN ?_ _ | refine blk_drew ?_ | refine blk_alloc ?_ _)); exact BK374.out⟩, ⟨bl_⟩⟩
             ·rw [if_neg c22] at H
              exact absurd H (by simp)
            ·rw [if_neg c21] at H
             exact absurd H (by simp)
           ·rw [if_neg c20] at H
            exact absurd H (by simp)
          ·rw [if_neg c19] at H
           exact absurd H (by simp)
         ·rw [if_neg c17] at H
          have c17b0 : decide (0 < x13_1) = false := decide_eq_false c17
          clear c17
          (first | rw [c17b0] | (simp only [i64_w, i32_w]; rw [c17b0]) | skip)
          by_cases c34 : ((rd_T126 l0_3 (rd t369 x13_1)).f5) < ((rd_T126 l0_3 (rd t369 x13_1)).f4)
          ·rw [if_pos c34] at H
           have c34b0 : decide (((rd_T126 l0_3 (rd t369 x13_1)).f5) < ((rd_T126 l0_3 (rd t369 x13_1)).f4)) = true := decide_eq_true c34
           clear c34
           have H' := Aside0.mk H
           clear H
           try go_wp2
           have n0_ := Aside0.mk (Kd.R_mono (ok' := fun _ => True) (Kd.R_far (p := ⟨gb374, 8, none⟩) (Kd.R_far (p := ⟨gb374, 7, none⟩) (Kd.R_far (p := ⟨gb374, 6, none⟩) (Kd.R_far (p := ⟨gb374, 5, none⟩) (Kd.R_far (p := ⟨gb374, 4, none⟩) (Kd.R_far (p := ⟨gb374, 3, none⟩) (Kd.R_far (p := ⟨gb374, 2, none⟩) (Kd.R_far (p := ⟨gb374, 1, none⟩) (Kd.R_far (p := ⟨gb374, 0, none⟩) (Kd.R_types HO_3.out BK374.out (by decide)) (fun _ hk => hk.2) (.slice A373_0 ((rd_T126 l0_3 (rd t369 x13_1)).f0).length c373_0)) (fun _ hk => hk.2) (.int .i64 ((rd_T126 l0_3 (rd t369 x13_1)).f1))) (fun _ hk => hk.2) (.slice A373_2 ((rd_T126 l0_3 (rd t369 x13_1)).f2).length c373_2)) (fun _ hk => hk.2) (.int .i64 ((rd_T126 l0_3 (rd t369 x13_1)).f3))) (fun _ hk => hk.2) (.int .i64 ((rd_T126 l0_3 (rd t369 x13_1)).f4))) (fun _ hk => hk.2) (.int .i64 ((rd_T126 l0_3 (rd t369 x13_1)).f5))) (fun _ hk => hk.2) (.int .i64 ((rd_T126 l0_3 (rd t369 x13_1)).f6))) (fun _ hk => hk.2) (.int .i64 ((rd_T126 l0_3 (rd t369 x13_1)).f7))) (fun _ hk => hk.2) (.slice A373_8 ((rd_T126 l0_3 (rd t369 x13_1)).f8).length c373_8)) (fun _ hk => trivial))
           have n1_ := Aside0.mk (Kd.R_mono (ok' := fun _ => True) (Kd.R_far (p := ⟨gb374, 8, none⟩) (Kd.R_far (p := ⟨gb374, 7, none⟩) (Kd.R_far (p := ⟨gb374, 6, none⟩) (Kd.R_far (p := ⟨gb374, 5, none⟩) (Kd.R_far (p := ⟨gb374, 4, none⟩) (Kd.R_far (p := ⟨gb374, 3, none⟩) (Kd.R_far (p := ⟨gb374, 2, none⟩) (Kd.R_far (p := ⟨gb374, 1, none⟩) (Kd.R_far (p := ⟨gb374, 0, none⟩) (Kd.R_types HO_11.out BK374.out (by decide)) (fun _ hk => hk.2) (.slice A373_0 ((rd_T126 l0_3 (rd t369 x13_1)).f0).length c373_0)) (fun _ hk => hk.2) (.int .i64 ((rd_T126 l0_3 (rd t369 x13_1)).f1))) (fun _ hk => hk.2) (.slice A373_2 ((rd_T126 l0_3 (rd t369 x13_1)).f2).length c373_2)) (fun _ hk => hk.2) (.int .i64 ((rd_T126 l0_3 (rd t369 x13_1)).f3))) (fun _ hk => hk.2) (.int .i64 ((rd_T126 l0_3 (rd t369 x13_1)).f4))) (fun _ hk => hk.2) (.int .i64 ((rd_T126 l0_3 (rd t369 x13_1)).f5))) (fun _ hk => hk.2) (.int .i64 ((rd_T126 l0_3 (rd t369 x13_1)).f6))) (fun _ hk => hk.2) (.int .i64 ((rd_T126 l0_3 (rd t369 x13_1)).f7))) (fun _ hk => hk.2) (.slice A373_8 ((rd_T126 l0_3 (rd t369 x13_1)).f8).length c373_8)) (fun _ hk => trivial))
           have n2_ : Aside0 ((((((((((w14.setCell ⟨gb374, 0, none⟩ (.slice A373_0 ((rd_T126 l0_3 (rd t369 x13_1)).f0).length c373_0)).setCell ⟨gb374, 1, none⟩ (.int .i64 ((rd_T126 l0_3 (rd t369 x13_1)).f1))).setCell ⟨gb374, 2, none⟩ (.slice A373_2 ((rd_T126 l0_3 (rd t369 x13_1)).f2).length c373_2)).setCell ⟨gb374, 3, none⟩ (.int .i64 ((rd_T126 l0_3 (rd t369 x13_1)).f3))).setCell ⟨gb374, 4, none⟩ (.int .i64 ((rd_T126 l0_3 (rd t369 x13_1)).f4))).setCell ⟨gb374, 5, none⟩ (.int .i64 ((rd_T126 l0_3 (rd t369 x13_1)).f5))).setCell ⟨gb374, 6, none⟩ (.int .i64 ((rd_T126 l0_3 (rd t369 x13_1)).f6))).setCell ⟨gb374, 7, none⟩ (.int .i64 ((rd_T126 l0_3 (rd t369 x13_1)).f7))).setCell ⟨gb374, 8, none⟩ (.slice A373_8 ((rd_T126 l0_3 (rd t369 x13_1)).f8).length c373_8)).heap[gb368]? = some (.cells #[.slice A0_0 l0_0.length c0_0, .int .i64 a0_1, .int .i64 a0_2, .slice (some ad373) l0_3.length c0_3] 56 (0, 0))) := ⟨by (repeat (with_reducible refine blk_far ?_ NB368_374.out _)); exact BK368.out⟩
           have n3_ : Aside0 ((((((((((w14.setCell ⟨gb374, 0, none⟩ (.slice A373_0 ((rd_T126 l0_3 (rd t369 x13_1)).f0).length c373_0)).setCell ⟨gb374, 1, none⟩ (.int .i64 ((rd_T126 l0_3 (rd t369 x13_1)).f1))).setCell ⟨gb374, 2, none⟩ (.slice A373_2 ((rd_T126 l0_3 (rd t369 x13_1)).f2).length c373_2)).setCell ⟨gb374, 3, none⟩ (.int .i64 ((rd_T126 l0_3 (rd t369 x13_1)).f3))).setCell ⟨gb374, 4, none⟩ (.int .i64 ((rd_T126 l0_3 (rd t369 x13_1)).f4))).setCell ⟨gb374, 5, none⟩ (.int .i64 ((rd_T126 l0_3 (rd t369 x13_1)).f5))).setCell ⟨gb374, 6, none⟩ (.int .i64 ((rd_T126 l0_3 (rd t369 x13_1)).f6))).setCell ⟨gb374, 7, none⟩ (.int .i64 ((rd_T126 l0_3 (rd t369 x13_1)).f7))).setCell ⟨gb374, 8, none⟩ (.slice A373_8 ((rd_T126 l0_3 (rd t369 x13_1)).f8).length c373_8)).heap[gb374]? = some (.cells #[.slice A373_0 ((rd_T126 l0_3 (rd t369 x13_1)).f0).length c373_0, .int .i64 ((rd_T126 l0_3 (rd t369 x13_1)).f1), .slice A373_2 ((rd_T126 l0_3 (rd t369 x13_1)).f2).length c373_2, .int .i64 ((rd_T126 l0_3 (rd t369 x13_1)).f3), .int .i64 ((rd_T126 l0_3 (rd t369 x13_1)).f4), .int .i64 ((rd_T126 l0_3 (rd t369 x13_1)).f5), .int .i64 ((rd_T126 l0_3 (rd t369 x13_1)).f6), .int .i64 ((rd_T126 l0_3 (rd t369 x13_1)).f7), .slice A373_8 ((rd_T126 l0_3 (rd t369 x13_1)).f8).length c373_8] 126 (0, 0))) := ⟨by (with_reducible repeat (first | refine blk_drewN ?_ _ | refine blk_drew ?_ | refine blk_alloc ?_ _)); apply bq9_8_7_6_5_4_3_2_1_0_; (with_reducible repeat (first | refine blk_drewN ?_ _ | refine blk_drew ?_ | refine blk_alloc ?_ _)); exact BK374.out⟩
           have n4_ : Aside0 (Below w.heap.size w (((((((((w14.setCell ⟨gb374, 0, none⟩ (.slice A373_0 ((rd_T126 l0_3 (rd t369 x13_1)).f0).length c373_0)).setCell ⟨gb374, 1, none⟩ (.int .i64 ((rd_T126 l0_3 (rd t369 x13_1)).f1))).setCell ⟨gb374, 2, none⟩ (.slice A373_2 ((rd_T126 l0_3 (rd t369 x13_1)).f2).length c373_2)).setCell ⟨gb374, 3, none⟩ (.int .i64 ((rd_T126 l0_3 (rd t369 x13_1)).f3))).setCell ⟨gb374, 4, none⟩ (.int .i64 ((rd_T126 l0_3 (rd t369 x13_1)).f4))).setCell ⟨gb374, 5, none⟩ (.int .i64 ((rd_T126 l0_3 (rd t369 x13_1)).f5))).setCell ⟨gb374, 6, none⟩ (.int .i64 ((rd_T126 l0_3 (rd t369 x13_1)).f6))).setCell ⟨gb374, 7, none⟩ (.int .i64 ((rd_T126 l0_3 (rd t369 x13_1)).f7))).setCell ⟨gb374, 8, none⟩ (.slice A373_8 ((rd_T126 l0_3 (rd t369 x13_1)).f8).length c373_8))) := ⟨bl_⟩
           (try clear HO_3)
           (try clear HO_11)
           (try clear BK368)
           (try clear BK374)
           (try clear HB)
           generalize (((((((((w14.setCell ⟨gb374, 0, none⟩ (.slice A373_0 ((rd_T126 l0_3 (rd t369 x13_1)).f0).length c373_0)).setCell ⟨gb374, 1, none⟩ (.int .i64 ((rd_T126 l0_3 (rd t369 x13_1)).f1))).setCell ⟨gb374, 2, none⟩ (.slice A373_2 ((rd_T126 l0_3 (rd t369 x13_1)).f2).length c373_2)).setCell ⟨gb374, 3, none⟩ (.int .i64 ((rd_T126 l0_3 (rd t369 x13_1)).f3))).setCell ⟨gb374, 4, none⟩ (.int .i64 ((rd_T126 l0_3 (rd t369 x13_1)).f4))).setCell ⟨gb374, 5, none⟩ (.int .i64 ((rd_T126 l0_3 (rd t369 x13_1)).f5))).setCell ⟨gb374, 6, none⟩ (.int .i64 ((rd_T126 l0_3 (rd t369 x13_1)).f6))).setCell ⟨gb374, 7, none⟩ (.int .i64 ((rd_T126 l0_3 (rd t369 x13_1)).f7))).setCell ⟨gb374, 8, none⟩ (.slice A373_8 ((rd_T126 l0_3 (rd t369 x13_1)).f8).length c373_8)) = w35 at n0_ n1_ n2_ n3_ n4_ ⊢
           have HO_3 := n0_
           have HO_11 := n1_
           have BK368 := n2_
           have BK374 := n3_
           have HB := n4_
           clear n0_ n1_ n2_ n3_ n4_
           have n0_ := Aside0.mk (Kd.R_drew HO_3.out)
           have n1_ := Aside0.mk (Kd.R_drew HO_11.out)
           have n2_ := Aside0.mk (blk_drew BK368.out)
           have n3_ := Aside0.mk (blk_drew BK374.out)
           have n4_ := Aside0.mk (below_drew1 HB.out)
           clear HO_3
           clear HO_11
           clear BK368
           clear BK374
           clear HB
           have HO_3 := n0_
           have HO_11 := n1_
           have BK368 := n2_
           have BK374 := n3_
           have HB := n4_
           clear n0_ n1_ n2_ n3_ n4_
           refine start_ (n := 36) (S := fun w' => w'.cell? ⟨gb374, 0, none⟩ = some (.slice A373_0 ((rd_T126 l0_3 (rd t369 x13_1)).f0).length c373_0) ∧ w'.cell? ⟨gb374, 1, none⟩ = some (.int .i64 ((rd_T126 l0_3 (rd t369 x13_1)).f1)) ∧ w'.cell? ⟨gb374, 2, none⟩ = some (.slice A373_2 ((rd_T126 l0_3 (rd t369 x13_1)).f2).length c373_2) ∧ w'.cell? ⟨gb374, 3, none⟩ = some (.int .i64 ((rd_T126 l0_3 (rd t369 x13_1)).f3)) ∧ w'.cell? ⟨gb374, 4, none⟩ = some (.int .i64 ((rd_T126 l0_3 (rd t369 x13_1)).f4)) ∧ w'.cell? ⟨gb374, 5, none⟩ = some (.int .i64 ((rd_T126 l0_3 (rd t369 x13_1)).f5)) ∧ w'.cell? ⟨gb374, 6, none⟩ = some (.int .i64 ((rd_T126 l0_3 (rd t369 x13_1)).f6)) ∧ w'.cell? ⟨gb374, 7, none⟩ = some (.int .i64 ((rd_T126 l0_3 (rd t369 x13_1)).f7)) ∧ w'.cell? ⟨gb374, 8, none⟩ = some (.slice A373_8 ((rd_T126 l0_3 (rd t369 x13_1)).f8).length c373_8)) (ds := []) tb36_0_9 (by kernel_rfl) rfl rfl ⟨cy_ BK374 0, cy_ BK374 1, cy_ BK374 2, cy_ BK374 3, cy_ BK374 4, cy_ BK374 5, cy_ BK374 6, cy_ BK374 7, cy_ BK374 8⟩ (fun hHeld => ?_); refine with_tabW spec_InOrder.tab6 spec_InOrder.bits6 (fun HT_ HW_ => ?_)
           generalize w35.drew = w36 at HO_3 HO_11 BK368 BK374 HB hHeld ⊢
           refine pl_ HT_ 0 23 tb36_1_9 ?_
           refine pl_ HT_ 1 24 tb36_3_9 ?_
           refine pl_ HT_ 2 25 tb36_7_9 ?_
           refine pr_ HT_ 3 26 tb36_f_9 ?_
           refine pr_ HT_ 4 27 tb36_1f_9 ?_
           refine pr_ HT_ 5 28 tb36_3f_9 ?_
           refine pr_ HT_ 6 29 tb36_7f_9 ?_
           refine pr_ HT_ 7 30 tb36_ff_9 ?_
           refine pr_ HT_ 8 31 tb36_1ff_9 ?_
           refine pr_ HT_ 9 32 tb36_3ff_9 ?_
           refine pr_ HT_ 10 33 tb36_7ff_9 ?_
           refine pr_ HT_ 11 34 tb36_fff_9 ?_
           refine pr_ HT_ 12 35 tb36_1fff_9 ?_
           refine pr_ HT_ 13 36 tb36_3fff_9 ?_
           refine pr_ HT_ 14 37 tb36_7fff_9 ?_
           refine pr_ HT_ 15 38 tb36_ffff_9 ?_
           refine pl_ HT_ 16 39 tb36_1ffff_9 ?_
           refine pl_ HT_ 17 40 tb36_3ffff_9 ?_
           refine pl_ HT_ 18 41 tb36_7ffff_9 ?_
           refine pl_ HT_ 20 43 tb36_17ffff_9 ?_
           refine take_ (i := 19) (N := some 42) (v := ?_) (a' := ?_) tb36_1fffff_9 rfl rfl (take_ofW HT_.out HW_.out (by kernel_rfl)) (fun _ _ _ h => h) (Or.inl ⟨by rfl, ?_⟩) hHeld ?_ ?_
           rotate_left
           ·rintro w' ⟨s0, s1, s2, s3, s4, s5, s6, s7, s8⟩
            go_simp
            with_reducible rfl
           rotate_left
           ·simp only [Act.put, q_]
            rfl
           refine take_ (i := 21) (N := some 44) (v := ?_) (a' := ?_) tb36_3fffff_9 rfl rfl (take_ofW HT_.out HW_.out (by kernel_rfl)) (fun _ _ _ h => h) (Or.inl ⟨by rfl, ?_⟩) hHeld ?_ ?_
           rotate_left
           ·rintro w' ⟨s0, s1, s2, s3, s4, s5, s6, s7, s8⟩
            go_simp
            with_reducible rfl
           rotate_left
           ·simp only [Act.put, q_]
            rfl
           refine pl_ HT_ 22 45 tb36_7fffff_9 ?_
           refine pl_ HT_ 23 46 tb36_ffffff_9 ?_
           refine pl_ HT_ 24 47 tb36_1ffffff_9 ?_
           refine pr_ HT_ 25 48 tb36_3ffffff_9 ?_
           refine pr_ HT_ 26 49 tb36_7ffffff_9 ?_
           refine pr_ HT_ 27 50 tb36_fffffff_9 ?_
           refine pr_ HT_ 28 51 tb36_1fffffff_9 ?_
           refine pr_ HT_ 29 52 tb36_3fffffff_9 ?_
           refine pr_ HT_ 30 53 tb36_7fffffff_9 ?_
           refine pr_ HT_ 31 54 tb36_ffffffff_9 ?_
           refine pr_ HT_ 32 55 tb36_1ffffffff_9 ?_
           refine pr_ HT_ 33 56 tb36_3ffffffff_9 ?_
           refine pr_ HT_ 34 57 tb36_7ffffffff_9 ?_
           refine pl_ HT_ 35 58 tb36_fffffffff_9 ?_
           refine done_ (done_of HT_.out (by kernel_rfl)) ?_
           try go_wp2
           go_meet
           case rel => exact ⟨_, (true), sp_, H', ⟨by have := HK1.out; first | omega | exact Nat.le_refl _⟩, ⟨ra_ HO_3⟩, ⟨ra_ HO_11⟩, ⟨by (with_reducible repeat (first | refine blk_drewN ?_ _ | refine blk_drew ?_ | refine blk_alloc ?_ _)); exact BK368.out⟩, ⟨by (with_reducible repeat (first | refine blk_drewN ?_ _ | refine blk_drew ?_ | refine blk_alloc ?_ _)); exact BK374.out⟩, ⟨bl_⟩⟩
          ·rw [if_neg c34] at H
           have c34b0 : decide (((rd_T126 l0_3 (rd t369 x13_1)).f5) < ((rd_T126 l0_3 (rd t369 x13_1)).f4)) = false := decide_eq_false c34
           clear c34
           by_cases c37 : ((rd_T126 l0_3 (rd t369 x13_1)).f6) = (-1)
           ·rw [if_pos c37] at H
            have c37b0 : (((rd_T126 l0_3 (rd t369 x13_1)).f6) == (-1)) = true := beq_iff_eq.mpr c37
            have c37b1 : (((rd_T126 l0_3 (rd t369 x13_1)).f6) != (-1)) = false := bne_eq_false_iff_eq.mpr c37
            clear c37
            have H' := Aside0.mk H
            clear H
            try go_wp2
            have n0_ := Aside0.mk (Kd.R_mono (ok' := fun _ => True) (Kd.R_far (p := ⟨gb374, 8, none⟩) (Kd.R_far (p := ⟨gb374, 7, none⟩) (Kd.R_far (p := ⟨gb374, 6, none⟩) (Kd.R_far (p := ⟨gb374, 5, none⟩) (Kd.R_far (p := ⟨gb374, 4, none⟩) (Kd.R_far (p := ⟨gb374, 3, none⟩) (Kd.R_far (p := ⟨gb374, 2, none⟩) (Kd.R_far (p := ⟨gb374, 1, none⟩) (Kd.R_far (p := ⟨gb374, 0, none⟩) (Kd.R_types HO_3.out BK374.out (by decide)) (fun _ hk => hk.2) (.slice A373_0 ((rd_T126 l0_3 (rd t369 x13_1)).f0).length c373_0)) (fun _ hk => hk.2) (.int .i64 ((rd_T126 l0_3 (rd t369 x13_1)).f1))) (fun _ hk => hk.2) (.slice A373_2 ((rd_T126 l0_3 (rd t369 x13_1)).f2).length c373_2)) (fun _ hk => hk.2) (.int .i64 ((rd_T126 l0_3 (rd t369 x13_1)).f3))) (fun _ hk => hk.2) (.int .i64 ((rd_T126 l0_3 (rd t369 x13_1)).f4))) (fun _ hk => hk.2) (.int .i64 ((rd_T126 l0_3 (rd t369 x13_1)).f5))) (fun _ hk => hk.2) (.int .i64 ((rd_T126 l0_3 (rd t369 x13_1)).f6))) (fun _ hk => hk.2) (.int .i64 ((rd_T126 l0_3 (rd t369 x13_1)).f7))) (fun _ hk => hk.2) (.slice A373_8 ((rd_T126 l0_3 (rd t369 x13_1)).f8).length c373_8)) (fun _ hk => trivial))
            have n1_ := Aside0.mk (Kd.R_mono (ok' := fun _ => True) (Kd.R_far (p := ⟨gb374, 8, none⟩) (Kd.R_far (p := ⟨gb374, 7, none⟩) (Kd.R_far (p := ⟨gb374, 6, none⟩) (Kd.R_far (p := ⟨gb374, 5, none⟩) (Kd.R_far (p := ⟨gb374, 4, none⟩) (Kd.R_far (p := ⟨gb374, 3, none⟩) (Kd.R_far (p := ⟨gb374, 2, none⟩) (Kd.R_far (p := ⟨gb374, 1, none⟩) (Kd.R_far (p := ⟨gb374, 0, none⟩) (Kd.R_types HO_11.out BK374.out (by decide)) (fun _ hk => hk.2) (.slice A373_0 ((rd_T126 l0_3 (rd t369 x13_1)).f0).length c373_0)) (fun _ hk => hk.2) (.int .i64 ((rd_T126 l0_3 (rd t369 x13_1)).f1))) (fun _ hk => hk.2) (.slice A373_2 ((rd_T126 l0_3 (rd t369 x13_1)).f2).length c373_2)) (fun _ hk => hk.2) (.int .i64 ((rd_T126 l0_3 (rd t369 x13_1)).f3))) (fun _ hk => hk.2) (.int .i64 ((rd_T126 l0_3 (rd t369 x13_1)).f4))) (fun _ hk => hk.2) (.int .i64 ((rd_T126 l0_3 (rd t369 x13_1)).f5))) (fun _ hk => hk.2) (.int .i64 ((rd_T126 l0_3 (rd t369 x13_1)).f6))) (fun _ hk => hk.2) (.int .i64 ((rd_T126 l0_3 (rd t369 x13_1)).f7))) (fun _ hk => hk.2) (.slice A373_8 ((rd_T126 l0_3 (rd t369 x13_1)).f8).length c373_8)) (fun _ hk => trivial))
            have n2_ : Aside0 ((((((((((w14.setCell ⟨gb374, 0, none⟩ (.slice A373_0 ((rd_T126 l0_3 (rd t369 x13_1)).f0).length c373_0)).setCell ⟨gb374, 1, none⟩ (.int .i64 ((rd_T126 l0_3 (rd t369 x13_1)).f1))).setCell ⟨gb374, 2, none⟩ (.slice A373_2 ((rd_T126 l0_3 (rd t369 x13_1)).f2).length c373_2)).setCell ⟨gb374, 3, none⟩ (.int .i64 ((rd_T126 l0_3 (rd t369 x13_1)).f3))).setCell ⟨gb374, 4, none⟩ (.int .i64 ((rd_T126 l0_3 (rd t369 x13_1)).f4))).setCell ⟨gb374, 5, none⟩ (.int .i64 ((rd_T126 l0_3 (rd t369 x13_1)).f5))).setCell ⟨gb374, 6, none⟩ (.int .i64 ((rd_T126 l0_3 (rd t369 x13_1)).f6))).setCell ⟨gb374, 7, none⟩ (.int .i64 ((rd_T126 l0_3 (rd t369 x13_1)).f7))).setCell ⟨gb374, 8, none⟩ (.slice A373_8 ((rd_T126 l0_3 (rd t369 x13_1)).f8).length c373_8)).heap[gb368]? = some (.cells #[.slice A0_0 l0_0.length c0_0, .int .i64 a0_1, .int .i64 a0_2, .slice (some ad373) l0_3.length c0_3] 56 (0, 0))) := ⟨by (repeat (with_reducible refine blk_far ?_ NB368_374.out _)); exact BK368.out⟩
            have n3_ : Aside0 ((((((((((w14.setCell ⟨gb374, 0, none⟩ (.slice A373_0 ((rd_T126 l0_3 (rd t369 x13_1)).f0).length c373_0)).setCell ⟨gb374, 1, none⟩ (.int .i64 ((rd_T126 l0_3 (rd t369 x13_1)).f1))).setCell ⟨gb374, 2, none⟩ (.slice A373_2 ((rd_T126 l0_3 (rd t369 x13_1)).f2).length c373_2)).setCell ⟨gb374, 3, none⟩ (.int .i64 ((rd_T126 l0_3 (rd t369 x13_1)).f3))).setCell ⟨gb374, 4, none⟩ (.int .i64 ((rd_T126 l0_3 (rd t369 x13_1)).f4))).setCell ⟨gb374, 5, none⟩ (.int .i64 ((rd_T126 l0_3 (rd t369 x13_1)).f5))).setCell ⟨gb374, 6, none⟩ (.int .i64 ((rd_T126 l0_3 (rd t369 x13_1)).f6))).setCell ⟨gb374, 7, none⟩ (.int .i64 ((rd_T126 l0_3 (rd t369 x13_1)).f7))).setCell ⟨gb374, 8, none⟩ (.slice A373_8 ((rd_T126 l0_3 (rd t369 x13_1)).f8).length c373_8)).heap[gb374]? = some (.cells #[.slice A373_0 ((rd_T126 l0_3 (rd t369 x13_1)).f0).length c373_0, .int .i64 ((rd_T126 l0_3 (rd t369 x13_1)).f1), .slice A373_2 ((rd_T126 l0_3 (rd t369 x13_1)).f2).length c373_2, .int .i64 ((rd_T126 l0_3 (rd t369 x13_1)).f3), .int .i64 ((rd_T126 l0_3 (rd t369 x13_1)).f4), .int .i64 ((rd_T126 l0_3 (rd t369 x13_1)).f5), .int .i64 ((rd_T126 l0_3 (rd t369 x13_1)).f6), .int .i64 ((rd_T126 l0_3 (rd t369 x13_1)).f7), .slice A373_8 ((rd_T126 l0_3 (rd t369 x13_1)).f8).length c373_8] 126 (0, 0))) := ⟨by (with_reducible repeat (first | refine blk_drewN ?_ _ | refine blk_drew ?_ | refine blk_alloc ?_ _)); apply bq9_8_7_6_5_4_3_2_1_0_; (with_reducible repeat (first | refine blk_drewN ?_ _ | refine blk_drew ?_ | refine blk_alloc ?_ _)); exact BK374.out⟩
            have n4_ : Aside0 (Below w.heap.size w (((((((((w14.setCell ⟨gb374, 0, none⟩ (.slice A373_0 ((rd_T126 l0_3 (rd t369 x13_1)).f0).length c373_0)).setCell ⟨gb374, 1, none⟩ (.int .i64 ((rd_T126 l0_3 (rd t369 x13_1)).f1))).setCell ⟨gb374, 2, none⟩ (.slice A373_2 ((rd_T126 l0_3 (rd t369 x13_1)).f2).length c373_2)).setCell ⟨gb374, 3, none⟩ (.int .i64 ((rd_T126 l0_3 (rd t369 x13_1)).f3))).setCell ⟨gb374, 4, none⟩ (.int .i64 ((rd_T126 l0_3 (rd t369 x13_1)).f4))).setCell ⟨gb374, 5, none⟩ (.int .i64 ((rd_T126 l0_3 (rd t369 x13_1)).f5))).setCell ⟨gb374, 6, none⟩ (.int .i64 ((rd_T126 l0_3 (rd t369 x13_1)).f6))).setCell ⟨gb374, 7, none⟩ (.int .i64 ((rd_T126 l0_3 (rd t369 x13_1)).f7))).setCell ⟨gb374, 8, none⟩ (.slice A373_8 ((rd_T126 l0_3 (rd t369 x13_1)).f8).length c373_8))) := ⟨bl_⟩
            (try clear HO_3)
            (try clear HO_11)
            (try clear BK368)
            (try clear BK374)
            (try clear HB)
            generalize (((((((((w14.setCell ⟨gb374, 0, none⟩ (.slice A373_0 ((rd_T126 l0_3 (rd t369 x13_1)).f0).length c373_0)).setCell ⟨gb374, 1, none⟩ (.int .i64 ((rd_T126 l0_3 (rd t369 x13_1)).f1))).setCell ⟨gb374, 2, none⟩ (.slice A373_2 ((rd_T126 l0_3 (rd t369 x13_1)).f2).length c373_2)).setCell ⟨gb374, 3, none⟩ (.int .i64 ((rd_T126 l0_3 (rd t369 x13_1)).f3))).setCell ⟨gb374, 4, none⟩ (.int .i64 ((rd_T126 l0_3 (rd t369 x13_1)).f4))).setCell ⟨gb374, 5, none⟩ (.int .i64 ((rd_T126 l0_3 (rd t369 x13_1)).f5))).setCell ⟨gb374, 6, none⟩ (.int .i64 ((rd_T126 l0_3 (rd t369 x13_1)).f6))).setCell ⟨gb374, 7, none⟩ (.int .i64 ((rd_T126 l0_3 (rd t369 x13_1)).f7))).setCell ⟨gb374, 8, none⟩ (.slice A373_8 ((rd_T126 l0_3 (rd t369 x13_1)).f8).length c373_8)) = w38 at n0_ n1_ n2_ n3_ n4_ ⊢
            have HO_3 := n0_
            have HO_11 := n1_
            have BK368 := n2_
            have BK374 := n3_
            have HB := n4_
            clear n0_ n1_ n2_ n3_ n4_
            have n0_ := Aside0.mk (Kd.R_drew HO_3.out)
            have n1_ := Aside0.mk (Kd.R_drew HO_11.out)
            have n2_ := Aside0.mk (blk_drew BK368.out)
            have n3_ := Aside0.mk (blk_drew BK374.out)
            have n4_ := Aside0.mk (below_drew1 HB.out)
            clear HO_3
            clear HO_11
            clear BK368
            clear BK374
            clear HB
            have HO_3 := n0_
            have HO_11 := n1_
            have BK368 := n2_
            have BK374 := n3_
            have HB := n4_
            clear n0_ n1_ n2_ n3_ n4_
            refine start_ (n := 36) (S := fun w' => w'.cell? ⟨gb374, 0, none⟩ = some (.slice A373_0 ((rd_T126 l0_3 (rd t369 x13_1)).f0).length c373_0) ∧ w'.cell? ⟨gb374, 1, none⟩ = some (.int .i64 ((rd_T126 l0_3 (rd t369 x13_1)).f1)) ∧ w'.cell? ⟨gb374, 2, none⟩ = some (.slice A373_2 ((rd_T126 l0_3 (rd t369 x13_1)).f2).length c373_2) ∧ w'.cell? ⟨gb374, 3, none⟩ = some (.int .i64 ((rd_T126 l0_3 (rd t369 x13_1)).f3)) ∧ w'.cell? ⟨gb374, 4, none⟩ = some (.int .i64 ((rd_T126 l0_3 (rd t369 x13_1)).f4)) ∧ w'.cell? ⟨gb374, 5, none⟩ = some (.int .i64 ((rd_T126 l0_3 (rd t369 x13_1)).f5)) ∧ w'.cell? ⟨gb374, 6, none⟩ = some (.int .i64 ((rd_T126 l0_3 (rd t369 x13_1)).f6)) ∧ w'.cell? ⟨gb374, 7, none⟩ = some (.int .i64 ((rd_T126 l0_3 (rd t369 x13_1)).f7)) ∧ w'.cell? ⟨gb374, 8, none⟩ = some (.slice A373_8 ((rd_T126 l0_3 (rd t369 x13_1)).f8).length c373_8)) (ds := []) tb36_0_9 (by kernel_rfl) rfl rfl ⟨cy_ BK374 0, cy_ BK374 1, cy_ BK374 2, cy_ BK374 3, cy_ BK374 4, cy_ BK374 5, cy_ BK374 6, cy_ BK374 7, cy_ BK374 8⟩ (fun hHeld => ?_); refine with_tabW spec_InOrder.tab6 spec_InOrder.bits6 (fun HT_ HW_ => ?_)
            generalize w38.drew = w39 at HO_3 HO_11 BK368 BK374 HB hHeld ⊢
            refine pl_ HT_ 0 23 tb36_1_9 ?_
            refine pl_ HT_ 1 24 tb36_3_9 ?_
            refine pl_ HT_ 2 25 tb36_7_9 ?_
            refine pr_ HT_ 3 26 tb36_f_9 ?_
            refine pr_ HT_ 4 27 tb36_1f_9 ?_
            refine pr_ HT_ 5 28 tb36_3f_9 ?_
            refine pr_ HT_ 6 29 tb36_7f_9 ?_
            refine pr_ HT_ 7 30 tb36_ff_9 ?_
            refine pr_ HT_ 8 31 tb36_1ff_9 ?_
            refine pr_ HT_ 9 32 tb36_3ff_9 ?_
            refine pr_ HT_ 10 33 tb36_7ff_9 ?_
            refine pr_ HT_ 11 34 tb36_fff_9 ?_
            refine pr_ HT_ 12 35 tb36_1fff_9 ?_
            refine pr_ HT_ 13 36 tb36_3fff_9 ?_
            refine pr_ HT_ 14 37 tb36_7fff_9 ?_
            refine pr_ HT_ 15 38 tb36_ffff_9 ?_
            refine pl_ HT_ 16 39 tb36_1ffff_9 ?_
            refine pl_ HT_ 17 40 tb36_3ffff_9 ?_
            refine pl_ HT_ 18 41 tb36_7ffff_9 ?_
            refine pl_ HT_ 20 43 tb36_17ffff_9 ?_
            refine take_ (i := 19) (N := some 42) (v := ?_) (a' := ?_) tb36_1fffff_9 rfl rfl (take_ofW HT_.out HW_.out (by kernel_rfl)) (fun _ _ _ h => h) (Or.inl ⟨by rfl, ?_⟩) hHeld ?_ ?_
            rotate_left
            ·rintro w' ⟨s0, s1, s2, s3, s4, s5, s6, s7, s8⟩
             go_simp
             with_reducible rfl
            rotate_left
            ·simp only [Act.put, q_]
             rfl
            refine take_ (i := 21) (N := some 44) (v := ?_) (a' := ?_) tb36_3fffff_9 rfl rfl (take_ofW HT_.out HW_.out (by kernel_rfl)) (fun _ _ _ h => h) (Or.inl ⟨by rfl, ?_⟩) hHeld ?_ ?_
            rotate_left
            ·rintro w' ⟨s0, s1, s2, s3, s4, s5, s6, s7, s8⟩
             go_simp
             with_reducible rfl
            rotate_left
            ·simp only [Act.put, q_]
             rfl
            refine pl_ HT_ 22 45 tb36_7fffff_9 ?_
            refine pl_ HT_ 23 46 tb36_ffffff_9 ?_
            refine pl_ HT_ 24 47 tb36_1ffffff_9 ?_
            refine pl_ HT_ 25 48 tb36_3ffffff_9 ?_
            refine take_ (i := 26) (N := some 49) (v := ?_) (a' := ?_) tb36_7ffffff_9 rfl rfl (take_ofW HT_.out HW_.out (by kernel_rfl)) (fun _ _ _ h => h) (Or.inl ⟨by rfl, ?_⟩) hHeld ?_ ?_
            rotate_left
            ·rintro w' ⟨s0, s1, s2, s3, s4, s5, s6, s7, s8⟩
             go_simp
             with_reducible rfl
            rotate_left
            ·simp only [Act.put, q_]
             rfl
            refine pl_ HT_ 27 50 tb36_fffffff_9 ?_
            refine pl_ HT_ 28 51 tb36_1fffffff_9 ?_
            refine pr_ HT_ 29 52 tb36_3fffffff_9 ?_
            refine pr_ HT_ 30 53 tb36_7fffffff_9 ?_
            refine pr_ HT_ 31 54 tb36_ffffffff_9 ?_
            refine pr_ HT_ 32 55 tb36_1ffffffff_9 ?_
            refine pr_ HT_ 33 56 tb36_3ffffffff_9 ?_
            refine pl_ HT_ 34 57 tb36_7ffffffff_9 ?_
            refine pl_ HT_ 35 58 tb36_fffffffff_9 ?_
            refine done_ (done_of HT_.out (by kernel_rfl)) ?_
            try go_wp2
            go_meet
            case rel => exact ⟨_, (false), sp_, H', ⟨by have := HK1.out; first | omega | exact Nat.le_refl _⟩, ⟨ra_ HO_3⟩, ⟨ra_ HO_11⟩, ⟨by (with_reducible repeat (first | refine blk_drewN ?_ _ | refine blk_drew ?_ | refine blk_alloc ?_ _)); exact BK368.out⟩, ⟨by (with_reducible repeat (first | refine blk_drewN ?_ _ | refine blk_drew ?_ | refine blk_alloc ?_ _)); exact BK374.out⟩, ⟨bl_⟩⟩
           ·rw [if_neg c37] at H
            have c37b0 : (((rd_T126 l0_3 (rd t369 x13_1)).f6) == (-1)) = false := beq_eq_false_iff_ne.mpr c37
            have c37b1 : (((rd_T126 l0_3 (rd t369 x13_1)).f6) != (-1)) = true := bne_iff_ne.mpr c37
            have H' := Aside0.mk H
            clear H
            try go_wp2
            have n0_ := Aside0.mk (Kd.R_mono (ok' := fun _ => True) (Kd.R_far (p := ⟨gb374, 8, none⟩) (Kd.R_far (p := ⟨gb374, 7, none⟩) (Kd.R_far (p := ⟨gb374, 6, none⟩) (Kd.R_far (p := ⟨gb374, 5, none⟩) (Kd.R_far (p := ⟨gb374, 4, none⟩) (Kd.R_far (p := ⟨gb374, 3, none⟩) (Kd.R_far (p := ⟨gb374, 2, none⟩) (Kd.R_far (p := ⟨gb374, 1, none⟩) (Kd.R_far (p := ⟨gb374, 0, none⟩) (Kd.R_types HO_3.out BK374.out (by decide)) (fun _ hk => hk.2) (.slice A373_0 ((rd_T126 l0_3 (rd t369 x13_1)).f0).length c373_0)) (fun _ hk => hk.2) (.int .i64 ((rd_T126 l0_3 (rd t369 x13_1)).f1))) (fun _ hk => hk.2) (.slice A373_2 ((rd_T126 l0_3 (rd t369 x13_1)).f2).length c373_2)) (fun _ hk => hk.2) (.int .i64 ((rd_T126 l0_3 (rd t369 x13_1)).f3))) (fun _ hk => hk.2) (.int .i64 ((rd_T126 l0_3 (rd t369 x13_1)).f4))) (fun _ hk => hk.2) (.int .i64 ((rd_T126 l0_3 (rd t369 x13_1)).f5))) (fun _ hk => hk.2) (.int .i64 ((rd_T126 l0_3 (rd t369 x13_1)).f6))) (fun _ hk => hk.2) (.int .i64 ((rd_T126 l0_3 (rd t369 x13_1)).f7))) (fun _ hk => hk.2) (.slice A373_8 ((rd_T126 l0_3 (rd t369 x13_1)).f8).length c373_8)) (fun _ hk => trivial))
            have n1_ := Aside0.mk (Kd.R_mono (ok' := fun _ => True) (Kd.R_far (p := ⟨gb374, 8, none⟩) (Kd.R_far (p := ⟨gb374, 7, none⟩) (Kd.R_far (p := ⟨gb374, 6, none⟩) (Kd.R_far (p := ⟨gb374, 5, none⟩) (Kd.R_far (p := ⟨gb374, 4, none⟩) (Kd.R_far (p := ⟨gb374, 3, none⟩) (Kd.R_far (p := ⟨gb374, 2, none⟩) (Kd.R_far (p := ⟨gb374, 1, none⟩) (Kd.R_far (p := ⟨gb374, 0, none⟩) (Kd.R_types HO_11.out BK374.out (by decide)) (fun _ hk => hk.2) (.slice A373_0 ((rd_T126 l0_3 (rd t369 x13_1)).f0).length c373_0)) (fun _ hk => hk.2) (.int .i64 ((rd_T126 l0_3 (rd t369 x13_1)).f1))) (fun _ hk => hk.2) (.slice A373_2 ((rd_T126 l0_3 (rd t369 x13_1)).f2).length c373_2)) (fun _ hk => hk.2) (.int .i64 ((rd_T126 l0_3 (rd t369 x13_1)).f3))) (fun _ hk => hk.2) (.int .i64 ((rd_T126 l0_3 (rd t369 x13_1)).f4))) (fun _ hk => hk.2) (.int .i64 ((rd_T126 l0_3 (rd t369 x13_1)).f5))) (fun _ hk => hk.2) (.int .i64 ((rd_T126 l0_3 (rd t369 x13_1)).f6))) (fun _ hk => hk.2) (.int .i64 ((rd_T126 l0_3 (rd t369 x13_1)).f7))) (fun _ hk => hk.2) (.slice A373_8 ((rd_T126 l0_3 (rd t369 x13_1)).f8).length c373_8)) (fun _ hk => trivial))
            have n2_ : Aside0 ((((((((((w14.setCell ⟨gb374, 0, none⟩ (.slice A373_0 ((rd_T126 l0_3 (rd t369 x13_1)).f0).length c373_0)).setCell ⟨gb374, 1, none⟩ (.int .i64 ((rd_T126 l0_3 (rd t369 x13_1)).f1))).setCell ⟨gb374, 2, none⟩ (.slice A373_2 ((rd_T126 l0_3 (rd t369 x13_1)).f2).length c373_2)).setCell ⟨gb374, 3, none⟩ (.int .i64 ((rd_T126 l0_3 (rd t369 x13_1)).f3))).setCell ⟨gb374, 4, none⟩ (.int .i64 ((rd_T126 l0_3 (rd t369 x13_1)).f4))).setCell ⟨gb374, 5, none⟩ (.int .i64 ((rd_T126 l0_3 (rd t369 x13_1)).f5))).setCell ⟨gb374, 6, none⟩ (.int .i64 ((rd_T126 l0_3 (rd t369 x13_1)).f6))).setCell ⟨gb374, 7, none⟩ (.int .i64 ((rd_T126 l0_3 (rd t369 x13_1)).f7))).setCell ⟨gb374, 8, none⟩ (.slice A373_8 ((rd_T126 l0_3 (rd t369 x13_1)).f8).length c373_8)).heap[gb368]? = some (.cells #[.slice A0_0 l0_0.length c0_0, .int .i64 a0_1, .int .i64 a0_2, .slice (some ad373) l0_3.length c0_3] 56 (0, 0))) := ⟨by (repeat (with_reducible refine blk_far ?_ NB368_374.out _)); exact BK368.out⟩
            have n3_ : Aside0 ((((((((((w14.setCell ⟨gb374, 0, none⟩ (.slice A373_0 ((rd_T126 l0_3 (rd t369 x13_1)).f0).length c373_0)).setCell ⟨gb374, 1, none⟩ (.int .i64 ((rd_T126 l0_3 (rd t369 x13_1)).f1))).setCell ⟨gb374, 2, none⟩ (.slice A373_2 ((rd_T126 l0_3 (rd t369 x13_1)).f2).length c373_2)).setCell ⟨gb374, 3, none⟩ (.int .i64 ((rd_T126 l0_3 (rd t369 x13_1)).f3))).setCell ⟨gb374, 4, none⟩ (.int .i64 ((rd_T126 l0_3 (rd t369 x13_1)).f4))).setCell ⟨gb374, 5, none⟩ (.int .i64 ((rd_T126 l0_3 (rd t369 x13_1)).f5))).setCell ⟨gb374, 6, none⟩ (.int .i64 ((rd_T126 l0_3 (rd t369 x13_1)).f6))).setCell ⟨gb374, 7, none⟩ (.int .i64 ((rd_T126 l0_3 (rd t369 x13_1)).f7))).setCell ⟨gb374, 8, none⟩ (.slice A373_8 ((rd_T126 l0_3 (rd t369 x13_1)).f8).length c373_8)).heap[gb374]? = some (.cells #[.slice A373_0 ((rd_T126 l0_3 (rd t369 x13_1)).f0).length c373_0, .int .i64 ((rd_T126 l0_3 (rd t369 x13_1)).f1), .slice A373_2 ((rd_T126 l0_3 (rd t369 x13_1)).f2).length c373_2, .int .i64 ((rd_T126 l0_3 (rd t369 x13_1)).f3), .int .i64 ((rd_T126 l0_3 (rd t369 x13_1)).f4), .int .i64 ((rd_T126 l0_3 (rd t369 x13_1)).f5), .int .i64 ((rd_T126 l0_3 (rd t369 x13_1)).f6), .int .i64 ((rd_T126 l0_3 (rd t369 x13_1)).f7), .slice A373_8 ((rd_T126 l0_3 (rd t369 x13_1)).f8).length c373_8] 126 (0, 0))) := ⟨by (with_reducible repeat (first | refine blk_drewN ?_ _ | refine blk_drew ?_ | refine blk_alloc ?_ _)); apply bq9_8_7_6_5_4_3_2_1_0_; (with_reducible repeat (first | refine blk_drewN ?_ _ | refine blk_drew ?_ | refine blk_alloc ?_ _)); exact BK374.out⟩
            have n4_ : Aside0 (Below w.heap.size w (((((((((w14.setCell ⟨gb374, 0, none⟩ (.slice A373_0 ((rd_T126 l0_3 (rd t369 x13_1)).f0).length c373_0)).setCell ⟨gb374, 1, none⟩ (.int .i64 ((rd_T126 l0_3 (rd t369 x13_1)).f1))).setCell ⟨gb374, 2, none⟩ (.slice A373_2 ((rd_T126 l0_3 (rd t369 x13_1)).f2).length c373_2)).setCell ⟨gb374, 3, none⟩ (.int .i64 ((rd_T126 l0_3 (rd t369 x13_1)).f3))).setCell ⟨gb374, 4, none⟩ (.int .i64 ((rd_T126 l0_3 (rd t369 x13_1)).f4))).setCell ⟨gb374, 5, none⟩ (.int .i64 ((rd_T126 l0_3 (rd t369 x13_1)).f5))).setCell ⟨gb374, 6, none⟩ (.int .i64 ((rd_T126 l0_3 (rd t369 x13_1)).f6))).setCell ⟨gb374, 7, none⟩ (.int .i64 ((rd_T126 l0_3 (rd t369 x13_1)).f7))).setCell ⟨gb374, 8, none⟩ (.slice A373_8 ((rd_T126 l0_3 (rd t369 x13_1)).f8).length c373_8))) := ⟨bl_⟩
            (try clear HO_3)
            (try clear HO_11)
            (try clear BK368)
            (try clear BK374)
            (try clear HB)
            generalize (((((((((w14.setCell ⟨gb374, 0, none⟩ (.slice A373_0 ((rd_T126 l0_3 (rd t369 x13_1)).f0).length c373_0)).setCell ⟨gb374, 1, none⟩ (.int .i64 ((rd_T126 l0_3 (rd t369 x13_1)).f1))).setCell ⟨gb374, 2, none⟩ (.slice A373_2 ((rd_T126 l0_3 (rd t369 x13_1)).f2).length c373_2)).setCell ⟨gb374, 3, none⟩ (.int .i64 ((rd_T126 l0_3 (rd t369 x13_1)).f3))).setCell ⟨gb374, 4, none⟩ (.int .i64 ((rd_T126 l0_3 (rd t369 x13_1)).f4))).setCell ⟨gb374, 5, none⟩ (.int .i64 ((rd_T126 l0_3 (rd t369 x13_1)).f5))).setCell ⟨gb374, 6, none⟩ (.int .i64 ((rd_T126 l0_3 (rd t369 x13_1)).f6))).setCell ⟨gb374, 7, none⟩ (.int .i64 ((rd_T126 l0_3 (rd t369 x13_1)).f7))).setCell ⟨gb374, 8, none⟩ (.slice A373_8 ((rd_T126 l0_3 (rd t369 x13_1)).f8).length c373_8)) = w40 at n0_ n1_ n2_ n3_ n4_ ⊢
            have HO_3 := n0_
            have HO_11 := n1_
            have BK368 := n2_
            have BK374 := n3_
            have HB := n4_
            clear n0_ n1_ n2_ n3_ n4_
            have n0_ := Aside0.mk (Kd.R_drew HO_3.out)
            have n1_ := Aside0.mk (Kd.R_drew HO_11.out)
            have n2_ := Aside0.mk (blk_drew BK368.out)
            have n3_ := Aside0.mk (blk_drew BK374.out)
            have n4_ := Aside0.mk (below_drew1 HB.out)
            clear HO_3
            clear HO_11
            clear BK368
            clear BK374
            clear HB
            have HO_3 := n0_
            have HO_11 := n1_
            have BK368 := n2_
            have BK374 := n3_
            have HB := n4_
            clear n0_ n1_ n2_ n3_ n4_
            refine start_ (n := 36) (S := fun w' => w'.cell? ⟨gb374, 0, none⟩ = some (.slice A373_0 ((rd_T126 l0_3 (rd t369 x13_1)).f0).length c373_0) ∧ w'.cell? ⟨gb374, 1, none⟩ = some (.int .i64 ((rd_T126 l0_3 (rd t369 x13_1)).f1)) ∧ w'.cell? ⟨gb374, 2, none⟩ = some (.slice A373_2 ((rd_T126 l0_3 (rd t369 x13_1)).f2).length c373_2) ∧ w'.cell? ⟨gb374, 3, none⟩ = some (.int .i64 ((rd_T126 l0_3 (rd t369 x13_1)).f3)) ∧ w'.cell? ⟨gb374, 4, none⟩ = some (.int .i64 ((rd_T126 l0_3 (rd t369 x13_1)).f4)) ∧ w'.cell? ⟨gb374, 5, none⟩ = some (.int .i64 ((rd_T126 l0_3 (rd t369 x13_1)).f5)) ∧ w'.cell? ⟨gb374, 6, none⟩ = some (.int .i64 ((rd_T126 l0_3 (rd t369 x13_1)).f6)) ∧ w'.cell? ⟨gb374, 7, none⟩ = some (.int .i64 ((rd_T126 l0_3 (rd t369 x13_1)).f7)) ∧ w'.cell? ⟨gb374, 8, none⟩ = some (.slice A373_8 ((rd_T126 l0_3 (rd t369 x13_1)).f8).length c373_8)) (ds := []) tb36_0_9 (by kernel_rfl) rfl rfl ⟨cy_ BK374 0, cy_ BK374 1, cy_ BK374 2, cy_ BK374 3, cy_ BK374 4, cy_ BK374 5, cy_ BK374 6, cy_ BK374 7, cy_ BK374 8⟩ (fun hHeld => ?_); refine with_tabW spec_InOrder.tab6 spec_InOrder.bits6 (fun HT_ HW_ => ?_)
            generalize w40.drew = w41 at HO_3 HO_11 BK368 BK374 HB hHeld ⊢
            refine pl_ HT_ 0 23 tb36_1_9 ?_
            refine pl_ HT_ 1 24 tb36_3_9 ?_
            refine pl_ HT_ 2 25 tb36_7_9 ?_
            refine pr_ HT_ 3 26 tb36_f_9 ?_
            refine pr_ HT_ 4 27 tb36_1f_9 ?_
            refine pr_ HT_ 5 28 tb36_3f_9 ?_
            refine pr_ HT_ 6 29 tb36_7f_9 ?_
            refine pr_ HT_ 7 30 tb36_ff_9 ?_
            refine pr_ HT_ 8 31 tb36_1ff_9 ?_
            refine pr_ HT_ 9 32 tb36_3ff_9 ?_
            refine pr_ HT_ 10 33 tb36_7ff_9 ?_
            refine pr_ HT_ 11 34 tb36_fff_9 ?_
            refine pr_ HT_ 12 35 tb36_1fff_9 ?_
            refine pr_ HT_ 13 36 tb36_3fff_9 ?_
            refine pr_ HT_ 14 37 tb36_7fff_9 ?_
            refine pr_ HT_ 15 38 tb36_ffff_9 ?_
            refine pl_ HT_ 16 39 tb36_1ffff_9 ?_
            refine pl_ HT_ 17 40 tb36_3ffff_9 ?_
            refine pl_ HT_ 18 41 tb36_7ffff_9 ?_
            refine pl_ HT_ 20 43 tb36_17ffff_9 ?_
            refine take_ (i := 19) (N := some 42) (v := ?_) (a' := ?_) tb36_1fffff_9 rfl rfl (take_ofW HT_.out HW_.out (by kernel_rfl)) (fun _ _ _ h => h) (Or.inl ⟨by rfl, ?_⟩) hHeld ?_ ?_
            rotate_left
            ·rintro w' ⟨s0, s1, s2, s3, s4, s5, s6, s7, s8⟩
             go_simp
             with_reducible rfl
            rotate_left
            ·simp only [Act.put, q_]
             rfl
            refine take_ (i := 21) (N := some 44) (v := ?_) (a' := ?_) tb36_3fffff_9 rfl rfl (take_ofW HT_.out HW_.out (by kernel_rfl)) (fun _ _ _ h => h) (Or.inl ⟨by rfl, ?_⟩) hHeld ?_ ?_
            rotate_left
            ·rintro w' ⟨s0, s1, s2, s3, s4, s5, s6, s7, s8⟩
             go_simp
             with_reducible rfl
            rotate_left
            ·simp only [Act.put, q_]
             rfl
            refine pl_ HT_ 22 45 tb36_7fffff_9 ?_
            refine pl_ HT_ 23 46 tb36_ffffff_9 ?_
            refine pl_ HT_ 24 47 tb36_1ffffff_9 ?_
            refine pl_ HT_ 25 48 tb36_3ffffff_9 ?_
            refine take_ (i := 26) (N := some 49) (v := ?_) (a' := ?_) tb36_7ffffff_9 rfl rfl (take_ofW HT_.out HW_.out (by kernel_rfl)) (fun _ _ _ h => h) (Or.inl ⟨by rfl, ?_⟩) hHeld ?_ ?_
            rotate_left
            ·rintro w' ⟨s0, s1, s2, s3, s4, s5, s6, s7, s8⟩
             go_simp
             with_reducible rfl
            rotate_left
            ·simp only [Act.put, q_]
             rfl
            refine pl_ HT_ 27 50 tb36_fffffff_9 ?_
            refine pl_ HT_ 28 51 tb36_1fffffff_9 ?_
            refine pl_ HT_ 29 52 tb36_3fffffff_9 ?_
            refine pl_ HT_ 31 54 tb36_bfffffff_9 ?_
            refine take_ (i := 30) (N := some 53) (v := ?_) (a' := ?_) tb36_ffffffff_9 rfl rfl (take_ofW HT_.out HW_.out (by kernel_rfl)) (fun _ _ _ h => h) (Or.inl ⟨by rfl, ?_⟩) hHeld ?_ ?_
            rotate_left
            ·rintro w' ⟨s0, s1, s2, s3, s4, s5, s6, s7, s8⟩
             go_simp
             with_reducible rfl
            rotate_left
            ·simp only [Act.put, q_]
             rfl
            refine take_ (i := 32) (N := some 55) (v := ?_) (a' := ?_) tb36_1ffffffff_9 rfl rfl (take_ofW HT_.out HW_.out (by kernel_rfl)) (fun _ _ _ h => h) (Or.inl ⟨by rfl, ?_⟩) hHeld ?_ ?_
            rotate_left
            ·rintro w' ⟨s0, s1, s2, s3, s4, s5, s6, s7, s8⟩
             go_simp
             with_reducible rfl
            rotate_left
            ·simp only [Act.put, q_]
             rfl
            refine pl_ HT_ 33 56 tb36_3ffffffff_9 ?_
            refine pl_ HT_ 34 57 tb36_7ffffffff_9 ?_
            refine pl_ HT_ 35 58 tb36_fffffffff_9 ?_
            refine done_ (done_of HT_.out (by kernel_rfl)) ?_
            try go_wp2
            go_meet
            case rel => exact ⟨_, (decide (((rd_T126 l0_3 (rd t369 x13_1)).f5) > ((rd_T126 l0_3 (rd t369 x13_1)).f6))), sp_, H', ⟨by have := HK1.out; first | omega | exact Nat.le_refl _⟩, ⟨ra_ HO_3⟩, ⟨ra_ HO_11⟩, ⟨by (with_reducible repeat (first | refine blk_drewN ?_ _ | refine blk_drew ?_ | refine blk_alloc ?_ _)); exact BK368.out⟩, ⟨by (with_reducible repeat (first | refine blk_drewN ?_ _ | refine blk_drew ?_ | refine blk_alloc ?_ _)); exact BK374.out⟩, ⟨bl_⟩⟩
        case rest =>
         clear HC12
         try clear p2
         try clear c3
         try clear c34
         try clear c34b0
         try clear c37
         try clear c37b0
         try clear c37b1
         obtain ⟨kq, x58_11, rfl, HA, HJ11, HO_3, HO_11, BK368, BK374, HB⟩ := hcut
         cases kq with
         | zero => exact absurd HA.out (by simp [spec_InOrder.j1])
         | succ kj11 =>
          have H := HA.out
          clear HA
          simp only [spec_InOrder.j1] at H
          by_cases c42 : x58_11 = true
          ·subst c42
           replace H := ip_ H
           obtain rfl := Option.some.inj H
           go_wp2
           go_ret
           exact ⟨sq_, bl_⟩
          ·replace c42 := Bool.eq_false_iff.mpr c42
           subst c42
           replace H := in_ H
           have H' := Aside0.mk H
           clear H
           go_wp2
           go_loopg [61] kj11 (fun kq v61 w' => ∃ (x61_3 : Int), v61 = .int .i64 x61_3 ∧ Aside0 (spec_InOrder.l1 kq t369 t369 (t369.length : Int) x13_1 t369 (t369.length : Int) x61_3 l0_0 a0_1 a0_2 l0_3 ((rd_T126 l0_3 (rd t369 x13_1)).f0) ((rd_T126 l0_3 (rd t369 x13_1)).f1) ((rd_T126 l0_3 (rd t369 x13_1)).f2) ((rd_T126 l0_3 (rd t369 x13_1)).f3) ((rd_T126 l0_3 (rd t369 x13_1)).f4) ((rd_T126 l0_3 (rd t369 x13_1)).f5) ((rd_T126 l0_3 (rd t369 x13_1)).f6) ((rd_T126 l0_3 (rd t369 x13_1)).f7) ((rd_T126 l0_3 (rd t369 x13_1)).f8) = some r) ∧ Aside0 (kq ≤ kj11) ∧ Aside0 (Kd.R (Kd.int .i64) 3 w' w.heap.size (fun _ => True) (.slice (some ad372) t369.length co6) t369) ∧ Aside0 (Kd.R (Kd.int .i64) 3 w' w.heap.size (fun _ => True) (.slice (some ad372) t369.length co6) t369) ∧ Aside0 (Kd.R (Kd.int .i64) 3 w' w.heap.size (fun _ => True) (.slice (some ad372) t369.length co6) t369) ∧ Aside0 (w'.heap[gb368]? = some (.cells #[(.slice A0_0 l0_0.length c0_0), .int .i64 a0_1, .int .i64 a0_2, (.slice (some ad373) l0_3.length c0_3)] 56 (0, 0))) ∧ Aside0 (w'.heap[gb374]? = some (.cells #[(.slice A373_0 ((rd_T126 l0_3 (rd t369 x13_1)).f0).length c373_0), .int .i64 ((rd_T126 l0_3 (rd t369 x13_1)).f1), (.slice A373_2 ((rd_T126 l0_3 (rd t369 x13_1)).f2).length c373_2), .int .i64 ((rd_T126 l0_3 (rd t369 x13_1)).f3), .int .i64 ((rd_T126 l0_3 (rd t369 x13_1)).f4), .int .i64 ((rd_T126 l0_3 (rd t369 x13_1)).f5), .int .i64 ((rd_T126 l0_3 (rd t369 x13_1)).f6), .int .i64 ((rd_T126 l0_3 (rd t369 x13_1)).f7), (.slice A373_8 ((rd_T126 l0_3 (rd t369 x13_1)).f8).length c373_8)] 126 (0, 0))) ∧ Aside0 (Below w.heap.size w w'))
           case atStart => exact ⟨(0), sp_, H', ⟨Nat.le_refl _⟩, ⟨ra_ HO_3⟩, ⟨ra_ HO_11⟩, ⟨ra_ HO_3⟩, ⟨by (with_reducible repeat (first | refine blk_drewN ?_ _ | refine blk_drew ?_ | refine blk_alloc ?_ _)); exact BK368.out⟩, ⟨by (with_reducible repeat (first | refine blk_drewN ?_ _ | refine blk_drew ?_ | refine blk_alloc ?_ _)); exact BK374.out⟩, ⟨bl_⟩⟩
           case round =>
            clear H'
            try clear p2
            try clear c3
            try clear c4
            try clear c34
            try clear c34b0
            try clear c37
            try clear c37b0
            try clear c37b1
            try clear c42
            try clear p2
            obtain ⟨x61_3, rfl, HA, HK3, HO_3, HO_11, HO_59, BK368, BK374, HB⟩ := hrel
            cases gk with
            | zero => exact absurd HA.out (by simp [spec_InOrder.l1])
            | succ k3 =>
             have H := HA.out
             clear HA
             simp only [spec_InOrder.l1] at H
             by_cases c43 : x61_3 < (t369.length : Int)
             ·rw [if_pos c43] at H
              have c43b0 : decide (x61_3 < (t369.length : Int)) = true := decide_eq_true c43
              clear c43
              by_cases c44 : 0 ≤ x61_3
              ·rw [if_pos c44] at H
               have c44b0 : decide (0 ≤ x61_3) = true := decide_eq_true c44
               clear c44
               by_cases c45 : x61_3 < (t369.length : Int)
               ·rw [if_pos c45] at H
                have c45b0 : decide (x61_3 < (t369.length : Int)) = true := decide_eq_true c45
                clear c45
                by_cases c46 : 0 ≤ (rd t369 x61_3)
                ·rw [if_pos c46] at H
                 have c46b0 : decide (0 ≤ (rd t369 x61_3)) = true := decide_eq_true c46
                 clear c46
                 by_cases c47 : (rd t369 x61_3) < (l0_3.length : Int)
                 ·rw [if_pos c47] at H
                  have c47b0 : decide ((rd t369 x61_3) < (l0_3.length : Int)) = true := decide_eq_true c47
                  clear c47
                  obtain ⟨t379, A48, H⟩ := ob_ H
                  by_cases c49 : t379 = true
                  ·subst c49
                   replace H := ip_ H
                   by_cases c50 : ((rd_T126 l0_3 (rd t369 x61_3)).f5) ≥ ((rd_T126 l0_3 (rd t369 x13_1)).f5)
                   ·rw [if_pos c50] at H
                    have c50b0 : decide (((rd_T126 l0_3 (rd t369 x13_1)).f5) ≤ ((rd_T126 l0_3 (rd t369 x61_3)).f5)) = true := decide_eq_true c50
                    clear c50
                    obtain rfl := Option.some.inj H
                    have p377 : 0 ≤ (x61_3 : Int) := od_
                    have q377 : x61_3 < (t369.length : Int) := od_
                    obtain ⟨ad377, e377, hx377_0⟩ := Kd.at_int (Kd.R_reads' HO_59.out).2.2 x61_3 p377 q377
                    obtain rfl : ad372 = ad377 := (by injection e377)
                    replace p377 := eq_true p377
                    replace q377 := eq_true q377
                    try go_wp2
                    have n0_ := Aside0.mk (Kd.R_drew HO_3.out)
                    have n1_ := Aside0.mk (Kd.R_drew HO_11.out)
                    have n2_ := Aside0.mk (Kd.R_drew HO_59.out)
                    have n3_ := Aside0.mk (blk_drew BK368.out)
                    have n4_ := Aside0.mk (blk_drew BK374.out)
                    have n5_ := Aside0.mk (below_drew1 HB.out)
                    clear HO_3
                    clear HO_11
                    clear HO_59
                    clear BK368
                    clear BK374
                    clear HB
                    have HO_3 := n0_
                    have HO_11 := n1_
                    have HO_59 := n2_
                    have BK368 := n3_
                    have BK374 := n4_
                    have HB := n5_
                    clear n0_ n1_ n2_ n3_ n4_ n5_
                    have p378 : 0 ≤ ((rd t369 x61_3) : Int) := od_
                    have q378 : (rd t369 x61_3) < (l0_3.length : Int) := od_
                    obtain ⟨ad378, A378_0, c378_0, A378_2, c378_2, A378_8, c378_8, e378, hx378_0, hx378_1, hx378_2, hx378_3, hx378_4, hx378_5, hx378_6, hx378_7, hx378_8, hl378_0, hi378_0, hl378_2, hi378_2, hl378_8, hi378_8⟩ := at_T126 HR0_3.out (rd t369 x61_3) p378 q378
                    have hw378_8 := hx378_8
                    have hw378_7 := hx378_7
                    have hw378_6 := hx378_6
                    have hw378_5 := hx378_5
                    have hw378_4 := hx378_4
                    have hw378_3 := hx378_3
                    have hw378_2 := hx378_2
                    have hw378_1 := hx378_1
                    have hw378_0 := hx378_0
                    obtain rfl : ad373 = ad378 := (by injection e378)
                    replace hx378_0 := kc_ HB hx378_0
                    replace hx378_1 := kc_ HB hx378_1
                    replace hx378_2 := kc_ HB hx378_2
                    replace hx378_3 := kc_ HB hx378_3
                    replace hx378_4 := kc_ HB hx378_4
                    replace hx378_5 := kc_ HB hx378_5
                    replace hx378_6 := kc_ HB hx378_6
                    replace hx378_7 := kc_ HB hx378_7
                    replace hx378_8 := kc_ HB hx378_8
                    have HR378_0 := Aside0.mk hi378_0
                    have HC378_0 := Aside0.mk hl378_0
                    clear hi378_0 hl378_0
                    have HR378_2 := Aside0.mk hi378_2
                    have HC378_2 := Aside0.mk hl378_2
                    clear hi378_2 hl378_2
                    have HR378_8 := Aside0.mk hi378_8
                    have HC378_8 := Aside0.mk hl378_8
                    clear hi378_8 hl378_8
                    replace p378 := eq_true p378
                    replace q378 := eq_true q378
                    have p380 : 0 ≤ ((rd t369 x61_3) : Int) := od_
                    have q380 : (rd t369 x61_3) < (l0_3.length : Int) := od_
                    obtain ⟨ad380, A380_0, c380_0, A380_2, c380_2, A380_8, c380_8, e380, hx380_0, hx380_1, hx380_2, hx380_3, hx380_4, hx380_5, hx380_6, hx380_7, hx380_8, hl380_0, hi380_0, hl380_2, hi380_2, hl380_8, hi380_8⟩ := at_T126 HR0_3.out (rd t369 x61_3) p380 q380
                    have hw380_8 := hx380_8
                    have hw380_7 := hx380_7
                    have hw380_6 := hx380_6
                    have hw380_5 := hx380_5
                    have hw380_4 := hx380_4
                    have hw380_3 := hx380_3
                    have hw380_2 := hx380_2
                    have hw380_1 := hx380_1
                    have hw380_0 := hx380_0
                    obtain rfl : ad373 = ad380 := (by injection e380)
                    replace hx380_0 := kc_ HB hx380_0
                    replace hx380_1 := kc_ HB hx380_1
                    replace hx380_2 := kc_ HB hx380_2
                    replace hx380_3 := kc_ HB hx380_3
                    replace hx380_4 := kc_ HB hx380_4
                    replace hx380_5 := kc_ HB hx380_5
                    replace hx380_6 := kc_ HB hx380_6
                    replace hx380_7 := kc_ HB hx380_7
                    replace hx380_8 := kc_ HB hx380_8
                    have HR380_0 := Aside0.mk hi380_0
                    have HC380_0 := Aside0.mk hl380_0
                    clear hi380_0 hl380_0
                    have HR380_2 := Aside0.mk hi380_2
                    have HC380_2 := Aside0.mk hl380_2
                    clear hi380_2 hl380_2
                    have HR380_8 := Aside0.mk hi380_8
                    have HC380_8 := Aside0.mk hl380_8
                    clear hi380_8 hl380_8
                    replace p380 := eq_true p380
                    replace q380 := eq_true q380
                    refine start_ (n := 18) (S := fun w' => w'.cell? ⟨gb368, 0, none⟩ = some (.slice A0_0 l0_0.length c0_0) ∧ w'.cell? ⟨gb368, 1, none⟩ = some (.int .i64 a0_1) ∧ w'.cell? ⟨gb368, 2, none⟩ = some (.int .i64 a0_2) ∧ w'.cell? ⟨gb368, 3, none⟩ = some (.slice (some ad373) l0_3.length c0_3) ∧ w'.cell? ⟨gb374, 0, none⟩ = some (.slice A373_0 ((rd_T126 l0_3 (rd t369 x13_1)).f0).length c373_0) ∧ w'.cell? ⟨gb374, 1, none⟩ = some (.int .i64 ((rd_T126 l0_3 (rd t369 x13_1)).f1)) ∧ w'.cell? ⟨gb374, 2, none⟩ = some (.slice A373_2 ((rd_T126 l0_3 (rd t369 x13_1)).f2).length c373_2) ∧ w'.cell? ⟨gb374, 3, none⟩ = some (.int .i64 ((rd_T126 l0_3 (rd t369 x13_1)).f3)) ∧ w'.cell? ⟨gb374, 4, none⟩ = some (.int .i64 ((rd_T126 l0_3 (rd t369 x13_1)).f4)) ∧ w'.cell? ⟨gb374, 5, none⟩ = some (.int .i64 ((rd_T126 l0_3 (rd t369 x13_1)).f5)) ∧ w'.cell? ⟨gb374, 6, none⟩ = some (.int .i64 ((rd_T126 l0_3 (rd t369 x13_1)).f6)) ∧ w'.cell? ⟨gb374, 7, none⟩ = some (.int .i64 ((rd_T126 l0_3 (rd t369 x13_1)).f7)) ∧ w'.cell? ⟨gb374, 8, none⟩ = some (.slice A373_8 ((rd_T126 l0_3 (rd t369 x13_1)).f8).length c373_8) ∧ w'.cell? (ad373.add (((rd t369 x61_3)).toNat * 9)) = some (.slice A378_0 ((rd_T126 l0_3 (rd t369 x61_3)).f0).length c378_0) ∧ w'.cell? ⟨(ad373.add (((rd t369 x61_3)).toNat * 9)).block, (ad373.add (((rd t369 x61_3)).toNat * 9)).off + 1, none⟩ = some (.int .i64 ((rd_T126 l0_3 (rd t369 x61_3)).f1)) ∧ w'.cell? ⟨(ad373.add (((rd t369 x61_3)).toNat * 9)).block, (ad373.add (((rd t369 x61_3)).toNat * 9)).off + 2, none⟩ = some (.slice A378_2 ((rd_T126 l0_3 (rd t369 x61_3)).f2).length c378_2) ∧ w'.cell? ⟨(ad373.add (((rd t369 x61_3)).toNat * 9)).block, (ad373.add (((rd t369 x61_3)).toNat * 9)).off + 3, none⟩ = some (.int .i64 ((rd_T126 l0_3 (rd t369 x61_3)).f3)) ∧ w'.cell? ⟨(ad373.add (((rd t369 x61_3)).toNat * 9)).block, (ad373.add (((rd t369 x61_3)).toNat * 9)).off + 4, none⟩ = some (.int .i64 ((rd_T126 l0_3 (rd t369 x61_3)).f4)) ∧ w'.cell? ⟨(ad373.add (((rd t369 x61_3)).toNat * 9)).block, (ad373.add (((rd t369 x61_3)).toNat * 9)).off + 5, none⟩ = some (.int .i64 ((rd_T126 l0_3 (rd t369 x61_3)).f5)) ∧ w'.cell? ⟨(ad373.add (((rd t369 x61_3)).toNat * 9)).block, (ad373.add (((rd t369 x61_3)).toNat * 9)).off + 6, none⟩ = some (.int .i64 ((rd_T126 l0_3 (rd t369 x61_3)).f6)) ∧ w'.cell? ⟨(ad373.add (((rd t369 x61_3)).toNat * 9)).block, (ad373.add (((rd t369 x61_3)).toNat * 9)).off + 7, none⟩ = some (.int .i64 ((rd_T126 l0_3 (rd t369 x61_3)).f7)) ∧ w'.cell? ⟨(ad373.add (((rd t369 x61_3)).toNat * 9)).block, (ad373.add (((rd t369 x61_3)).toNat * 9)).off + 8, none⟩ = some (.slice A378_8 ((rd_T126 l0_3 (rd t369 x61_3)).f8).length c378_8) ∧ w'.cell? (ad373.add (((rd t369 x61_3)).toNat * 9)) = some (.slice A380_0 ((rd_T126 l0_3 (rd t369 x61_3)).f0).length c380_0) ∧ w'.cell? ⟨(ad373.add (((rd t369 x61_3)).toNat * 9)).block, (ad373.add (((rd t369 x61_3)).toNat * 9)).off + 1, none⟩ = some (.int .i64 ((rd_T126 l0_3 (rd t369 x61_3)).f1)) ∧ w'.cell? ⟨(ad373.add (((rd t369 x61_3)).toNat * 9)).block, (ad373.add (((rd t369 x61_3)).toNat * 9)).off + 2, none⟩ = some (.slice A380_2 ((rd_T126 l0_3 (rd t369 x61_3)).f2).length c380_2) ∧ w'.cell? ⟨(ad373.add (((rd t369 x61_3)).toNat * 9)).block, (ad373.add (((rd t369 x61_3)).toNat * 9)).off + 3, none⟩ = some (.int .i64 ((rd_T126 l0_3 (rd t369 x61_3)).f3)) ∧ w'.cell? ⟨(ad373.add (((rd t369 x61_3)).toNat * 9)).block, (ad373.add (((rd t369 x61_3)).toNat * 9)).off + 4, none⟩ = some (.int .i64 ((rd_T126 l0_3 (rd t369 x61_3)).f4)) ∧ w'.cell? ⟨(ad373.add (((rd t369 x61_3)).toNat * 9)).block, (ad373.add (((rd t369 x61_3)).toNat * 9)).off + 5, none⟩ = some (.int .i64 ((rd_T126 l0_3 (rd t369 x61_3)).f5)) ∧ w'.cell? ⟨(ad373.add (((rd t369 x61_3)).toNat * 9)).block, (ad373.add (((rd t369 x61_3)).toNat * 9)).off + 6, none⟩ = some (.int .i64 ((rd_T126 l0_3 (rd t369 x61_3)).f6)) ∧ w'.cell? ⟨(ad373.add (((rd t369 x61_3)).toNat * 9)).block, (ad373.add (((rd t369 x61_3)).toNat * 9)).off + 7, none⟩ = some (.int .i64 ((rd_T126 l0_3 (rd t369 x61_3)).f7)) ∧ w'.cell? ⟨(ad373.add (((rd t369 x61_3)).toNat * 9)).block, (ad373.add (((rd t369 x61_3)).toNat * 9)).off + 8, none⟩ = some (.slice A380_8 ((rd_T126 l0_3 (rd t369 x61_3)).f8).length c380_8)) (ds := []) tb18_0_9 (by kernel_rfl) rfl rfl ⟨cy_ BK368 0, cy_ BK368 1, cy_ BK368 2, cy_ BK368 3, cy_ BK374 0, cy_ BK374 1, cy_ BK374 2, cy_ BK374 3, cy_ BK374 4, cy_ BK374 5, cy_ BK374 6, cy_ BK374 7, cy_ BK374 8, (kc_ HB hw378_0), (kc_ HB hw378_1), (kc_ HB hw378_2), (kc_ HB hw378_3), (kc_ HB hw378_4), (kc_ HB hw378_5), (kc_ HB hw378_6), (kc_ HB hw378_7), (kc_ HB hw378_8), (kc_ HB hw380_0), (kc_ HB hw380_1), (kc_ HB hw380_2), (kc_ HB hw380_3), (kc_ HB hw380_4), (kc_ HB hw380_5), (kc_ HB hw380_6), (kc_ HB hw380_7), (kc_ HB hw380_8)⟩ (fun hHeld => ?_); refine with_tabW spec_InOrder.tab11 spec_InOrder.bits11 (fun HT_ HW_ => ?_)
                    generalize wr.drew = w51 at HO_3 HO_11 HO_59 BK368 BK374 HB HR378_0 HR378_2 HR378_8 HR380_0 HR380_2 HR380_8 hx378_0 hx378_1 hx378_2 hx378_3 hx378_4 hx378_5 hx378_6 hx378_7 hx378_8 hx380_0 hx380_1 hx380_2 hx380_3 hx380_4 hx380_5 hx380_6 hx380_7 hx380_8 hHeld ⊢
                    refine pl_ HT_ 0 65 tb18_1_9 ?_
                    refine pl_ HT_ 2 67 tb18_5_9 ?_
                    refine take_ (i := 1) (N := some 66) (v := ?_) (a' := ?_) tb18_7_9 rfl rfl (take_ofW HT_.out HW_.out (by kernel_rfl)) (fun _ _ _ h => h) (Or.inl ⟨by rfl, ?_⟩) hHeld ?_ ?_
                    rotate_left
                    ·rintro w' ⟨s0, s1, s2, s3, s4, s5, s6, s7, s8, s9, s10, s11, s12, s13, s14, s15, s16, s17, s18, s19, s20, s21, s22, s23, s24, s25, s26, s27, s28, s29, s30⟩
                     go_simp
                     with_reducible rfl
                    rotate_left
                    ·simp only [Act.put, q_]
                     rfl
                    refine pl_ HT_ 3 68 tb18_f_9 ?_
                    refine take_ (i := 4) (N := some 69) (v := ?_) (a' := ?_) tb18_1f_9 rfl rfl (take_ofW HT_.out HW_.out (by kernel_rfl)) (fun _ _ _ h => h) (Or.inl ⟨by rfl, ?_⟩) hHeld ?_ ?_
                    rotate_left
                    ·rintro w' ⟨s0, s1, s2, s3, s4, s5, s6, s7, s8, s9, s10, s11, s12, s13, s14, s15, s16, s17, s18, s19, s20, s21, s22, s23, s24, s25, s26, s27, s28, s29, s30⟩
                     go_simp
                     with_reducible rfl
                    rotate_left
                    ·simp only [Act.put, q_]
                     rfl
                    refine take_ (i := 5) (N := some 70) (v := ?_) (a' := ?_) tb18_3f_9 rfl rfl (take_ofW HT_.out HW_.out (by kernel_rfl)) (fun _ _ _ h => h) (Or.inl ⟨by rfl, ?_⟩) hHeld ?_ ?_
                    rotate_left
                    ·rintro w' ⟨s0, s1, s2, s3, s4, s5, s6, s7, s8, s9, s10, s11, s12, s13, s14, s15, s16, s17, s18, s19, s20, s21, s22, s23, s24, s25, s26, s27, s28, s29, s30⟩
                     go_simp
                     with_reducible rfl
                    rotate_left
                    ·simp only [Act.put, q_]
                     rfl
                    refine one_ (i := 6) (N := some 71) tb18_7f_9 rfl rfl (one_of HT_.out (by kernel_rfl)) (by decide) (fun K hK => ?_)
                    refine goes_ Try.func132 (by kernel_rfl) rfl #[.agg #[.slice A378_0 ((rd_T126 l0_3 (rd t369 x61_3)).f0).length c378_0, .int .i64 ((rd_T126 l0_3 (rd t369 x61_3)).f1), .slice A378_2 ((rd_T126 l0_3 (rd t369 x61_3)).f2).length c378_2, .int .i64 ((rd_T126 l0_3 (rd t369 x61_3)).f3), .int .i64 ((rd_T126 l0_3 (rd t369 x61_3)).f4), .int .i64 ((rd_T126 l0_3 (rd t369 x61_3)).f5), .int .i64 ((rd_T126 l0_3 (rd t369 x61_3)).f6), .int .i64 ((rd_T126 l0_3 (rd t369 x61_3)).f7), .slice A378_8 ((rd_T126 l0_3 (rd t369 x61_3)).f8).length c378_8], .agg #[.slice A373_0 ((rd_T126 l0_3 (rd t369 x13_1)).f0).length c373_0, .int .i64 ((rd_T126 l0_3 (rd t369 x13_1)).f1), .slice A373_2 ((rd_T126 l0_3 (rd t369 x13_1)).f2).length c373_2, .int .i64 ((rd_T126 l0_3 (rd t369 x13_1)).f3), .int .i64 ((rd_T126 l0_3 (rd t369 x13_1)).f4), .int .i64 ((rd_T126 l0_3 (rd t369 x13_1)).f5), .int .i64 ((rd_T126 l0_3 (rd t369 x13_1)).f6), .int .i64 ((rd_T126 l0_3 (rd t369 x13_1)).f7), .slice A373_8 ((rd_T126 l0_3 (rd t369 x13_1)).f8).length c373_8]] (by rfl) rfl rfl gl_ ?_
                    with_reducible refine (spec_Before.calls _ _ ((rd_T126 l0_3 (rd t369 x61_3)).f0) ((rd_T126 l0_3 (rd t369 x61_3)).f1) _ _ ((rd_T126 l0_3 (rd t369 x61_3)).f2) ((rd_T126 l0_3 (rd t369 x61_3)).f3) ((rd_T126 l0_3 (rd t369 x61_3)).f4) ((rd_T126 l0_3 (rd t369 x61_3)).f5) ((rd_T126 l0_3 (rd t369 x61_3)).f6) ((rd_T126 l0_3 (rd t369 x61_3)).f7) _ _ ((rd_T126 l0_3 (rd t369 x61_3)).f8) _ _ ((rd_T126 l0_3 (rd t369 x13_1)).f0) ((rd_T126 l0_3 (rd t369 x13_1)).f1) _ _ ((rd_T126 l0_3 (rd t369 x13_1)).f2) ((rd_T126 l0_3 (rd t369 x13_1)).f3) ((rd_T126 l0_3 (rd t369 x13_1)).f4) ((rd_T126 l0_3 (rd t369 x13_1)).f5) ((rd_T126 l0_3 (rd t369 x13_1)).f6) ((rd_T126 l0_3 (rd t369 x13_1)).f7) _ _ ((rd_T126 l0_3 (rd t369 x13_1)).f8) true _ ?side1 ?side2 ?side3 ?side4 ?side5 ?side6 ?side7 ?side8 ?side9 ?side10 ?side11 ?side12 A48.out).mono ?_
                    (case side1 => exact ca_ (Kd.C_below HR378_0.out HB.out))
                    (case side2 => exact HC378_0.out)
                    (case side3 => exact ca_ (Kd.C_below HR378_2.out HB.out))
                    (case side4 => exact HC378_2.out)
                    (case side5 => exact ca_ (Kd.C_below HR378_8.out HB.out))
                    (case side6 => exact HC378_8.out)
                    (case side7 => exact ca_ (Kd.C_below HR373_0.out HB.out))
                    (case side8 => exact HC373_0.out)
                    (case side9 => exact ca_ (Kd.C_below HR373_2.out HB.out))
                    (case side10 => exact HC373_2.out)
                    (case side11 => exact ca_ (Kd.C_below HR373_8.out HB.out))
                    (case side12 => exact HC373_8.out)
                    rintro e w52 ⟨rfl, hb⟩
                    refine ⟨_, rfl, ?_⟩
                    have n0_ := Aside0.mk (Kd.R_below (ra_ HO_3) hb)
                    have n1_ := Aside0.mk (Kd.R_below (ra_ HO_11) hb)
                    have n2_ := Aside0.mk (Kd.R_below (ra_ HO_59) hb)
                    have n3_ := Aside0.mk (blk_below (bk_ BK368) hb)
                    have n4_ := Aside0.mk (blk_below (g := gb374) (o := .cells #[.slice A373_0 ((rd_T126 l0_3 (rd t369 x13_1)).f0).length c373_0, .int .i64 ((rd_T126 l0_3 (rd t369 x13_1)).f1), .slice A373_2 ((rd_T126 l0_3 (rd t369 x13_1)).f2).length c373_2, .int .i64 ((rd_T126 l0_3 (rd t369 x13_1)).f3), .int .i64 ((rd_T126 l0_3 (rd t369 x13_1)).f4), .int .i64 ((rd_T126 l0_3 (rd t369 x13_1)).f5), .int .i64 ((rd_T126 l0_3 (rd t369 x13_1)).f6), .int .i64 ((rd_T126 l0_3 (rd t369 x13_1)).f7), .slice A373_8 ((rd_T126 l0_3 (rd t369 x13_1)).f8).length c373_8] 126 (0, 0)) (by (with_reducible repeat (first | refine blk_drewN ?_ _ | refine blk_drew ?_ | refine blk_alloc ?_ _)); exact BK374.out) hb)
                    have n5_ := Aside0.mk (below_step bl_ hb)
                    clear HO_3
                    clear HO_11
                    clear HO_59
                    clear BK368
                    clear BK374
                    clear HB
                    have HO_3 := n0_
                    have HO_11 := n1_
                    have HO_59 := n2_
                    have BK368 := n3_
                    have BK374 := n4_
                    have HB := n5_
                    clear n0_ n1_ n2_ n3_ n4_ n5_
                    (try clear hb)
                    (try clear hb2)
                    (try clear hk)
                    (try clear hi)
                    refine hK.out _ _ ⟨cy_ BK368 0, cy_ BK368 1, cy_ BK368 2, cy_ BK368 3, cy_ BK374 0, cy_ BK374 1, cy_ BK374 2, cy_ BK374 3, cy_ BK374 4, cy_ BK374 5, cy_ BK374 6, cy_ BK374 7, cy_ BK374 8, (kc_ HB hw378_0), (kc_ HB hw378_1), (kc_ HB hw378_2), (kc_ HB hw378_3), (kc_ HB hw378_4), (kc_ HB hw378_5), (kc_ HB hw378_6), (kc_ HB hw378_7), (kc_ HB hw378_8), (kc_ HB hw380_0), (kc_ HB hw380_1), (kc_ HB hw380_2), (kc_ HB hw380_3), (kc_ HB hw380_4), (kc_ HB hw380_5), (kc_ HB hw380_6), (kc_ HB hw380_7), (kc_ HB hw380_8)⟩ (fun hHeld => ?_)
                    clear hK K
                    refine norm_ (a' := ?_) ?_ ?_
                    rotate_left
                    ·show Act.put _ (some 71) _ = _
                     simp only [Act.put, q_]
                     rfl
                    refine pl_ HT_ 7 72 tb18_ff_9 ?_
                    refine pl_ HT_ 8 73 tb18_1ff_9 ?_
                    refine pl_ HT_ 10 75 tb18_5ff_9 ?_
                    refine pl_ HT_ 14 79 tb18_45ff_9 ?_
                    refine take_ (i := 9) (N := some 74) (v := ?_) (a' := ?_) tb18_47ff_9 rfl rfl (take_ofW HT_.out HW_.out (by kernel_rfl)) (fun _ _ _ h => h) (Or.inl ⟨by rfl, ?_⟩) hHeld ?_ ?_
                    rotate_left
                    ·rintro w' ⟨s0, s1, s2, s3, s4, s5, s6, s7, s8, s9, s10, s11, s12, s13, s14, s15, s16, s17, s18, s19, s20, s21, s22, s23, s24, s25, s26, s27, s28, s29, s30⟩
                     go_simp
                     with_reducible rfl
                    rotate_left
                    ·simp only [Act.put, q_]
                     rfl
                    refine pl_ HT_ 11 76 tb18_4fff_9 ?_
                    refine pl_ HT_ 12 77 tb18_5fff_9 ?_
                    refine take_ (i := 13) (N := some 78) (v := ?_) (a' := ?_) tb18_7fff_9 rfl rfl (take_ofW HT_.out HW_.out (by kernel_rfl)) (fun _ _ _ h => h) (Or.inl ⟨by rfl, ?_⟩) hHeld ?_ ?_
                    rotate_left
                    ·rintro w' ⟨s0, s1, s2, s3, s4, s5, s6, s7, s8, s9, s10, s11, s12, s13, s14, s15, s16, s17, s18, s19, s20, s21, s22, s23, s24, s25, s26, s27, s28, s29, s30⟩
                     go_simp
                     with_reducible rfl
                    rotate_left
                    ·simp only [Act.put, q_]
                     rfl
                    refine take_ (i := 15) (N := some 80) (v := ?_) (a' := ?_) tb18_ffff_9 rfl rfl (take_ofW HT_.out HW_.out (by kernel_rfl)) (fun _ _ _ h => h) (Or.inl ⟨by rfl, ?_⟩) hHeld ?_ ?_
                    rotate_left
                    ·rintro w' ⟨s0, s1, s2, s3, s4, s5, s6, s7, s8, s9, s10, s11, s12, s13, s14, s15, s16, s17, s18, s19, s20, s21, s22, s23, s24, s25, s26, s27, s28, s29, s30⟩
                     go_simp
                     with_reducible rfl
                    rotate_left
                    ·simp only [Act.put, q_]
                     rfl
                    refine pl_ HT_ 16 81 tb18_1ffff_9 ?_
                    refine pl_ HT_ 17 82 tb18_3ffff_9 ?_
                    refine done_ (done_of HT_.out (by kernel_rfl)) ?_
                    try go_wp2
                    go_ret
                    exact ⟨sq_, bl_⟩
                   ·rw [if_neg c50] at H
                    have c50b0 : decide (((rd_T126 l0_3 (rd t369 x13_1)).f5) ≤ ((rd_T126 l0_3 (rd t369 x61_3)).f5)) = false := decide_eq_false c50
                    clear c50
                    have H' := Aside0.mk H
                    clear H
                    have p377 : 0 ≤ (x61_3 : Int) := od_
                    have q377 : x61_3 < (t369.length : Int) := od_
                    obtain ⟨ad377, e377, hx377_0⟩ := Kd.at_int (Kd.R_reads' HO_59.out).2.2 x61_3 p377 q377
                    obtain rfl : ad372 = ad377 := (by injection e377)
                    replace p377 := eq_true p377
                    replace q377 := eq_true q377
                    try go_wp2
                    have n0_ := Aside0.mk (Kd.R_drew HO_3.out)
                    have n1_ := Aside0.mk (Kd.R_drew HO_11.out)
                    have n2_ := Aside0.mk (Kd.R_drew HO_59.out)
                    have n3_ := Aside0.mk (blk_drew BK368.out)
                    have n4_ := Aside0.mk (blk_drew BK374.out)
                    have n5_ := Aside0.mk (below_drew1 HB.out)
                    clear HO_3
                    clear HO_11
                    clear HO_59
                    clear BK368
                    clear BK374
                    clear HB
                    have HO_3 := n0_
                    have HO_11 := n1_
                    have HO_59 := n2_
                    have BK368 := n3_
                    have BK374 := n4_
                    have HB := n5_
                    clear n0_ n1_ n2_ n3_ n4_ n5_
                    have p378 : 0 ≤ ((rd t369 x61_3) : Int) := od_
                    have q378 : (rd t369 x61_3) < (l0_3.length : Int) := od_
                    obtain ⟨ad378, A378_0, c378_0, A378_2, c378_2, A378_8, c378_8, e378, hx378_0, hx378_1, hx378_2, hx378_3, hx378_4, hx378_5, hx378_6, hx378_7, hx378_8, hl378_0, hi378_0, hl378_2, hi378_2, hl378_8, hi378_8⟩ := at_T126 HR0_3.out (rd t369 x61_3) p378 q378
                    have hw378_8 := hx378_8
                    have hw378_7 := hx378_7
                    have hw378_6 := hx378_6
                    have hw378_5 := hx378_5
                    have hw378_4 := hx378_4
                    have hw378_3 := hx378_3
                    have hw378_2 := hx378_2
                    have hw378_1 := hx378_1
                    have hw378_0 := hx378_0
                    obtain rfl : ad373 = ad378 := (by injection e378)
                    replace hx378_0 := kc_ HB hx378_0
                    replace hx378_1 := kc_ HB hx378_1
                    replace hx378_2 := kc_ HB hx378_2
                    replace hx378_3 := kc_ HB hx378_3
                    replace hx378_4 := kc_ HB hx378_4
                    replace hx378_5 := kc_ HB hx378_5
                    replace hx378_6 := kc_ HB hx378_6
                    replace hx378_7 := kc_ HB hx378_7
                    replace hx378_8 := kc_ HB hx378_8
                    have HR378_0 := Aside0.mk hi378_0
                    have HC378_0 := Aside0.mk hl378_0
                    clear hi378_0 hl378_0
                    have HR378_2 := Aside0.mk hi378_2
                    have HC378_2 := Aside0.mk hl378_2
                    clear hi378_2 hl378_2
                    have HR378_8 := Aside0.mk hi378_8
                    have HC378_8 := Aside0.mk hl378_8
                    clear hi378_8 hl378_8
                    replace p378 := eq_true p378
                    replace q378 := eq_true q378
                    have p380 : 0 ≤ ((rd t369 x61_3) : Int) := od_
                    have q380 : (rd t369 x61_3) < (l0_3.length : Int) := od_
                    obtain ⟨ad380, A380_0, c380_0, A380_2, c380_2, A380_8, c380_8, e380, hx380_0, hx380_1, hx380_2, hx380_3, hx380_4, hx380_5, hx380_6, hx380_7, hx380_8, hl380_0, hi380_0, hl380_2, hi380_2, hl380_8, hi380_8⟩ := at_T126 HR0_3.out (rd t369 x61_3) p380 q380
                    have hw380_8 := hx380_8
                    have hw380_7 := hx380_7
                    have hw380_6 := hx380_6
                    have hw380_5 := hx380_5
                    have hw380_4 := hx380_4
                    have hw380_3 := hx380_3
                    have hw380_2 := hx380_2
                    have hw380_1 := hx380_1
                    have hw380_0 := hx380_0
                    obtain rfl : ad373 = ad380 := (by injection e380)
                    replace hx380_0 := kc_ HB hx380_0
                    replace hx380_1 := kc_ HB hx380_1
                    replace hx380_2 := kc_ HB hx380_2
                    replace hx380_3 := kc_ HB hx380_3
                    replace hx380_4 := kc_ HB hx380_4
                    replace hx380_5 := kc_ HB hx380_5
                    replace hx380_6 := kc_ HB hx380_6
                    replace hx380_7 := kc_ HB hx380_7
                    replace hx380_8 := kc_ HB hx380_8
                    have HR380_0 := Aside0.mk hi380_0
                    have HC380_0 := Aside0.mk hl380_0
                    clear hi380_0 hl380_0
                    have HR380_2 := Aside0.mk hi380_2
                    have HC380_2 := Aside0.mk hl380_2
                    clear hi380_2 hl380_2
                    have HR380_8 := Aside0.mk hi380_8
                    have HC380_8 := Aside0.mk hl380_8
                    clear hi380_8 hl380_8
                    replace p380 := eq_true p380
                    replace q380 := eq_true q380
                    refine start_ (n := 18) (S := fun w' => w'.cell? ⟨gb368, 0, none⟩ = some (.slice A0_0 l0_0.length c0_0) ∧ w'.cell? ⟨gb368, 1, none⟩ = some (.int .i64 a0_1) ∧ w'.cell? ⟨gb368, 2, none⟩ = some (.int .i64 a0_2) ∧ w'.cell? ⟨gb368, 3, none⟩ = some (.slice (some ad373) l0_3.length c0_3) ∧ w'.cell? ⟨gb374, 0, none⟩ = some (.slice A373_0 ((rd_T126 l0_3 (rd t369 x13_1)).f0).length c373_0) ∧ w'.cell? ⟨gb374, 1, none⟩ = some (.int .i64 ((rd_T126 l0_3 (rd t369 x13_1)).f1)) ∧ w'.cell? ⟨gb374, 2, none⟩ = some (.slice A373_2 ((rd_T126 l0_3 (rd t369 x13_1)).f2).length c373_2) ∧ w'.cell? ⟨gb374, 3, none⟩ = some (.int .i64 ((rd_T126 l0_3 (rd t369 x13_1)).f3)) ∧ w'.cell? ⟨gb374, 4, none⟩ = some (.int .i64 ((rd_T126 l0_3 (rd t369 x13_1)).f4)) ∧ w'.cell? ⟨gb374, 5, none⟩ = some (.int .i64 ((rd_T126 l0_3 (rd t369 x13_1)).f5)) ∧ w'.cell? ⟨gb374, 6, none⟩ = some (.int .i64 ((rd_T126 l0_3 (rd t369 x13_1)).f6)) ∧ w'.cell? ⟨gb374, 7, none⟩ = some (.int .i64 ((rd_T126 l0_3 (rd t369 x13_1)).f7)) ∧ w'.cell? ⟨gb374, 8, none⟩ = some (.slice A373_8 ((rd_T126 l0_3 (rd t369 x13_1)).f8).length c373_8) ∧ w'.cell? (ad373.add (((rd t369 x61_3)).toNat * 9)) = some (.slice A378_0 ((rd_T126 l0_3 (rd t369 x61_3)).f0).length c378_0) ∧ w'.cell? ⟨(ad373.add (((rd t369 x61_3)).toNat * 9)).block, (ad373.add (((rd t369 x61_3)).toNat * 9)).off + 1, none⟩ = some (.int .i64 ((rd_T126 l0_3 (rd t369 x61_3)).f1)) ∧ w'.cell? ⟨(ad373.add (((rd t369 x61_3)).toNat * 9)).block, (ad373.add (((rd t369 x61_3)).toNat * 9)).off + 2, none⟩ = some (.slice A378_2 ((rd_T126 l0_3 (rd t369 x61_3)).f2).length c378_2) ∧ w'.cell? ⟨(ad373.add (((rd t369 x61_3)).toNat * 9)).block, (ad373.add (((rd t369 x61_3)).toNat * 9)).off + 3, none⟩ = some (.int .i64 ((rd_T126 l0_3 (rd t369 x61_3)).f3)) ∧ w'.cell? ⟨(ad373.add (((rd t369 x61_3)).toNat * 9)).block, (ad373.add (((rd t369 x61_3)).toNat * 9)).off + 4, none⟩ = some (.int .i64 ((rd_T126 l0_3 (rd t369 x61_3)).f4)) ∧ w'.cell? ⟨(ad373.add (((rd t369 x61_3)).toNat * 9)).block, (ad373.add (((rd t369 x61_3)).toNat * 9)).off + 5, none⟩ = some (.int .i64 ((rd_T126 l0_3 (rd t369 x61_3)).f5)) ∧ w'.cell? ⟨(ad373.add (((rd t369 x61_3)).toNat * 9)).block, (ad373.add (((rd t369 x61_3)).toNat * 9)).off + 6, none⟩ = some (.int .i64 ((rd_T126 l0_3 (rd t369 x61_3)).f6)) ∧ w'.cell? ⟨(ad373.add (((rd t369 x61_3)).toNat * 9)).block, (ad373.add (((rd t369 x61_3)).toNat * 9)).off + 7, none⟩ = some (.int .i64 ((rd_T126 l0_3 (rd t369 x61_3)).f7)) ∧ w'.cell? ⟨(ad373.add (((rd t369 x61_3)).toNat * 9)).block, (ad373.add (((rd t369 x61_3)).toNat * 9)).off + 8, none⟩ = some (.slice A378_8 ((rd_T126 l0_3 (rd t369 x61_3)).f8).length c378_8) ∧ w'.cell? (ad373.add (((rd t369 x61_3)).toNat * 9)) = some (.slice A380_0 ((rd_T126 l0_3 (rd t369 x61_3)).f0).length c380_0) ∧ w'.cell? ⟨(ad373.add (((rd t369 x61_3)).toNat * 9)).block, (ad373.add (((rd t369 x61_3)).toNat * 9)).off + 1, none⟩ = some (.int .i64 ((rd_T126 l0_3 (rd t369 x61_3)).f1)) ∧ w'.cell? ⟨(ad373.add (((rd t369 x61_3)).toNat * 9)).block, (ad373.add (((rd t369 x61_3)).toNat * 9)).off + 2, none⟩ = some (.slice A380_2 ((rd_T126 l0_3 (rd t369 x61_3)).f2).length c380_2) ∧ w'.cell? ⟨(ad373.add (((rd t369 x61_3)).toNat * 9)).block, (ad373.add (((rd t369 x61_3)).toNat * 9)).off + 3, none⟩ = some (.int .i64 ((rd_T126 l0_3 (rd t369 x61_3)).f3)) ∧ w'.cell? ⟨(ad373.add (((rd t369 x61_3)).toNat * 9)).block, (ad373.add (((rd t369 x61_3)).toNat * 9)).off + 4, none⟩ = some (.int .i64 ((rd_T126 l0_3 (rd t369 x61_3)).f4)) ∧ w'.cell? ⟨(ad373.add (((rd t369 x61_3)).toNat * 9)).block, (ad373.add (((rd t369 x61_3)).toNat * 9)).off + 5, none⟩ = some (.int .i64 ((rd_T126 l0_3 (rd t369 x61_3)).f5)) ∧ w'.cell? ⟨(ad373.add (((rd t369 x61_3)).toNat * 9)).block, (ad373.add (((rd t369 x61_3)).toNat * 9)).off + 6, none⟩ = some (.int .i64 ((rd_T126 l0_3 (rd t369 x61_3)).f6)) ∧ w'.cell? ⟨(ad373.add (((rd t369 x61_3)).toNat * 9)).block, (ad373.add (((rd t369 x61_3)).toNat * 9)).off + 7, none⟩ = some (.int .i64 ((rd_T126 l0_3 (rd t369 x61_3)).f7)) ∧ w'.cell? ⟨(ad373.add (((rd t369 x61_3)).toNat * 9)).block, (ad373.add (((rd t369 x61_3)).toNat * 9)).off + 8, none⟩ = some (.slice A380_8 ((rd_T126 l0_3 (rd t369 x61_3)).f8).length c380_8)) (ds := []) tb18_0_9 (by kernel_rfl) rfl rfl ⟨cy_ BK368 0, cy_ BK368 1, cy_ BK368 2, cy_ BK368 3, cy_ BK374 0, cy_ BK374 1, cy_ BK374 2, cy_ BK374 3, cy_ BK374 4, cy_ BK374 5, cy_ BK374 6, cy_ BK374 7, cy_ BK374 8, (kc_ HB hw378_0), (kc_ HB hw378_1), (kc_ HB hw378_2), (kc_ HB hw378_3), (kc_ HB hw378_4), (kc_ HB hw378_5), (kc_ HB hw378_6), (kc_ HB hw378_7), (kc_ HB hw378_8), (kc_ HB hw380_0), (kc_ HB hw380_1), (kc_ HB hw380_2), (kc_ HB hw380_3), (kc_ HB hw380_4), (kc_ HB hw380_5), (kc_ HB hw380_6), (kc_ HB hw380_7), (kc_ HB hw380_8)⟩ (fun hHeld => ?_); refine with_tabW spec_InOrder.tab11 spec_InOrder.bits11 (fun HT_ HW_ => ?_)
                    generalize wr.drew = w53 at HO_3 HO_11 HO_59 BK368 BK374 HB HR378_0 HR378_2 HR378_8 HR380_0 HR380_2 HR380_8 hx378_0 hx378_1 hx378_2 hx378_3 hx378_4 hx378_5 hx378_6 hx378_7 hx378_8 hx380_0 hx380_1 hx380_2 hx380_3 hx380_4 hx380_5 hx380_6 hx380_7 hx380_8 hHeld ⊢
                    refine pl_ HT_ 0 65 tb18_1_9 ?_
                    refine pl_ HT_ 2 67 tb18_5_9 ?_
                    refine take_ (i := 1) (N := some 66) (v := ?_) (a' := ?_) tb18_7_9 rfl rfl (take_ofW HT_.out HW_.out (by kernel_rfl)) (fun _ _ _ h => h) (Or.inl ⟨by rfl, ?_⟩) hHeld ?_ ?_
                    rotate_left
                    ·rintro w' ⟨s0, s1, s2, s3, s4, s5, s6, s7, s8, s9, s10, s11, s12, s13, s14, s15, s16, s17, s18, s19, s20, s21, s22, s23, s24, s25, s26, s27, s28, s29, s30⟩
                     go_simp
                     with_reducible rfl
                    rotate_left
                    ·simp only [Act.put, q_]
                     rfl
                    refine pl_ HT_ 3 68 tb18_f_9 ?_
                    refine take_ (i := 4) (N := some 69) (v := ?_) (a' := ?_) tb18_1f_9 rfl rfl (take_ofW HT_.out HW_.out (by kernel_rfl)) (fun _ _ _ h => h) (Or.inl ⟨by rfl, ?_⟩) hHeld ?_ ?_
                    rotate_left
                    ·rintro w' ⟨s0, s1, s2, s3, s4, s5, s6, s7, s8, s9, s10, s11, s12, s13, s14, s15, s16, s17, s18, s19, s20, s21, s22, s23, s24, s25, s26, s27, s28, s29, s30⟩
                     go_simp
                     with_reducible rfl
                    rotate_left
                    ·simp only [Act.put, q_]
                     rfl
                    refine take_ (i := 5) (N := some 70) (v := ?_) (a' := ?_) tb18_3f_9 rfl rfl (take_ofW HT_.out HW_.out (by kernel_rfl)) (fun _ _ _ h => h) (Or.inl ⟨by rfl, ?_⟩) hHeld ?_ ?_
                    rotate_left
                    ·rintro w' ⟨s0, s1, s2, s3, s4, s5, s6, s7, s8, s9, s10, s11, s12, s13, s14, s15, s16, s17, s18, s19, s20, s21, s22, s23, s24, s25, s26, s27, s28, s29, s30⟩
                     go_simp
                     with_reducible rfl
                    rotate_left
                    ·simp only [Act.put, q_]
                     rfl
                    refine one_ (i := 6) (N := some 71) tb18_7f_9 rfl rfl (one_of HT_.out (by kernel_rfl)) (by decide) (fun K hK => ?_)
                    refine goes_ Try.func132 (by kernel_rfl) rfl #[.agg #[.slice A378_0 ((rd_T126 l0_3 (rd t369 x61_3)).f0).length c378_0, .int .i64 ((rd_T126 l0_3 (rd t369 x61_3)).f1), .slice A378_2 ((rd_T126 l0_3 (rd t369 x61_3)).f2).length c378_2, .int .i64 ((rd_T126 l0_3 (rd t369 x61_3)).f3), .int .i64 ((rd_T126 l0_3 (rd t369 x61_3)).f4), .int .i64 ((rd_T126 l0_3 (rd t369 x61_3)).f5), .int .i64 ((rd_T126 l0_3 (rd t369 x61_3)).f6), .int .i64 ((rd_T126 l0_3 (rd t369 x61_3)).f7), .slice A378_8 ((rd_T126 l0_3 (rd t369 x61_3)).f8).length c378_8], .agg #[.slice A373_0 ((rd_T126 l0_3 (rd t369 x13_1)).f0).length c373_0, .int .i64 ((rd_T126 l0_3 (rd t369 x13_1)).f1), .slice A373_2 ((rd_T126 l0_3 (rd t369 x13_1)).f2).length c373_2, .int .i64 ((rd_T126 l0_3 (rd t369 x13_1)).f3), .int .i64 ((rd_T126 l0_3 (rd t369 x13_1)).f4), .int .i64 ((rd_T126 l0_3 (rd t369 x13_1)).f5), .int .i64 ((rd_T126 l0_3 (rd t369 x13_1)).f6), .int .i64 ((rd_T126 l0_3 (rd t369 x13_1)).f7), .slice A373_8 ((rd_T126 l0_3 (rd t369 x13_1)).f8).length c373_8]] (by rfl) rfl rfl gl_ ?_
                    with_reducible refine (spec_Before.calls _ _ ((rd_T126 l0_3 (rd t369 x61_3)).f0) ((rd_T126 l0_3 (rd t369 x61_3)).f1) _ _ ((rd_T126 l0_3 (rd t369 x61_3)).f2) ((rd_T126 l0_3 (rd t369 x61_3)).f3) ((rd_T126 l0_3 (rd t369 x61_3)).f4) ((rd_T126 l0_3 (rd t369 x61_3)).f5) ((rd_T126 l0_3 (rd t369 x61_3)).f6) ((rd_T126 l0_3 (rd t369 x61_3)).f7) _ _ ((rd_T126 l0_3 (rd t369 x61_3)).f8) _ _ ((rd_T126 l0_3 (rd t369 x13_1)).f0) ((rd_T126 l0_3 (rd t369 x13_1)).f1) _ _ ((rd_T126 l0_3 (rd t369 x13_1)).f2) ((rd_T126 l0_3 (rd t369 x13_1)).f3) ((rd_T126 l0_3 (rd t369 x13_1)).f4) ((rd_T126 l0_3 (rd t369 x13_1)).f5) ((rd_T126 l0_3 (rd t369 x13_1)).f6) ((rd_T126 l0_3 (rd t369 x13_1)).f7) _ _ ((rd_T126 l0_3 (rd t369 x13_1)).f8) true _ ?side1 ?side2 ?side3 ?side4 ?side5 ?side6 ?side7 ?side8 ?side9 ?side10 ?side11 ?side12 A48.out).mono ?_
                    (case side1 => exact ca_ (Kd.C_below HR378_0.out HB.out))
                    (case side2 => exact HC378_0.out)
                    (case side3 => exact ca_ (Kd.C_below HR378_2.out HB.out))
                    (case side4 => exact HC378_2.out)
                    (case side5 => exact ca_ (Kd.C_below HR378_8.out HB.out))
                    (case side6 => exact HC378_8.out)
                    (case side7 => exact ca_ (Kd.C_below HR373_0.out HB.out))
                    (case side8 => exact HC373_0.out)
                    (case side9 => exact ca_ (Kd.C_below HR373_2.out HB.out))
                    (case side10 => exact HC373_2.out)
                    (case side11 => exact ca_ (Kd.C_below HR373_8.out HB.out))
                    (case side12 => exact HC373_8.out)
                    rintro e w54 ⟨rfl, hb⟩
                    refine ⟨_, rfl, ?_⟩
                    have n0_ := Aside0.mk (Kd.R_below (ra_ HO_3) hb)
                    have n1_ := Aside0.mk (Kd.R_below (ra_ HO_11) hb)
                    have n2_ := Aside0.mk (Kd.R_below (ra_ HO_59) hb)
                    have n3_ := Aside0.mk (blk_below (bk_ BK368) hb)
                    have n4_ := Aside0.mk (blk_below (g := gb374) (o := .cells #[.slice A373_0 ((rd_T126 l0_3 (rd t369 x13_1)).f0).length c373_0, .int .i64 ((rd_T126 l0_3 (rd t369 x13_1)).f1), .slice A373_2 ((rd_T126 l0_3 (rd t369 x13_1)).f2).length c373_2, .int .i64 ((rd_T126 l0_3 (rd t369 x13_1)).f3), .int .i64 ((rd_T126 l0_3 (rd t369 x13_1)).f4), .int .i64 ((rd_T126 l0_3 (rd t369 x13_1)).f5), .int .i64 ((rd_T126 l0_3 (rd t369 x13_1)).f6), .int .i64 ((rd_T126 l0_3 (rd t369 x13_1)).f7), .slice A373_8 ((rd_T126 l0_3 (rd t369 x13_1)).f8).length c373_8] 126 (0, 0)) (by (with_reducible repeat (first | refine blk_drewN ?_ _ | refine blk_drew ?_ | refine blk_alloc ?_ _)); exact BK374.out) hb)
                    have n5_ := Aside0.mk (below_step bl_ hb)
                    clear HO_3
                    clear HO_11
                    clear HO_59
                    clear BK368
                    clear BK374
                    clear HB
                    have HO_3 := n0_
                    have HO_11 := n1_
                    have HO_59 := n2_
                    have BK368 := n3_
                    have BK374 := n4_
                    have HB := n5_
                    clear n0_ n1_ n2_ n3_ n4_ n5_
                    (try clear hb)
                    (try clear hb2)
                    (try clear hk)
                    (try clear hi)
                    refine hK.out _ _ ⟨cy_ BK368 0, cy_ BK368 1, cy_ BK368 2, cy_ BK368 3, cy_ BK374 0, cy_ BK374 1, cy_ BK374 2, cy_ BK374 3, cy_ BK374 4, cy_ BK374 5, cy_ BK374 6, cy_ BK374 7, cy_ BK374 8, (kc_ HB hw378_0), (kc_ HB hw378_1), (kc_ HB hw378_2), (kc_ HB hw378_3), (kc_ HB hw378_4), (kc_ HB hw378_5), (kc_ HB hw378_6), (kc_ HB hw378_7), (kc_ HB hw378_8), (kc_ HB hw380_0), (kc_ HB hw380_1), (kc_ HB hw380_2), (kc_ HB hw380_3), (kc_ HB hw380_4), (kc_ HB hw380_5), (kc_ HB hw380_6), (kc_ HB hw380_7), (kc_ HB hw380_8)⟩ (fun hHeld => ?_)
                    clear hK K
                    refine norm_ (a' := ?_) ?_ ?_
                    rotate_left
                    ·show Act.put _ (some 71) _ = _
                     simp only [Act.put, q_]
                     rfl
                    refine pl_ HT_ 7 72 tb18_ff_9 ?_
                    refine pl_ HT_ 8 73 tb18_1ff_9 ?_
                    refine pl_ HT_ 10 75 tb18_5ff_9 ?_
                    refine pl_ HT_ 14 79 tb18_45ff_9 ?_
                    refine take_ (i := 9) (N := some 74) (v := ?_) (a' := ?_) tb18_47ff_9 rfl rfl (take_ofW HT_.out HW_.out (by kernel_rfl)) (fun _ _ _ h => h) (Or.inl ⟨by rfl, ?_⟩) hHeld ?_ ?_
                    rotate_left
                    ·rintro w' ⟨s0, s1, s2, s3, s4, s5, s6, s7, s8, s9, s10, s11, s12, s13, s14, s15, s16, s17, s18, s19, s20, s21, s22, s23, s24, s25, s26, s27, s28, s29, s30⟩
                     go_simp
                     with_reducible rfl
                    rotate_left
                    ·simp only [Act.put, q_]
                     rfl
                    refine pl_ HT_ 11 76 tb18_4fff_9 ?_
                    refine pl_ HT_ 12 77 tb18_5fff_9 ?_
                    refine take_ (i := 13) (N := some 78) (v := ?_) (a' := ?_) tb18_7fff_9 rfl rfl (take_ofW HT_.out HW_.out (by kernel_rfl)) (fun _ _ _ h => h) (Or.inl ⟨by rfl, ?_⟩) hHeld ?_ ?_
                    rotate_left
                    ·rintro w' ⟨s0, s1, s2, s3, s4, s5, s6, s7, s8, s9, s10, s11, s12, s13, s14, s15, s16, s17, s18, s19, s20, s21, s22, s23, s24, s25, s26, s27, s28, s29, s30⟩
                     go_simp
                     with_reducible rfl
                    rotate_left
                    ·simp only [Act.put, q_]
                     rfl
                    refine take_ (i := 15) (N := some 80) (v := ?_) (a' := ?_) tb18_ffff_9 rfl rfl (take_ofW HT_.out HW_.out (by kernel_rfl)) (fun _ _ _ h => h) (Or.inl ⟨by rfl, ?_⟩) hHeld ?_ ?_
                    rotate_left
                    ·rintro w' ⟨s0, s1, s2, s3, s4, s5, s6, s7, s8, s9, s10, s11, s12, s13, s14, s15, s16, s17, s18, s19, s20, s21, s22, s23, s24, s25, s26, s27, s28, s29, s30⟩
                     go_simp
                     with_reducible rfl
                    rotate_left
                    ·simp only [Act.put, q_]
                     rfl
                    refine pl_ HT_ 16 81 tb18_1ffff_9 ?_
                    refine pl_ HT_ 17 82 tb18_3ffff_9 ?_
                    refine done_ (done_of HT_.out (by kernel_rfl)) ?_
                    try go_wp2
                    go_roundg k3
                    case measure => have := HK1.out; have := HJ11.out; have := HK3.out; omega
                    case rel => exact ⟨(wrap64 (x61_3 + 1)), sp_, H', ⟨by have := HK1.out; have := HJ11.out; have := HK3.out; omega⟩, ⟨ra_ HO_3⟩, ⟨ra_ HO_11⟩, ⟨ra_ HO_59⟩, ⟨by (with_reducible repeat (first | refine blk_drewN ?_ _ | refine blk_drew ?_ | refine blk_alloc ?_ _)); exact BK368.out⟩, ⟨by (with_reducible repeat (first | refine blk_drewN ?_ _ | refine blk_drew ?_ | refine blk_alloc ?_ _)); exact BK374.out⟩, ⟨bl_⟩⟩
                  ·replace c49 := Bool.eq_false_iff.mpr c49
                   subst c49
                   replace H := in_ H
                   have H' := Aside0.mk H
                   clear H
                   have p377 : 0 ≤ (x61_3 : Int) := od_
                   have q377 : x61_3 < (t369.length : Int) := od_
                   obtain ⟨ad377, e377, hx377_0⟩ := Kd.at_int (Kd.R_reads' HO_59.out).2.2 x61_3 p377 q377
                   obtain rfl : ad372 = ad377 := (by injection e377)
                   replace p377 := eq_true p377
                   replace q377 := eq_true q377
                   try go_wp2
                   have n0_ := Aside0.mk (Kd.R_drew HO_3.out)
                   have n1_ := Aside0.mk (Kd.R_drew HO_11.out)
                   have n2_ := Aside0.mk (Kd.R_drew HO_59.out)
                   have n3_ := Aside0.mk (blk_drew BK368.out)
                   have n4_ := Aside0.mk (blk_drew BK374.out)
                   have n5_ := Aside0.mk (below_drew1 HB.out)
                   clear HO_3
                   clear HO_11
                   clear HO_59
                   clear BK368
                   clear BK374
                   clear HB
                   have HO_3 := n0_
                   have HO_11 := n1_
                   have HO_59 := n2_
                   have BK368 := n3_
                   have BK374 := n4_
                   have HB := n5_
                   clear n0_ n1_ n2_ n3_ n4_ n5_
                   have p378 : 0 ≤ ((rd t369 x61_3) : Int) := od_
                   have q378 : (rd t369 x61_3) < (l0_3.length : Int) := od_
                   obtain ⟨ad378, A378_0, c378_0, A378_2, c378_2, A378_8, c378_8, e378, hx378_0, hx378_1, hx378_2, hx378_3, hx378_4, hx378_5, hx378_6, hx378_7, hx378_8, hl378_0, hi378_0, hl378_2, hi378_2, hl378_8, hi378_8⟩ := at_T126 HR0_3.out (rd t369 x61_3) p378 q378
                   have hw378_8 := hx378_8
                   have hw378_7 := hx378_7
                   have hw378_6 := hx378_6
                   have hw378_5 := hx378_5
                   have hw378_4 := hx378_4
                   have hw378_3 := hx378_3
                   have hw378_2 := hx378_2
                   have hw378_1 := hx378_1
                   have hw378_0 := hx378_0
                   obtain rfl : ad373 = ad378 := (by injection e378)
                   replace hx378_0 := kc_ HB hx378_0
                   replace hx378_1 := kc_ HB hx378_1
                   replace hx378_2 := kc_ HB hx378_2
                   replace hx378_3 := kc_ HB hx378_3
                   replace hx378_4 := kc_ HB hx378_4
                   replace hx378_5 := kc_ HB hx378_5
                   replace hx378_6 := kc_ HB hx378_6
                   replace hx378_7 := kc_ HB hx378_7
                   replace hx378_8 := kc_ HB hx378_8
                   have HR378_0 := Aside0.mk hi378_0
                   have HC378_0 := Aside0.mk hl378_0
                   clear hi378_0 hl378_0
                   have HR378_2 := Aside0.mk hi378_2
                   have HC378_2 := Aside0.mk hl378_2
                   clear hi378_2 hl378_2
                   have HR378_8 := Aside0.mk hi378_8
                   have HC378_8 := Aside0.mk hl378_8
                   clear hi378_8 hl378_8
                   replace p378 := eq_true p378
                   replace q378 := eq_true q378
                   refine start_ (n := 18) (S := fun w' => w'.cell? ⟨gb368, 0, none⟩ = some (.slice A0_0 l0_0.length c0_0) ∧ w'.cell? ⟨gb368, 1, none⟩ = some (.int .i64 a0_1) ∧ w'.cell? ⟨gb368, 2, none⟩ = some (.int .i64 a0_2) ∧ w'.cell? ⟨gb368, 3, none⟩ = some (.slice (some ad373) l0_3.length c0_3) ∧ w'.cell? ⟨gb374, 0, none⟩ = some (.slice A373_0 ((rd_T126 l0_3 (rd t369 x13_1)).f0).length c373_0) ∧ w'.cell? ⟨gb374, 1, none⟩ = some (.int .i64 ((rd_T126 l0_3 (rd t369 x13_1)).f1)) ∧ w'.cell? ⟨gb374, 2, none⟩ = some (.slice A373_2 ((rd_T126 l0_3 (rd t369 x13_1)).f2).length c373_2) ∧ w'.cell? ⟨gb374, 3, none⟩ = some (.int .i64 ((rd_T126 l0_3 (rd t369 x13_1)).f3)) ∧ w'.cell? ⟨gb374, 4, none⟩ = some (.int .i64 ((rd_T126 l0_3 (rd t369 x13_1)).f4)) ∧ w'.cell? ⟨gb374, 5, none⟩ = some (.int .i64 ((rd_T126 l0_3 (rd t369 x13_1)).f5)) ∧ w'.cell? ⟨gb374, 6, none⟩ = some (.int .i64 ((rd_T126 l0_3 (rd t369 x13_1)).f6)) ∧ w'.cell? ⟨gb374, 7, none⟩ = some (.int .i64 ((rd_T126 l0_3 (rd t369 x13_1)).f7)) ∧ w'.cell? ⟨gb374, 8, none⟩ = some (.slice A373_8 ((rd_T126 l0_3 (rd t369 x13_1)).f8).length c373_8) ∧ w'.cell? (ad373.add (((rd t369 x61_3)).toNat * 9)) = some (.slice A378_0 ((rd_T126 l0_3 (rd t369 x61_3)).f0).length c378_0) ∧ w'.cell? ⟨(ad373.add (((rd t369 x61_3)).toNat * 9)).block, (ad373.add (((rd t369 x61_3)).toNat * 9)).off + 1, none⟩ = some (.int .i64 ((rd_T126 l0_3 (rd t369 x61_3)).f1)) ∧ w'.cell? ⟨(ad373.add (((rd t369 x61_3)).toNat * 9)).block, (ad373.add (((rd t369 x61_3)).toNat * 9)).off + 2, none⟩ = some (.slice A378_2 ((rd_T126 l0_3 (rd t369 x61_3)).f2).length c378_2) ∧ w'.cell? ⟨(ad373.add (((rd t369 x61_3)).toNat * 9)).block, (ad373.add (((rd t369 x61_3)).toNat * 9)).off + 3, none⟩ = some (.int .i64 ((rd_T126 l0_3 (rd t369 x61_3)).f3)) ∧ w'.cell? ⟨(ad373.add (((rd t369 x61_3)).toNat * 9)).block, (ad373.add (((rd t369 x61_3)).toNat * 9)).off + 4, none⟩ = some (.int .i64 ((rd_T126 l0_3 (rd t369 x61_3)).f4)) ∧ w'.cell? ⟨(ad373.add (((rd t369 x61_3)).toNat * 9)).block, (ad373.add (((rd t369 x61_3)).toNat * 9)).off + 5, none⟩ = some (.int .i64 ((rd_T126 l0_3 (rd t369 x61_3)).f5)) ∧ w'.cell? ⟨(ad373.add (((rd t369 x61_3)).toNat * 9)).block, (ad373.add (((rd t369 x61_3)).toNat * 9)).off + 6, none⟩ = some (.int .i64 ((rd_T126 l0_3 (rd t369 x61_3)).f6)) ∧ w'.cell? ⟨(ad373.add (((rd t369 x61_3)).toNat * 9)).block, (ad373.add (((rd t369 x61_3)).toNat * 9)).off + 7, none⟩ = some (.int .i64 ((rd_T126 l0_3 (rd t369 x61_3)).f7)) ∧ w'.cell? ⟨(ad373.add (((rd t369 x61_3)).toNat * 9)).block, (ad373.add (((rd t369 x61_3)).toNat * 9)).off + 8, none⟩ = some (.slice A378_8 ((rd_T126 l0_3 (rd t369 x61_3)).f8).length c378_8)) (ds := []) tb18_0_9 (by kernel_rfl) rfl rfl ⟨cy_ BK368 0, cy_ BK368 1, cy_ BK368 2, cy_ BK368 3, cy_ BK374 0, cy_ BK374 1, cy_ BK374 2, cy_ BK374 3, cy_ BK374 4, cy_ BK374 5, cy_ BK374 6, cy_ BK374 7, cy_ BK374 8, (kc_ HB hw378_0), (kc_ HB hw378_1), (kc_ HB hw378_2), (kc_ HB hw378_3), (kc_ HB hw378_4), (kc_ HB hw378_5), (kc_ HB hw378_6), (kc_ HB hw378_7), (kc_ HB hw378_8)⟩ (fun hHeld => ?_); refine with_tabW spec_InOrder.tab11 spec_InOrder.bits11 (fun HT_ HW_ => ?_)
                   generalize wr.drew = w55 at HO_3 HO_11 HO_59 BK368 BK374 HB HR378_0 HR378_2 HR378_8 hx378_0 hx378_1 hx378_2 hx378_3 hx378_4 hx378_5 hx378_6 hx378_7 hx378_8 hHeld ⊢
                   refine pl_ HT_ 0 65 tb18_1_9 ?_
                   refine pl_ HT_ 2 67 tb18_5_9 ?_
                   refine take_ (i := 1) (N := some 66) (v := ?_) (a' := ?_) tb18_7_9 rfl rfl (take_ofW HT_.out HW_.out (by kernel_rfl)) (fun _ _ _ h => h) (Or.inl ⟨by rfl, ?_⟩) hHeld ?_ ?_
                   rotate_left
                   ·rintro w' ⟨s0, s1, s2, s3, s4, s5, s6, s7, s8, s9, s10, s11, s12, s13, s14, s15, s16, s17, s18, s19, s20, s21⟩
                    go_simp
                    with_reducible rfl
                   rotate_left
                   ·simp only [Act.put, q_]
                    rfl
                   refine pl_ HT_ 3 68 tb18_f_9 ?_
                   refine take_ (i := 4) (N := some 69) (v := ?_) (a' := ?_) tb18_1f_9 rfl rfl (take_ofW HT_.out HW_.out (by kernel_rfl)) (fun _ _ _ h => h) (Or.inl ⟨by rfl, ?_⟩) hHeld ?_ ?_
                   rotate_left
                   ·rintro w' ⟨s0, s1, s2, s3, s4, s5, s6, s7, s8, s9, s10, s11, s12, s13, s14, s15, s16, s17, s18, s19, s20, s21⟩
                    go_simp
                    with_reducible rfl
                   rotate_left
                   ·simp only [Act.put, q_]
                    rfl
                   refine take_ (i := 5) (N := some 70) (v := ?_) (a' := ?_) tb18_3f_9 rfl rfl (take_ofW HT_.out HW_.out (by kernel_rfl)) (fun _ _ _ h => h) (Or.inl ⟨by rfl, ?_⟩) hHeld ?_ ?_
                   rotate_left
                   ·rintro w' ⟨s0, s1, s2, s3, s4, s5, s6, s7, s8, s9, s10, s11, s12, s13, s14, s15, s16, s17, s18, s19, s20, s21⟩
                    go_simp
                    with_reducible rfl
                   rotate_left
                   ·simp only [Act.put, q_]
                    rfl
                   refine one_ (i := 6) (N := some 71) tb18_7f_9 rfl rfl (one_of HT_.out (by kernel_rfl)) (by decide) (fun K hK => ?_)
                   refine goes_ Try.func132 (by kernel_rfl) rfl #[.agg #[.slice A378_0 ((rd_T126 l0_3 (rd t369 x61_3)).f0).length c378_0, .int .i64 ((rd_T126 l0_3 (rd t369 x61_3)).f1), .slice A378_2 ((rd_T126 l0_3 (rd t369 x61_3)).f2).length c378_2, .int .i64 ((rd_T126 l0_3 (rd t369 x61_3)).f3), .int .i64 ((rd_T126 l0_3 (rd t369 x61_3)).f4), .int .i64 ((rd_T126 l0_3 (rd t369 x61_3)).f5), .int .i64 ((rd_T126 l0_3 (rd t369 x61_3)).f6), .int .i64 ((rd_T126 l0_3 (rd t369 x61_3)).f7), .slice A378_8 ((rd_T126 l0_3 (rd t369 x61_3)).f8).length c378_8], .agg #[.slice A373_0 ((rd_T126 l0_3 (rd t369 x13_1)).f0).length c373_0, .int .i64 ((rd_T126 l0_3 (rd t369 x13_1)).f1), .slice A373_2 ((rd_T126 l0_3 (rd t369 x13_1)).f2).length c373_2, .int .i64 ((rd_T126 l0_3 (rd t369 x13_1)).f3), .int .i64 ((rd_T126 l0_3 (rd t369 x13_1)).f4), .int .i64 ((rd_T126 l0_3 (rd t369 x13_1)).f5), .int .i64 ((rd_T126 l0_3 (rd t369 x13_1)).f6), .int .i64 ((rd_T126 l0_3 (rd t369 x13_1)).f7), .slice A373_8 ((rd_T126 l0_3 (rd t369 x13_1)).f8).length c373_8]] (by rfl) rfl rfl gl_ ?_
                   with_reducible refine (spec_Before.calls _ _ ((rd_T126 l0_3 (rd t369 x61_3)).f0) ((rd_T126 l0_3 (rd t369 x61_3)).f1) _ _ ((rd_T126 l0_3 (rd t369 x61_3)).f2) ((rd_T126 l0_3 (rd t369 x61_3)).f3) ((rd_T126 l0_3 (rd t369 x61_3)).f4) ((rd_T126 l0_3 (rd t369 x61_3)).f5) ((rd_T126 l0_3 (rd t369 x61_3)).f6) ((rd_T126 l0_3 (rd t369 x61_3)).f7) _ _ ((rd_T126 l0_3 (rd t369 x61_3)).f8) _ _ ((rd_T126 l0_3 (rd t369 x13_1)).f0) ((rd_T126 l0_3 (rd t369 x13_1)).f1) _ _ ((rd_T126 l0_3 (rd t369 x13_1)).f2) ((rd_T126 l0_3 (rd t369 x13_1)).f3) ((rd_T126 l0_3 (rd t369 x13_1)).f4) ((rd_T126 l0_3 (rd t369 x13_1)).f5) ((rd_T126 l0_3 (rd t369 x13_1)).f6) ((rd_T126 l0_3 (rd t369 x13_1)).f7) _ _ ((rd_T126 l0_3 (rd t369 x13_1)).f8) false _ ?side1 ?side2 ?side3 ?side4 ?side5 ?side6 ?side7 ?side8 ?side9 ?side10 ?side11 ?side12 A48.out).mono ?_
                   (case side1 => exact ca_ (Kd.C_below HR378_0.out HB.out))
                   (case side2 => exact HC378_0.out)
                   (case side3 => exact ca_ (Kd.C_below HR378_2.out HB.out))
                   (case side4 => exact HC378_2.out)
                   (case side5 => exact ca_ (Kd.C_below HR378_8.out HB.out))
                   (case side6 => exact HC378_8.out)
                   (case side7 => exact ca_ (Kd.C_below HR373_0.out HB.out))
                   (case side8 => exact HC373_0.out)
                   (case side9 => exact ca_ (Kd.C_below HR373_2.out HB.out))
                   (case side10 => exact HC373_2.out)
                   (case side11 => exact ca_ (Kd.C_below HR373_8.out HB.out))
                   (case side12 => exact HC373_8.out)
                   rintro e w56 ⟨rfl, hb⟩
                   refine ⟨_, rfl, ?_⟩
                   have n0_ := Aside0.mk (Kd.R_below (ra_ HO_3) hb)
                   have n1_ := Aside0.mk (Kd.R_below (ra_ HO_11) hb)
                   have n2_ := Aside0.mk (Kd.R_below (ra_ HO_59) hb)
                   have n3_ := Aside0.mk (blk_below (bk_ BK368) hb)
                   have n4_ := Aside0.mk (blk_below (g := gb374) (o := .cells #[.slice A373_0 ((rd_T126 l0_3 (rd t369 x13_1)).f0).length c373_0, .int .i64 ((rd_T126 l0_3 (rd t369 x13_1)).f1), .slice A373_2 ((rd_T126 l0_3 (rd t369 x13_1)).f2).length c373_2, .int .i64 ((rd_T126 l0_3 (rd t369 x13_1)).f3), .int .i64 ((rd_T126 l0_3 (rd t369 x13_1)).f4), .int .i64 ((rd_T126 l0_3 (rd t369 x13_1)).f5), .int .i64 ((rd_T126 l0_3 (rd t369 x13_1)).f6), .int .i64 ((rd_T126 l0_3 (rd t369 x13_1)).f7), .slice A373_8 ((rd_T126 l0_3 (rd t369 x13_1)).f8).length c373_8] 126 (0, 0)) (by (with_reducible repeat (first | refine blk_drewN ?_ _ | refine blk_drew ?_ | refine blk_alloc ?_ _)); exact BK374.out) hb)
                   have n5_ := Aside0.mk (below_step bl_ hb)
                   clear HO_3
                   clear HO_11
                   clear HO_59
                   clear BK368
                   clear BK374
                   clear HB
                   have HO_3 := n0_
                   have HO_11 := n1_
                   have HO_59 := n2_
                   have BK368 := n3_
                   have BK374 := n4_
                   have HB := n5_
                   clear n0_ n1_ n2_ n3_ n4_ n5_
                   (try clear hb)
                   (try clear hb2)
                   (try clear hk)
                   (try clear hi)
                   refine hK.out _ _ ⟨cy_ BK368 0, cy_ BK368 1, cy_ BK368 2, cy_ BK368 3, cy_ BK374 0, cy_ BK374 1, cy_ BK374 2, cy_ BK374 3, cy_ BK374 4, cy_ BK374 5, cy_ BK374 6, cy_ BK374 7, cy_ BK374 8, (kc_ HB hw378_0), (kc_ HB hw378_1), (kc_ HB hw378_2), (kc_ HB hw378_3), (kc_ HB hw378_4), (kc_ HB hw378_5), (kc_ HB hw378_6), (kc_ HB hw378_7), (kc_ HB hw378_8)⟩ (fun hHeld => ?_)
                   clear hK K
                   refine norm_ (a' := ?_) ?_ ?_
                   rotate_left
                   ·show Act.put _ (some 71) _ = _
                    simp only [Act.put, q_]
                    rfl
                   refine pl_ HT_ 7 72 tb18_ff_9 ?_
                   refine pr_ HT_ 8 73 tb18_1ff_9 ?_
                   refine pr_ HT_ 9 74 tb18_3ff_9 ?_
                   refine pr_ HT_ 10 75 tb18_7ff_9 ?_
                   refine pr_ HT_ 11 76 tb18_fff_9 ?_
                   refine pr_ HT_ 12 77 tb18_1fff_9 ?_
                   refine pr_ HT_ 13 78 tb18_3fff_9 ?_
                   refine pr_ HT_ 14 79 tb18_7fff_9 ?_
                   refine pr_ HT_ 15 80 tb18_ffff_9 ?_
                   refine pr_ HT_ 16 81 tb18_1ffff_9 ?_
                   refine pl_ HT_ 17 82 tb18_3ffff_9 ?_
                   refine done_ (done_of HT_.out (by kernel_rfl)) ?_
                   try go_wp2
                   go_roundg k3
                   case measure => have := HK1.out; have := HJ11.out; have := HK3.out; omega
                   case rel => exact ⟨(wrap64 (x61_3 + 1)), sp_, H', ⟨by have := HK1.out; have := HJ11.out; have := HK3.out; omega⟩, ⟨ra_ HO_3⟩, ⟨ra_ HO_11⟩, ⟨ra_ HO_59⟩, ⟨by (with_reducible repeat (first | refine blk_drewN ?_ _ | refine blk_drew ?_ | refine blk_alloc ?_ _)); exact BK368.out⟩, ⟨by (with_reducible repeat (first | refine blk_drewN ?_ _ | refine blk_drew ?_ | refine blk_alloc ?_ _)); exact BK374.out⟩, ⟨bl_⟩⟩
                 ·rw [if_neg c47] at H
                  exact absurd H (by simp)
                ·rw [if_neg c46] at H
                 exact absurd H (by simp)
               ·rw [if_neg c45] at H
                exact absurd H (by simp)
              ·rw [if_neg c44] at H
               exact absurd H (by simp)
             ·rw [if_neg c43] at H
              have c43b0 : decide (x61_3 < (t369.length : Int)) = false := decide_eq_false c43
              clear c43
              have H' := Aside0.mk H
              clear H
              go_wp2
              go_roundg k3
              case measure => have := HK1.out; have := HJ11.out; have := HK3.out; omega
              case rel => exact ⟨(wrap64 (x13_1 + 1)), sp_, H', ⟨by have := HK1.out; have := HJ11.out; have := HK3.out; omega⟩, ⟨ra_ HO_3⟩, ⟨ra_ HO_11⟩, ⟨by (with_reducible repeat (first | refine blk_drewN ?_ _ | refine blk_drew ?_ | refine blk_alloc ?_ _)); exact BK368.out⟩, ⟨bl_⟩⟩
       ·rw [if_neg c11] at H
        exact absurd H (by simp)
      ·rw [if_neg c10] at H
       exact absurd H (by simp)
     ·rw [if_neg c9] at H
      exact absurd H (by simp)
    ·rw [if_neg c8] at H
     exact absurd H (by simp)
   ·rw [if_neg c7] at H
    have c7b0 : decide (x13_1 < (t369.length : Int)) = false := decide_eq_false c7
    clear c7
    obtain rfl := Option.some.inj H
    go_wp2
    go_ret
    exact ⟨sq_, bl_⟩
end Go.Proofs.Ytepjnalkpfnmcaa.QFnExactInOrder
