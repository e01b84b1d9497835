-- by my own printer (myprint.py, over the kit's print.py)
import Derived.Test.YtepjnalkpfnmcaaQFnExactInOrderx0
import Derived.Test.YtepjnalkpfnmcaaQFnExactInOrderx10
namespace Go.Proofs.Ytepjnalkpfnmcaa.QFnExactInOrder
open Go.RowKit Go.Proofs.YtepjnalkpfnmcaaW.PrintWords Go.Proofs.YtepjnalkpfnmcaaW.PrintLast Go.Proofs.YtepjnalkpfnmcaaW.PrintMore
attribute [local go_sem] max2_int min2_int max_two min_two max_three min_three max_four min_four   -- for this text's walks alone
set_option linter.unusedVariables false
set_option linter.unusedSimpArgs false
attribute [local go_sem] my_geq my_leq my_gtr
abbrev tb18_0_11 : Array Bool := #[b0, b0, b0, b0, b0, b0, b0, b0, b0, b0, b0, b0, b0, b0, b0, b0, b0, b0]
abbrev tb18_15ff_11 : Array Bool := #[b1, b1, b1, b1, b1, b1, b1, b1, b1, b0, b1, b0, b1, b0, b0, b0, b0, b0]
abbrev tb18_17ff_11 : Array Bool := #[b1, b1, b1, b1, b1, b1, b1, b1, b1, b1, b1, b0, b1, b0, b0, b0, b0, b0]
abbrev tb18_1f_11 : Array Bool := #[b1, b1, b1, b1, b1, b0, b0, b0, b0, b0, b0, b0, b0, b0, b0, b0, b0, b0]
abbrev tb18_1ff_11 : Array Bool := #[b1, b1, b1, b1, b1, b1, b1, b1, b1, b0, b0, b0, b0, b0, b0, b0, b0, b0]
abbrev tb18_1fff_11 : Array Bool := #[b1, b1, b1, b1, b1, b1, b1, b1, b1, b1, b1, b1, b1, b0, b0, b0, b0, b0]
abbrev tb18_1ffff_11 : Array Bool := #[b1, b1, b1, b1, b1, b1, b1, b1, b1, b1, b1, b1, b1, b1, b1, b1, b1, b0]
abbrev tb18_2_11 : Array Bool := #[b0, b1, b0, b0, b0, b0, b0, b0, b0, b0, b0, b0, b0, b0, b0, b0, b0, b0]
abbrev tb18_3f_11 : Array Bool := #[b1, b1, b1, b1, b1, b1, b0, b0, b0, b0, b0, b0, b0, b0, b0, b0, b0, b0]
abbrev tb18_3ff_11 : Array Bool := #[b1, b1, b1, b1, b1, b1, b1, b1, b1, b1, b0, b0, b0, b0, b0, b0, b0, b0]
abbrev tb18_3fff_11 : Array Bool := #[b1, b1, b1, b1, b1, b1, b1, b1, b1, b1, b1, b1, b1, b1, b0, b0, b0, b0]
abbrev tb18_3ffff_11 : Array Bool := #[b1, b1, b1, b1, b1, b1, b1, b1, b1, b1, b1, b1, b1, b1, b1, b1, b1, b1]
abbrev tb18_5ff_11 : Array Bool := #[b1, b1, b1, b1, b1, b1, b1, b1, b1, b0, b1, b0, b0, b0, b0, b0, b0, b0]
abbrev tb18_7f_11 : Array Bool := #[b1, b1, b1, b1, b1, b1, b1, b0, b0, b0, b0, b0, b0, b0, b0, b0, b0, b0]
abbrev tb18_7ff_11 : Array Bool := #[b1, b1, b1, b1, b1, b1, b1, b1, b1, b1, b1, b0, b0, b0, b0, b0, b0, b0]
abbrev tb18_7fff_11 : Array Bool := #[b1, b1, b1, b1, b1, b1, b1, b1, b1, b1, b1, b1, b1, b1, b1, b0, b0, b0]
abbrev tb18_a_11 : Array Bool := #[b0, b1, b0, b1, b0, b0, b0, b0, b0, b0, b0, b0, b0, b0, b0, b0, b0, b0]
abbrev tb18_b_11 : Array Bool := #[b1, b1, b0, b1, b0, b0, b0, b0, b0, b0, b0, b0, b0, b0, b0, b0, b0, b0]
abbrev tb18_f_11 : Array Bool := #[b1, b1, b1, b1, b0, b0, b0, b0, b0, b0, b0, b0, b0, b0, b0, b0, b0, b0]
abbrev tb18_ff_11 : Array Bool := #[b1, b1, b1, b1, b1, b1, b1, b1, b0, b0, b0, b0, b0, b0, b0, b0, b0, b0]
abbrev tb18_fff_11 : Array Bool := #[b1, b1, b1, b1, b1, b1, b1, b1, b1, b1, b1, b1, b0, b0, b0, b0, b0, b0]
abbrev tb18_ffff_11 : Array Bool := #[b1, b1, b1, b1, b1, b1, b1, b1, b1, b1, b1, b1, b1, b1, b1, b1, b0, b0]
abbrev tb36_0_11 : Array Bool := #[b0, b0, b0, b0, b0, b0, b0, b0, b0, b0, b0, b0, b0, b0, b0, b0, b0, b0, b0, b0, b0, b0, b0, b0, b0, b0, b0, b0, b0, b0, b0, b0, b0, b0, b0, b0]
abbrev tb36_1_11 : Array Bool := #[b1, b0, b0, b0, b0, b0, b0, b0, b0, b0, b0, b0, b0, b0, b0, b0, b0, b0, b0, b0, b0, b0, b0, b0, b0, b0, b0, b0, b0, b0, b0, b0, b0, b0, b0, b0]
abbrev tb36_17ffff_11 : Array Bool := #[b1, b1, b1, b1, b1, b1, b1, b1, b1, b1, b1, b1, b1, b1, b1, b1, b1, b1, b1, b0, b1, b0, b0, b0, b0, b0, b0, b0, b0, b0, b0, b0, b0, b0, b0, b0]
abbrev tb36_1af_11 : Array Bool := #[b1, b1, b1, b1, b0, b1, b0, b1, b1, b0, b0, b0, b0, b0, b0, b0, b0, b0, b0, b0, b0, b0, b0, b0, b0, b0, b0, b0, b0, b0, b0, b0, b0, b0, b0, b0]
abbrev tb36_1f_11 : Array Bool := #[b1, b1, b1, b1, b1, b0, b0, b0, b0, b0, b0, b0, b0, b0, b0, b0, b0, b0, b0, b0, b0, b0, b0, b0, b0, b0, b0, b0, b0, b0, b0, b0, b0, b0, b0, b0]
abbrev tb36_1ff_11 : Array Bool := #[b1, b1, b1, b1, b1, b1, b1, b1, b1, b0, b0, b0, b0, b0, b0, b0, b0, b0, b0, b0, b0, b0, b0, b0, b0, b0, b0, b0, b0, b0, b0, b0, b0, b0, b0, b0]
abbrev tb36_1fff_11 : Array Bool := #[b1, b1, b1, b1, b1, b1, b1, b1, b1, b1, b1, b1, b1, b0, b0, b0, b0, b0, b0, b0, b0, b0, b0, b0, b0, b0, b0, b0, b0, b0, b0, b0, b0, b0, b0, b0]
abbrev tb36_1ffff_11 : Array Bool := #[b1, b1, b1, b1, b1, b1, b1, b1, b1, b1, b1, b1, b1, b1, b1, b1, b1, b0, b0, b0, b0, b0, b0, b0, b0, b0, b0, b0, b0, b0, b0, b0, b0, b0, b0, b0]
abbrev tb36_1fffff_11 : Array Bool := #[b1, b1, b1, b1, b1, b1, b1, b1, b1, b1, b1, b1, b1, b1, b1, b1, b1, b1, b1, b1, b1, b0, b0, b0, b0, b0, b0, b0, b0, b0, b0, b0, b0, b0, b0, b0]
abbrev tb36_1ffffff_11 : Array Bool := #[b1, b1, b1, b1, b1, b1, b1, b1, b1, b1, b1, b1, b1, b1, b1, b1, b1, b1, b1, b1, b1, b1, b1, b1, b1, b0, b0, b0, b0, b0, b0, b0, b0, b0, b0, b0]
abbrev tb36_1fffffff_11 : Array Bool := #[b1, b1, b1, b1, b1, b1, b1, b1, b1, b1, b1, b1, b1, b1, b1, b1, b1, b1, b1, b1, b1, b1, b1, b1, b1, b1, b1, b1, b1, b0, b0, b0, b0, b0, b0, b0]
abbrev tb36_1ffffffff_11 : Array Bool := #[b1, b1, b1, b1, b1, b1, b1, b1, b1, b1, b1, b1, b1, b1, b1, b1, b1, b1, b1, b1, b1, b1, b1, b1, b1, b1, b1, b1, b1, b1, b1, b1, b1, b0, b0, b0]
abbrev tb36_2f_11 : Array Bool := #[b1, b1, b1, b1, b0, b1, b0, b0, b0, b0, b0, b0, b0, b0, b0, b0, b0, b0, b0, b0, b0, b0, b0, b0, b0, b0, b0, b0, b0, b0, b0, b0, b0, b0, b0, b0]
abbrev tb36_3_11 : Array Bool := #[b1, b1, b0, b0, b0, b0, b0, b0, b0, b0, b0, b0, b0, b0, b0, b0, b0, b0, b0, b0, b0, b0, b0, b0, b0, b0, b0, b0, b0, b0, b0, b0, b0, b0, b0, b0]
abbrev tb36_3af_11 : Array Bool := #[b1, b1, b1, b1, b0, b1, b0, b1, b1, b1, b0, b0, b0, b0, b0, b0, b0, b0, b0, b0, b0, b0, b0, b0, b0, b0, b0, b0, b0, b0, b0, b0, b0, b0, b0, b0]
abbrev tb36_3f_11 : Array Bool := #[b1, b1, b1, b1, b1, b1, b0, b0, b0, b0, b0, b0, b0, b0, b0, b0, b0, b0, b0, b0, b0, b0, b0, b0, b0, b0, b0, b0, b0, b0, b0, b0, b0, b0, b0, b0]
abbrev tb36_3ff_11 : Array Bool := #[b1, b1, b1, b1, b1, b1, b1, b1, b1, b1, b0, b0, b0, b0, b0, b0, b0, b0, b0, b0, b0, b0, b0, b0, b0, b0, b0, b0, b0, b0, b0, b0, b0, b0, b0, b0]
abbrev tb36_3fff_11 : Array Bool := #[b1, b1, b1, b1, b1, b1, b1, b1, b1, b1, b1, b1, b1, b1, b0, b0, b0, b0, b0, b0, b0, b0, b0, b0, b0, b0, b0, b0, b0, b0, b0, b0, b0, b0, b0, b0]
abbrev tb36_3ffff_11 : Array Bool := #[b1, b1, b1, b1, b1, b1, b1, b1, b1, b1, b1, b1, b1, b1, b1, b1, b1, b1, b0, b0, b0, b0, b0, b0, b0, b0, b0, b0, b0, b0, b0, b0, b0, b0, b0, b0]
abbrev tb36_3fffff_11 : Array Bool := #[b1, b1, b1, b1, b1, b1, b1, b1, b1, b1, b1, b1, b1, b1, b1, b1, b1, b1, b1, b1, b1, b1, b0, b0, b0, b0, b0, b0, b0, b0, b0, b0, b0, b0, b0, b0]
abbrev tb36_3ffffff_11 : Array Bool := #[b1, b1, b1, b1, b1, b1, b1, b1, b1, b1, b1, b1, b1, b1, b1, b1, b1, b1, b1, b1, b1, b1, b1, b1, b1, b1, b0, b0, b0, b0, b0, b0, b0, b0, b0, b0]
abbrev tb36_3fffffff_11 : Array Bool := #[b1, b1, b1, b1, b1, b1, b1, b1, b1, b1, b1, b1, b1, b1, b1, b1, b1, b1, b1, b1, b1, b1, b1, b1, b1, b1, b1, b1, b1, b1, b0, b0, b0, b0, b0, b0]
abbrev tb36_3ffffffff_11 : Array Bool := #[b1, b1, b1, b1, b1, b1, b1, b1, b1, b1, b1, b1, b1, b1, b1, b1, b1, b1, b1, b1, b1, b1, b1, b1, b1, b1, b1, b1, b1, b1, b1, b1, b1, b1, b0, b0]
abbrev tb36_7_11 : Array Bool := #[b1, b1, b1, b0, b0, b0, b0, b0, b0, b0, b0, b0, b0, b0, b0, b0, b0, b0, b0, b0, b0, b0, b0, b0, b0, b0, b0, b0, b0, b0, b0, b0, b0, b0, b0, b0]
abbrev tb36_7af_11 : Array Bool := #[b1, b1, b1, b1, b0, b1, b0, b1, b1, b1, b1, b0, b0, b0, b0, b0, b0, b0, b0, b0, b0, b0, b0, b0, b0, b0, b0, b0, b0, b0, b0, b0, b0, b0, b0, b0]
abbrev tb36_7bf_11 : Array Bool := #[b1, b1, b1, b1, b1, b1, b0, b1, b1, b1, b1, b0, b0, b0, b0, b0, b0, b0, b0, b0, b0, b0, b0, b0, b0, b0, b0, b0, b0, b0, b0, b0, b0, b0, b0, b0]
abbrev tb36_7f_11 : Array Bool := #[b1, b1, b1, b1, b1, b1, b1, b0, b0, b0, b0, b0, b0, b0, b0, b0, b0, b0, b0, b0, b0, b0, b0, b0, b0, b0, b0, b0, b0, b0, b0, b0, b0, b0, b0, b0]
abbrev tb36_7ff_11 : Array Bool := #[b1, b1, b1, b1, b1, b1, b1, b1, b1, b1, b1, b0, b0, b0, b0, b0, b0, b0, b0, b0, b0, b0, b0, b0, b0, b0, b0, b0, b0, b0, b0, b0, b0, b0, b0, b0]
abbrev tb36_7fff_11 : Array Bool := #[b1, b1, b1, b1, b1, b1, b1, b1, b1, b1, b1, b1, b1, b1, b1, b0, b0, b0, b0, b0, b0, b0, b0, b0, b0, b0, b0, b0, b0, b0, b0, b0, b0, b0, b0, b0]
abbrev tb36_7ffff_11 : Array Bool := #[b1, b1, b1, b1, b1, b1, b1, b1, b1, b1, b1, b1, b1, b1, b1, b1, b1, b1, b1, b0, b0, b0, b0, b0, b0, b0, b0, b0, b0, b0, b0, b0, b0, b0, b0, b0]
abbrev tb36_7fffff_11 : Array Bool := #[b1, b1, b1, b1, b1, b1, b1, b1, b1, b1, b1, b1, b1, b1, b1, b1, b1, b1, b1, b1, b1, b1, b1, b0, b0, b0, b0, b0, b0, b0, b0, b0, b0, b0, b0, b0]
abbrev tb36_7ffffff_11 : Array Bool := #[b1, b1, b1, b1, b1, b1, b1, b1, b1, b1, b1, b1, b1, b1, b1, b1, b1, b1, b1, b1, b1, b1, b1, b1, b1, b1, b1, b0, b0, b0, b0, b0, b0, b0, b0, b0]
abbrev tb36_7fffffff_11 : Array Bool := #[b1, b1, b1, b1, b1, b1, b1, b1, b1, b1, b1, b1, b1, b1, b1, b1, b1, b1, b1, b1, b1, b1, b1, b1, b1, b1, b1, b1, b1, b1, b1, b0, b0, b0, b0, b0]
abbrev tb36_7ffffffff_11 : Array Bool := #[b1, b1, b1, b1, b1, b1, b1, b1, b1, b1, b1, b1, b1, b1, b1, b1, b1, b1, b1, b1, b1, b1, b1, b1, b1, b1, b1, b1, b1, b1, b1, b1, b1, b1, b1, b0]
abbrev tb36_af_11 : Array Bool := #[b1, b1, b1, b1, b0, b1, b0, b1, b0, b0, b0, b0, b0, b0, b0, b0, b0, b0, b0, b0, b0, b0, b0, b0, b0, b0, b0, b0, b0, b0, b0, b0, b0, b0, b0, b0]
abbrev tb36_bfffffff_11 : Array Bool := #[b1, b1, b1, b1, b1, b1, b1, b1, b1, b1, b1, b1, b1, b1, b1, b1, b1, b1, b1, b1, b1, b1, b1, b1, b1, b1, b1, b1, b1, b1, b0, b1, b0, b0, b0, b0]
abbrev tb36_f_11 : Array Bool := #[b1, b1, b1, b1, b0, b0, b0, b0, b0, b0, b0, b0, b0, b0, b0, b0, b0, b0, b0, b0, b0, b0, b0, b0, b0, b0, b0, b0, b0, b0, b0, b0, b0, b0, b0, b0]
abbrev tb36_ff_11 : Array Bool := #[b1, b1, b1, b1, b1, b1, b1, b1, b0, b0, b0, b0, b0, b0, b0, b0, b0, b0, b0, b0, b0, b0, b0, b0, b0, b0, b0, b0, b0, b0, b0, b0, b0, b0, b0, b0]
abbrev tb36_fff_11 : Array Bool := #[b1, b1, b1, b1, b1, b1, b1, b1, b1, b1, b1, b1, b0, b0, b0, b0, b0, b0, b0, b0, b0, b0, b0, b0, b0, b0, b0, b0, b0, b0, b0, b0, b0, b0, b0, b0]
abbrev tb36_ffff_11 : Array Bool := #[b1, b1, b1, b1, b1, b1, b1, b1, b1, b1, b1, b1, b1, b1, b1, b1, b0, b0, b0, b0, b0, b0, b0, b0, b0, b0, b0, b0, b0, b0, b0, b0, b0, b0, b0, b0]
abbrev tb36_fffff_11 : Array Bool := #[b1, b1, b1, b1, b1, b1, b1, b1, b1, b1, b1, b1, b1, b1, b1, b1, b1, b1, b1, b1, b0, b0, b0, b0, b0, b0, b0, b0, b0, b0, b0, b0, b0, b0, b0, b0]
abbrev tb36_ffffff_11 : Array Bool := #[b1, b1, b1, b1, b1, b1, b1, b1, b1, b1, b1, b1, b1, b1, b1, b1, b1, b1, b1, b1, b1, b1, b1, b1, b0, b0, b0, b0, b0, b0, b0, b0, b0, b0, b0, b0]
abbrev tb36_fffffff_11 : Array Bool := #[b1, b1, b1, b1, b1, b1, b1, b1, b1, b1, b1, b1, b1, b1, b1, b1, b1, b1, b1, b1, b1, b1, b1, b1, b1, b1, b1, b1, b0, b0, b0, b0, b0, b0, b0, b0]
abbrev tb36_ffffffff_11 : Array Bool := #[b1, b1, b1, b1, b1, b1, b1, b1, b1, b1, b1, b1, b1, b1, b1, b1, b1, b1, b1, b1, b1, b1, b1, b1, b1, b1, b1, b1, b1, b1, b1, b1, b0, b0, b0, b0]
abbrev tb36_fffffffff_11 : Array Bool := #[b1, b1, b1, b1, b1, b1, b1, b1, b1, b1, b1, b1, b1, b1, b1, b1, b1, b1, b1, b1, b1, b1, b1, b1, b1, b1, b1, b1, b1, b1, b1, b1, b1, b1, b1, b1]
/-! ### impl_InOrder: function 76 -/
mutual
def impl_InOrder.l0 : Nat → List Int → List Int → Int → Int → List (S121) → Int → Int → List (S126) → Option (Bool)
 | 0, _, _, _, _, _, _, _, _ => none
 | k + 1, x3, x11, x12, x13, x393000, x393001, x393002, x393003 => if x13 < x12 then (if 0 ≤ x13 then (if x13 < (x11.length : Int) then (if 0 ≤ (rd x11 x13) then (if (rd x11 x13) < (x393003.length : Int) then (if x13 > 0 then (if 0 ≤ (wrap64 (x13 - 1)) then (if (wrap64 (x13 - 1)) < (x3.length : Int) then (if 0 ≤ (rd x3 (wrap64 (x13 - 1))) then (if (rd x3 (wrap64 (x13 - 1))) < (x393003.length : Int) then (if ((rd_T126 x393003 (rd x11 x13)).f7) < ((rd_T126 x393003 (rd x3 (wrap64 (x13 - 1)))).f7) then (impl_InOrder.j1 k x3 x11 x12 x13 true x393000 x393001 x393002 x393003 ((rd_T126 x393003 (rd x11 x13)).f0) ((rd_T126 x393003 (rd x11 x13)).f1) ((rd_T126 x393003 (rd x11 x13)).f2) ((rd_T126 x393003 (rd x11 x13)).f3) ((rd_T126 x393003 (rd x11 x13)).f4) ((rd_T126 x393003 (rd x11 x13)).f5) ((rd_T126 x393003 (rd x11 x13)).f6) ((rd_T126 x393003 (rd x11 x13)).f7) ((rd_T126 x393003 (rd x11 x13)).f8)) else (if ((rd_T126 x393003 (rd x11 x13)).f5) < ((rd_T126 x393003 (rd x11 x13)).f4) then (impl_InOrder.j1 k x3 x11 x12 x13 true x393000 x393001 x393002 x393003 ((rd_T126 x393003 (rd x11 x13)).f0) ((rd_T126 x393003 (rd x11 x13)).f1) ((rd_T126 x393003 (rd x11 x13)).f2) ((rd_T126 x393003 (rd x11 x13)).f3) ((rd_T126 x393003 (rd x11 x13)).f4) ((rd_T126 x393003 (rd x11 x13)).f5) ((rd_T126 x393003 (rd x11 x13)).f6) ((rd_T126 x393003 (rd x11 x13)).f7) ((rd_T126 x393003 (rd x11 x13)).f8)) else (if ((rd_T126 x393003 (rd x11 x13)).f6) = (-1) then (impl_InOrder.j1 k x3 x11 x12 x13 false x393000 x393001 x393002 x393003 ((rd_T126 x393003 (rd x11 x13)).f0) ((rd_T126 x393003 (rd x11 x13)).f1) ((rd_T126 x393003 (rd x11 x13)).f2) ((rd_T126 x393003 (rd x11 x13)).f3) ((rd_T126 x393003 (rd x11 x13)).f4) ((rd_T126 x393003 (rd x11 x13)).f5) ((rd_T126 x393003 (rd x11 x13)).f6) ((rd_T126 x393003 (rd x11 x13)).f7) ((rd_T126 x393003 (rd x11 x13)).f8)) else (impl_InOrder.j1 k x3 x11 x12 x13 (decide (((rd_T126 x393003 (rd x11 x13)).f5) > ((rd_T126 x393003 (rd x11 x13)).f6))) x393000 x393001 x393002 x393003 ((rd_T126 x393003 (rd x11 x13)).f0) ((rd_T126 x393003 (rd x11 x13)).f1) ((rd_T126 x393003 (rd x11 x13)).f2) ((rd_T126 x393003 (rd x11 x13)).f3) ((rd_T126 x393003 (rd x11 x13)).f4) ((rd_T126 x393003 (rd x11 x13)).f5) ((rd_T126 x393003 (rd x11 x13)).f6) ((rd_T126 x393003 (rd x11 x13)).f7) ((rd_T126 x393003 (rd x11 x13)).f8))))) else (none)) else (none)) else (none)) else (none)) else (if ((rd_T126 x393003 (rd x11 x13)).f5) < ((rd_T126 x393003 (rd x11 x13)).f4) then (impl_InOrder.j1 k x3 x11 x12 x13 true x393000 x393001 x393002 x393003 ((rd_T126 x393003 (rd x11 x13)).f0) ((rd_T126 x393003 (rd x11 x13)).f1) ((rd_T126 x393003 (rd x11 x13)).f2) ((rd_T126 x393003 (rd x11 x13)).f3) ((rd_T126 x393003 (rd x11 x13)).f4) ((rd_T126 x393003 (rd x11 x13)).f5) ((rd_T126 x393003 (rd x11 x13)).f6) ((rd_T126 x393003 (rd x11 x13)).f7) ((rd_T126 x393003 (rd x11 x13)).f8)) else (if ((rd_T126 x393003 (rd x11 x13)).f6) = (-1) then (impl_InOrder.j1 k x3 x11 x12 x13 false x393000 x393001 x393002 x393003 ((rd_T126 x393003 (rd x11 x13)).f0) ((rd_T126 x393003 (rd x11 x13)).f1) ((rd_T126 x393003 (rd x11 x13)).f2) ((rd_T126 x393003 (rd x11 x13)).f3) ((rd_T126 x393003 (rd x11 x13)).f4) ((rd_T126 x393003 (rd x11 x13)).f5) ((rd_T126 x393003 (rd x11 x13)).f6) ((rd_T126 x393003 (rd x11 x13)).f7) ((rd_T126 x393003 (rd x11 x13)).f8)) else (impl_InOrder.j1 k x3 x11 x12 x13 (decide (((rd_T126 x393003 (rd x11 x13)).f5) > ((rd_T126 x393003 (rd x11 x13)).f6))) x393000 x393001 x393002 x393003 ((rd_T126 x393003 (rd x11 x13)).f0) ((rd_T126 x393003 (rd x11 x13)).f1) ((rd_T126 x393003 (rd x11 x13)).f2) ((rd_T126 x393003 (rd x11 x13)).f3) ((rd_T126 x393003 (rd x11 x13)).f4) ((rd_T126 x393003 (rd x11 x13)).f5) ((rd_T126 x393003 (rd x11 x13)).f6) ((rd_T126 x393003 (rd x11 x13)).f7) ((rd_T126 x393003 (rd x11 x13)).f8))))) else (none)) else (none)) else (none)) else (none)) else (some true)
def impl_InOrder.j1 : Nat → List Int → List Int → Int → Int → Bool → List (S121) → Int → Int → List (S126) → List Int → Int → List Int → Int → Int → Int → Int → Int → List Int → Option (Bool)
 | 0, _, _, _, _, _, _, _, _, _, _, _, _, _, _, _, _, _, _ => none
 | k + 1, x3, x11, x12, x13, x58, x393000, x393001, x393002, x393003, x399000, x399001, x399002, x399003, x399004, x399005, x399006, x399007, x399008 => if x58 = true then (some false) else (impl_InOrder.l1 k x3 x11 x12 x13 x3 (x3.length : Int) 0 x393000 x393001 x393002 x393003 x399000 x399001 x399002 x399003 x399004 x399005 x399006 x399007 x399008)
def impl_InOrder.l1 : Nat → List Int → List Int → Int → Int → List Int → Int → Int → List (S121) → Int → Int → List (S126) → List Int → Int → List Int → Int → Int → Int → Int → Int → List Int → Option (Bool)
 | 0, _, _, _, _, _, _, _, _, _, _, _, _, _, _, _, _, _, _, _, _ => none
 | k + 1, x3, x11, x12, x13, x59, x60, x61, x393000, x393001, x393002, x393003, x399000, x399001, x399002, x399003, x399004, x399005, x399006, x399007, x399008 => if x61 < x60 then (if 0 ≤ x61 then (if x61 < (x59.length : Int) then (if 0 ≤ (rd x59 x61) then (if (rd x59 x61) < (x393003.length : Int) then ((impl_Before.f x399000 x399001 x399002 x399003 x399004 x399005 x399006 x399007 x399008 ((rd_T126 x393003 (rd x59 x61)).f0) ((rd_T126 x393003 (rd x59 x61)).f1) ((rd_T126 x393003 (rd x59 x61)).f2) ((rd_T126 x393003 (rd x59 x61)).f3) ((rd_T126 x393003 (rd x59 x61)).f4) ((rd_T126 x393003 (rd x59 x61)).f5) ((rd_T126 x393003 (rd x59 x61)).f6) ((rd_T126 x393003 (rd x59 x61)).f7) ((rd_T126 x393003 (rd x59 x61)).f8)).bind fun t403 => (if t403 = true then (if x399005 ≥ ((rd_T126 x393003 (rd x59 x61)).f5) then (some false) else (impl_InOrder.l1 k x3 x11 x12 x13 x59 x60 (wrap64 (x61 + 1)) x393000 x393001 x393002 x393003 x399000 x399001 x399002 x399003 x399004 x399005 x399006 x399007 x399008)) else (impl_InOrder.l1 k x3 x11 x12 x13 x59 x60 (wrap64 (x61 + 1)) x393000 x393001 x393002 x393003 x399000 x399001 x399002 x399003 x399004 x399005 x399006 x399007 x399008))) else (none)) else (none)) else (none)) else (none)) else (impl_InOrder.l0 k x3 x11 x12 (wrap64 (x13 + 1)) x393000 x393001 x393002 x393003)
end
def impl_InOrder.f (k : Nat) (l0_0 : List (S121)) (a0_1 : Int) (a0_2 : Int) (l0_3 : List (S126)) : Option (Bool) := (impl_OrderOf.f k l0_0 a0_1 a0_2 l0_3).bind fun t393 => (impl_InOrder.l0 k t393 t393 (t393.length : Int) 0 l0_0 a0_1 a0_2 l0_3)
def impl_InOrder.T6 : Bool × List (List Nat × List Nat) := (true, [([], []), ([0], [0]), ([1], [1]), ([2], [2]), ([3, 2], [2, 3]), ([2], [2]), ([5, 2], [2, 5]), ([2], [2]), ([2], [2]), ([8, 2], [2, 8]), ([7, 9, 2], [2, 7, 9]), ([10, 2], [2, 10]), ([6, 11, 2], [2, 6, 11]), ([12, 2], [2, 12]), ([13, 2], [2, 13]), ([4, 14, 2], [2, 4, 14]), ([2, 15], [2, 15]), ([16, 2], [16]), ([17], [17]), ([18, 17], [17, 18]), ([17], [17]), ([20, 17], [17, 20]), ([19, 21, 17], [17, 19, 21]), ([17, 22], [17, 22]), ([23, 17], [23]), ([24], [24]), ([25, 24], [24, 25]), ([26, 24], [24, 26]), ([27, 24, 24], [24, 27]), ([28], [28]), ([29, 28], [28, 29]), ([28], [28]), ([31, 28], [28, 31]), ([30, 32, 28], [28, 30, 32]), ([28, 33, 24], [24, 28, 33]), ([24, 34], [24, 34])])
def impl_InOrder.B6 : List Nat := [0, 1, 3, 7, 15, 7, 39, 7, 7, 263, 903, 1927, 4071, 8167, 16359, 32767, 65535, 131071, 262143, 524287, 262143, 1310719, 4194303, 8388607, 16777215, 33554431, 67108863, 134217727, 268435455, 536870911, 1073741823, 536870911, 2684354559, 8589934591, 17179869183, 34359738367]
theorem impl_InOrder.tab6 : rtab .any (opsOf Try.f76 6) = impl_InOrder.T6 := by kernel_rfl
theorem impl_InOrder.bits6 : waitsOk impl_InOrder.T6.2 impl_InOrder.B6 = true := by kernel_rfl
def impl_InOrder.T11 : Bool × List (List Nat × List Nat) := (true, [([], []), ([], []), ([1], [1]), ([], []), ([2, 3], [2, 3]), ([4], [4]), ([0, 5], [0, 5]), ([6, 6], [6]), ([7], [7]), ([8, 7], [7, 8]), ([7], [7]), ([10, 7], [7, 10]), ([7], [7]), ([11, 12, 7], [7, 11, 12]), ([13, 7], [7, 13]), ([14, 7], [7, 14]), ([9, 15, 7], [7, 9, 15]), ([7, 16], [7, 16])])
def impl_InOrder.B11 : List Nat := [0, 0, 2, 0, 14, 30, 63, 127, 255, 511, 255, 1279, 255, 7423, 15615, 31999, 65535, 131071]
theorem impl_InOrder.tab11 : rtab .any (opsOf Try.f76 11) = impl_InOrder.T11 := by kernel_rfl
theorem impl_InOrder.bits11 : waitsOk impl_InOrder.T11.2 impl_InOrder.B11 = true := by kernel_rfl
set_option maxHeartbeats 8000000 in
set_option maxRecDepth 100000 in
theorem impl_InOrder.calls (k : Nat) (A0_0 : Option Addr) (c0_0 : Nat) (l0_0 : List (S121)) (a0_1 : Int) (a0_2 : Int) (A0_3 : Option Addr) (c0_3 : Nat) (l0_3 : List (S126)) (r : Bool) (w : World) (hr0_0 : Kd.C k121 w A0_0 l0_0.length l0_0) (hc0_0 : l0_0.length ≤ c0_0) (hr0_3 : Kd.C k126 w A0_3 l0_3.length l0_3) (hc0_3 : l0_3.length ≤ c0_3) (h : impl_InOrder.f k l0_0 a0_1 a0_2 l0_3 = some r) :
  Calls Try.prog 76 #[.agg #[.slice A0_0 l0_0.length c0_0, .int .i64 a0_1, .int .i64 a0_2, .slice A0_3 l0_3.length c0_3]] w fun e w' => e = .returned (.bool r) ∧ Below w.heap.size w w' := by
 have hu56 := Try.underlying56
 have hu126 := Try.underlying126
 have HR0_0 := Aside0.mk hr0_0
 have HC0_0 := Aside0.mk hc0_0
 clear hr0_0 hc0_0
 have HR0_3 := Aside0.mk hr0_3
 have HC0_3 := Aside0.mk hc0_3
 clear hr0_3 hc0_3
 have HB := Aside0.mk (Below.refl w.heap.size w)
 have H : ((impl_OrderOf.f k l0_0 a0_1 a0_2 l0_3).bind fun t393 => (impl_InOrder.l0 k t393 t393 (t393.length : Int) 0 l0_0 a0_1 a0_2 l0_3)) = some r := h
 clear h
 obtain ⟨t393, A2, H⟩ := ob_ H
 have H' := Aside0.mk H
 clear H
 go_enter Try.func76, Try.ntmps76
 go_wp2_with (first | ((with_reducible refine gate_dst (N := 1) rfl ?_); refine be_ (N := 1) (cs := #[.slice A0_0 l0_0.length c0_0, .int .i64 a0_1, .int .i64 a0_2, .slice A0_3 l0_3.length c0_3]) (t := 56) ?_; intro gb392 hg w3 hbox hb; have BK392 := Aside0.mk (hbox); have GW392 := gw_ (w := w) hg; have GE392 := gw_ (w := w) hg; replace HB := Aside0.mk (below_step bl_ hb); clear hb hbox hg; obtain ⟨hcz4_0, hcz4_1, hcz4_2, hcz4_3, hfz4_0, hfz4_1, hfz4_2, hfz4_3⟩ := bx4_ BK392) | ((with_reducible refine gate_callee (f := 133) rfl ?_); refine goesL_ (some 10) rfl rfl Try.func133 (by kernel_rfl) rfl #[.agg #[.slice A0_0 l0_0.length c0_0, .int .i64 a0_1, .int .i64 a0_2, .slice A0_3 l0_3.length c0_3]] rfl gl_ ?_; (with_reducible refine (impl_OrderOf.calls k _ _ l0_0 a0_1 a0_2 _ _ l0_3 t393 _ ?side1 ?side2 ?side3 ?side4 A2.out).mono ?_); (case side1 => exact ca_ (Kd.C_below HR0_0.out HB.out)); (case side2 => exact HC0_0.out); (case side3 => exact ca_ (Kd.C_below HR0_3.out HB.out)); (case side4 => exact HC0_3.out); rintro e w5 ⟨v394, rfl, ho0, hb⟩; refine ⟨_, rfl, ?_⟩; have HO395 := Aside0.mk (Kd.R_lower ho0 (below_size bl_)); replace BK392 := Aside0.mk (blk_below (bk_ BK392) hb); replace HB := Aside0.mk (below_step bl_ hb); (try clear hb); (try clear hb2); (try clear hk); (try clear hi); (try clear ho0); obtain ⟨Ao6, co6, eo6⟩ := Kd.R_slice HO395.out; subst eo6))
 go_loopg [13] k (fun kq v13 w' => ∃ (x13_1 : Int), v13 = .int .i64 x13_1 ∧ Aside0 (impl_InOrder.l0 kq t393 t393 (t393.length : Int) x13_1 l0_0 a0_1 a0_2 l0_3 = some r) ∧ Aside0 (kq ≤ k) ∧ Aside0 (Kd.R (Kd.int .i64) 3 w' w.heap.size (fun _ => True) (.slice Ao6 t393.length co6) t393) ∧ Aside0 (Kd.R (Kd.int .i64) 3 w' w.heap.size (fun _ => True) (.slice Ao6 t393.length co6) t393) ∧ Aside0 (w'.heap[gb392]? = some (.cells #[(.slice A0_0 l0_0.length c0_0), .int .i64 a0_1, .int .i64 a0_2, (.slice A0_3 l0_3.length c0_3)] 56 (0, 0))) ∧ Aside0 (Below w.heap.size w w'))
 case atStart => exact ⟨(0), sp_, H', ⟨Nat.le_refl _⟩, ⟨ra_ HO395⟩, ⟨ra_ HO395⟩, ⟨by (with_reducible repeat (first | refine blk_drewN ?_ _ | refine blk_drew ?_ | refine blk_alloc ?_ _)); exact BK392.out⟩, ⟨bl_⟩⟩
 case round =>
  clear H'
  try clear c1
  try clear p2
  try clear hcz4_0
  try clear hcz4_1
  try clear hcz4_2
  try clear hcz4_3
  try clear hfz4_0
  try clear hfz4_1
  try clear hfz4_2
  try clear hfz4_3
  obtain ⟨x13_1, rfl, HA, HK1, HO_3, HO_11, BK392, HB⟩ := hrel
  cases gk with
  | zero => exact absurd HA.out (by simp [impl_InOrder.l0])
  | succ k1 =>
   have H := HA.out
   clear HA
   simp only [impl_InOrder.l0] at H
   by_cases c7 : x13_1 < (t393.length : Int)
   ·rw [if_pos c7] at H
    have c7b0 : decide (x13_1 < (t393.length : Int)) = true := decide_eq_true c7
    clear c7
    by_cases c8 : 0 ≤ x13_1
    ·rw [if_pos c8] at H
     have c8b0 : decide (0 ≤ x13_1) = true := decide_eq_true c8
     clear c8
     by_cases c9 : x13_1 < (t393.length : Int)
     ·rw [if_pos c9] at H
      have c9b0 : decide (x13_1 < (t393.length : Int)) = true := decide_eq_true c9
      clear c9
      by_cases c10 : 0 ≤ (rd t393 x13_1)
      ·rw [if_pos c10] at H
       have c10b0 : decide (0 ≤ (rd t393 x13_1)) = true := decide_eq_true c10
       clear c10
       by_cases c11 : (rd t393 x13_1) < (l0_3.length : Int)
       ·rw [if_pos c11] at H
        have c11b0 : decide ((rd t393 x13_1) < (l0_3.length : Int)) = true := decide_eq_true c11
        clear c11
        have HC12 := Aside0.mk H
        clear H
        have p396 : 0 ≤ (x13_1 : Int) := od_
        have q396 : x13_1 < (t393.length : Int) := od_
        obtain ⟨ad396, e396, hx396_0⟩ := Kd.at_int (Kd.R_reads' HO_11.out).2.2 x13_1 p396 q396
        cases e396
        replace p396 := eq_true p396
        replace q396 := eq_true q396
        have hcz13_0 := cz_ BK392 0 (.slice A0_0 l0_0.length c0_0)
        have hcz13_1 := cz_ BK392 1 (.int .i64 a0_1)
        have hcz13_2 := cz_ BK392 2 (.int .i64 a0_2)
        have hcz13_3 := cz_ BK392 3 (.slice A0_3 l0_3.length c0_3)
        have hfz13_0 := fz_ BK392 0
        have hfz13_1 := fz_ BK392 1
        have hfz13_2 := fz_ BK392 2
        have hfz13_3 := fz_ BK392 3
        have p397 : 0 ≤ ((rd t393 x13_1) : Int) := od_
        have q397 : (rd t393 x13_1) < (l0_3.length : Int) := od_
        obtain ⟨ad397, A397_0, c397_0, A397_2, c397_2, A397_8, c397_8, e397, hx397_0, hx397_1, hx397_2, hx397_3, hx397_4, hx397_5, hx397_6, hx397_7, hx397_8, hl397_0, hi397_0, hl397_2, hi397_2, hl397_8, hi397_8⟩ := at_T126 HR0_3.out (rd t393 x13_1) p397 q397
        cases e397
        replace hx397_0 := kc_ HB hx397_0
        replace hx397_1 := kc_ HB hx397_1
        replace hx397_2 := kc_ HB hx397_2
        replace hx397_3 := kc_ HB hx397_3
        replace hx397_4 := kc_ HB hx397_4
        replace hx397_5 := kc_ HB hx397_5
        replace hx397_6 := kc_ HB hx397_6
        replace hx397_7 := kc_ HB hx397_7
        replace hx397_8 := kc_ HB hx397_8
        have HR397_0 := Aside0.mk hi397_0
        have HC397_0 := Aside0.mk hl397_0
        clear hi397_0 hl397_0
        have HR397_2 := Aside0.mk hi397_2
        have HC397_2 := Aside0.mk hl397_2
        clear hi397_2 hl397_2
        have HR397_8 := Aside0.mk hi397_8
        have HC397_8 := Aside0.mk hl397_8
        clear hi397_8 hl397_8
        replace p397 := eq_true p397
        replace q397 := eq_true q397
        go_upto_region 6 with (first | ((with_reducible refine gate_dst (N := 6) rfl ?_); refine be_ (N := 6) (cs := #[.slice none 0 0, .int .i64 0, .slice none 0 0, .int .i64 0, .int .i64 0, .int .i64 0, .int .i64 0, .int .i64 0, .slice none 0 0]) (t := 126) ?_; intro gb398 hg w14 hbox hb; replace HO_3 := Aside0.mk (Kd.R_below (ra_ HO_3) hb); replace HO_11 := Aside0.mk (Kd.R_below (ra_ HO_11) hb); have BK398 := Aside0.mk (hbox); have GW398 := gw_ (w := w) hg; have GE398 := gw_ (w := w) hg; replace HB := Aside0.mk (below_step bl_ hb); have NB392_398 := Aside0.mk ((by rw [hg]; exact Nat.ne_of_lt (blk_lt (bk_ BK392)) : gb392 ≠ gb398)); have NB398_392 := Aside0.mk ((by rw [hg]; exact Nat.ne_of_gt (blk_lt (bk_ BK392)) : gb398 ≠ gb392)); replace BK392 := Aside0.mk (blk_below (bk_ BK392) hb); clear hb hbox hg; have hnb15 := NB398_392.out; have hnc15 := NB392_398.out; obtain ⟨hcz16_0, hcz16_1, hcz16_2, hcz16_3, hcz16_4, hcz16_5, hcz16_6, hcz16_7, hcz16_8, hfz16_0, hfz16_1, hfz16_2, hfz16_3, hfz16_4, hfz16_5, hfz16_6, hfz16_7, hfz16_8⟩ := bx9_ BK398))
        (try simp only [Act.put, List.setIfInBounds_toArray, List.set_cons_zero, List.set_cons_succ])
        go_cut [58] (fun v58 wc => ∃ (kq : Nat) (x58_11 : Bool), v58 = .bool x58_11 ∧ Aside0 (impl_InOrder.j1 kq t393 t393 (t393.length : Int) x13_1 x58_11 l0_0 a0_1 a0_2 l0_3 ((rd_T126 l0_3 (rd t393 x13_1)).f0) ((rd_T126 l0_3 (rd t393 x13_1)).f1) ((rd_T126 l0_3 (rd t393 x13_1)).f2) ((rd_T126 l0_3 (rd t393 x13_1)).f3) ((rd_T126 l0_3 (rd t393 x13_1)).f4) ((rd_T126 l0_3 (rd t393 x13_1)).f5) ((rd_T126 l0_3 (rd t393 x13_1)).f6) ((rd_T126 l0_3 (rd t393 x13_1)).f7) ((rd_T126 l0_3 (rd t393 x13_1)).f8) = some r) ∧ Aside0 (kq ≤ k1) ∧ Aside0 (Kd.R (Kd.int .i64) 3 wc w.heap.size (fun _ => True) (.slice (some ad396) t393.length co6) t393) ∧ Aside0 (Kd.R (Kd.int .i64) 3 wc w.heap.size (fun _ => True) (.slice (some ad396) t393.length co6) t393) ∧ Aside0 (wc.heap[gb392]? = some (.cells #[(.slice A0_0 l0_0.length c0_0), .int .i64 a0_1, .int .i64 a0_2, (.slice (some ad397) l0_3.length c0_3)] 56 (0, 0))) ∧ Aside0 (wc.heap[gb398]? = some (.cells #[(.slice A397_0 ((rd_T126 l0_3 (rd t393 x13_1)).f0).length c397_0), .int .i64 ((rd_T126 l0_3 (rd t393 x13_1)).f1), (.slice A397_2 ((rd_T126 l0_3 (rd t393 x13_1)).f2).length c397_2), .int .i64 ((rd_T126 l0_3 (rd t393 x13_1)).f3), .int .i64 ((rd_T126 l0_3 (rd t393 x13_1)).f4), .int .i64 ((rd_T126 l0_3 (rd t393 x13_1)).f5), .int .i64 ((rd_T126 l0_3 (rd t393 x13_1)).f6), .int .i64 ((rd_T126 l0_3 (rd t393 x13_1)).f7), (.slice A397_8 ((rd_T126 l0_3 (rd t393 x13_1)).f8).length c397_8)] 126 (0, 0))) ∧ Aside0 (Below w.heap.size w wc))
        case first =>
         have H := HC12.out
         clear HC12
         by_cases c17 : x13_1 > 0
         ·rw [if_pos c17] at H
          have c17b0 : decide (0 < x13_1) = true := decide_eq_true c17
          clear c17
          (first | rw [c17b0] | (simp only [i64_w, i32_w]; rw [c17b0]) | skip)
          obtain ⟨ji18, hji18⟩ : ∃ j_ : Int, (wrap64 (x13_1 - 1)) = j_ := ⟨_, rfl⟩
          replace H : (if 0 ≤ (ji18) then (if (ji18) < (t393.length : Int) then (if 0 ≤ (rd t393 (ji18)) then (if (rd t393 (ji18)) < (l0_3.length : Int) then (if ((rd_T126 l0_3 (rd t393 x13_1)).f7) < ((rd_T126 l0_3 (rd t393 (ji18))).f7) then (impl_InOrder.j1 k1 t393 t393 (t393.length : Int) x13_1 true l0_0 a0_1 a0_2 l0_3 ((rd_T126 l0_3 (rd t393 x13_1)).f0) ((rd_T126 l0_3 (rd t393 x13_1)).f1) ((rd_T126 l0_3 (rd t393 x13_1)).f2) ((rd_T126 l0_3 (rd t393 x13_1)).f3) ((rd_T126 l0_3 (rd t393 x13_1)).f4) ((rd_T126 l0_3 (rd t393 x13_1)).f5) ((rd_T126 l0_3 (rd t393 x13_1)).f6) ((rd_T126 l0_3 (rd t393 x13_1)).f7) ((rd_T126 l0_3 (rd t393 x13_1)).f8)) else (if ((rd_T126 l0_3 (rd t393 x13_1)).f5) < ((rd_T126 l0_3 (rd t393 x13_1)).f4) then (impl_InOrder.j1 k1 t393 t393 (t393.length : Int) x13_1 true l0_0 a0_1 a0_2 l0_3 ((rd_T126 l0_3 (rd t393 x13_1)).f0) ((rd_T126 l0_3 (rd t393 x13_1)).f1) ((rd_T126 l0_3 (rd t393 x13_1)).f2) ((rd_T126 l0_3 (rd t393 x13_1)).f3) ((rd_T126 l0_3 (rd t393 x13_1)).f4) ((rd_T126 l0_3 (rd t393 x13_1)).f5) ((rd_T126 l0_3 (rd t393 x13_1)).f6) ((rd_T126 l0_3 (rd t393 x13_1)).f7) ((rd_T126 l0_3 (rd t393 x13_1)).f8)) else (if ((rd_T126 l0_3 (rd t393 x13_1)).f6) = (-1) then (impl_InOrder.j1 k1 t393 t393 (t393.length : Int) x13_1 false l0_0 a0_1 a0_2 l0_3 ((rd_T126 l0_3 (rd t393 x13_1)).f0) ((rd_T126 l0_3 (rd t393 x13_1)).f1) ((rd_T126 l0_3 (rd t393 x13_1)).f2) ((rd_T126 l0_3 (rd t393 x13_1)).f3) ((rd_T126 l0_3 (rd t393 x13_1)).f4) ((rd_T126 l0_3 (rd t393 x13_1)).f5) ((rd_T126 l0_3 (rd t393 x13_1)).f6) ((rd_T126 l0_3 (rd t393 x13_1)).f7) ((rd_T126 l0_3 (rd t393 x13_1)).f8)) else (impl_InOrder.j1 k1 t393 t393 (t393.length : Int) x13_1 (decide (((rd_T126 l0_3 (rd t393 x13_1)).f5) > ((rd_T126 l0_3 (rd t393 x13_1)).f6))) l0_0 a0_1 a0_2 l0_3 ((rd_T126 l0_3 (rd t393 x13_1)).f0) ((rd_T126 l0_3 (rd t393 x13_1)).f1) ((rd_T126 l0_3 (rd t393 x13_1)).f2) ((rd_T126 l0_3 (rd t393 x13_1)).f3) ((rd_T126 l0_3 (rd t393 x13_1)).f4) ((rd_T126 l0_3 (rd t393 x13_1)).f5) ((rd_T126 l0_3 (rd t393 x13_1)).f6) ((rd_T126 l0_3 (rd t393 x13_1)).f7) ((rd_T126 l0_3 (rd t393 x13_1)).f8))))) else (none)) else (none)) else (none)) else (none)) = some r := by first | (rw [hji18] at H; exact H) | (simp only [hji18] at H ⊢; exact H)
          have hji18w : (IntKind.i64.wrap (x13_1 - 1)) = ji18 := (i64_w _).trans hji18
          by_cases c19 : 0 ≤ (ji18)
          ·rw [if_pos c19] at H
           have c19b0 : decide (0 ≤ (ji18)) = true := decide_eq_true c19
           clear c19
           by_cases c20 : (ji18) < (t393.length : Int)
           ·rw [if_pos c20] at H
            have c20b0 : decide ((ji18) < (t393.length : Int)) = true := decide_eq_true c20
            clear c20
            by_cases c21 : 0 ≤ (rd t393 (ji18))
            ·rw [if_pos c21] at H
             have c21b0 : decide (0 ≤ (rd t393 (ji18))) = true := decide_eq_true c21
             clear c21
             by_cases c22 : (rd t393 (ji18)) < (l0_3.length : Int)
             ·rw [if_pos c22] at H
              have c22b0 : decide ((rd t393 (ji18)) < (l0_3.length : Int)) = true := decide_eq_true c22
              clear c22
              by_cases c23 : ((rd_T126 l0_3 (rd t393 x13_1)).f7) < ((rd_T126 l0_3 (rd t393 (ji18))).f7)
              ·rw [if_pos c23] at H
               have c23b0 : decide (((rd_T126 l0_3 (rd t393 x13_1)).f7) < ((rd_T126 l0_3 (rd t393 (ji18))).f7)) = true := decide_eq_true c23
               clear c23
               have H' := Aside0.mk H
               clear H
               try go_wp2
               have n0_ := Aside0.mk (Kd.R_mono (ok' := fun _ => True) (Kd.R_far (p := ⟨gb398, 8, none⟩) (Kd.R_far (p := ⟨gb398, 7, none⟩) (Kd.R_far (p := ⟨gb398, 6, none⟩) (Kd.R_far (p := ⟨gb398, 5, none⟩) (Kd.R_far (p := ⟨gb398, 4, none⟩) (Kd.R_far (p := ⟨gb398, 3, none⟩) (Kd.R_far (p := ⟨gb398, 2, none⟩) (Kd.R_far (p := ⟨gb398, 1, none⟩) (Kd.R_far (p := ⟨gb398, 0, none⟩) (Kd.R_types HO_3.out BK398.out (by decide)) (fun _ hk => hk.2) (.slice A397_0 ((rd_T126 l0_3 (rd t393 x13_1)).f0).length c397_0)) (fun _ hk => hk.2) (.int .i64 ((rd_T126 l0_3 (rd t393 x13_1)).f1))) (fun _ hk => hk.2) (.slice A397_2 ((rd_T126 l0_3 (rd t393 x13_1)).f2).length c397_2)) (fun _ hk => hk.2) (.int .i64 ((rd_T126 l0_3 (rd t393 x13_1)).f3))) (fun _ hk => hk.2) (.int .i64 ((rd_T126 l0_3 (rd t393 x13_1)).f4))) (fun _ hk => hk.2) (.int .i64 ((rd_T126 l0_3 (rd t393 x13_1)).f5))) (fun _ hk => hk.2) (.int .i64 ((rd_T126 l0_3 (rd t393 x13_1)).f6))) (fun _ hk => hk.2) (.int .i64 ((rd_T126 l0_3 (rd t393 x13_1)).f7))) (fun _ hk => hk.2) (.slice A397_8 ((rd_T126 l0_3 (rd t393 x13_1)).f8).length c397_8)) (fun _ hk => trivial))
               have n1_ := Aside0.mk (Kd.R_mono (ok' := fun _ => True) (Kd.R_far (p := ⟨gb398, 8, none⟩) (Kd.R_far (p := ⟨gb398, 7, none⟩) (Kd.R_far (p := ⟨gb398, 6, none⟩) (Kd.R_far (p := ⟨gb398, 5, none⟩) (Kd.R_far (p := ⟨gb398, 4, none⟩) (Kd.R_far (p := ⟨gb398, 3, none⟩) (Kd.R_far (p := ⟨gb398, 2, none⟩) (Kd.R_far (p := ⟨gb398, 1, none⟩) (Kd.R_far (p := ⟨gb398, 0, none⟩) (Kd.R_types HO_11.out BK398.out (by decide)) (fun _ hk => hk.2) (.slice A397_0 ((rd_T126 l0_3 (rd t393 x13_1)).f0).length c397_0)) (fun _ hk => hk.2) (.int .i64 ((rd_T126 l0_3 (rd t393 x13_1)).f1))) (fun _ hk => hk.2) (.slice A397_2 ((rd_T126 l0_3 (rd t393 x13_1)).f2).length c397_2)) (fun _ hk => hk.2) (.int .i64 ((rd_T126 l0_3 (rd t393 x13_1)).f3))) (fun _ hk => hk.2) (.int .i64 ((rd_T126 l0_3 (rd t393 x13_1)).f4))) (fun _ hk => hk.2) (.int .i64 ((rd_T126 l0_3 (rd t393 x13_1)).f5))) (fun _ hk => hk.2) (.int .i64 ((rd_T126 l0_3 (rd t393 x13_1)).f6))) (fun _ hk => hk.2) (.int .i64 ((rd_T126 l0_3 (rd t393 x13_1)).f7))) (fun _ hk => hk.2) (.slice A397_8 ((rd_T126 l0_3 (rd t393 x13_1)).f8).length c397_8)) (fun _ hk => trivial))
               have n2_ : Aside0 ((((((((((w14.setCell ⟨gb398, 0, none⟩ (.slice A397_0 ((rd_T126 l0_3 (rd t393 x13_1)).f0).length c397_0)).setCell ⟨gb398, 1, none⟩ (.int .i64 ((rd_T126 l0_3 (rd t393 x13_1)).f1))).setCell ⟨gb398, 2, none⟩ (.slice A397_2 ((rd_T126 l0_3 (rd t393 x13_1)).f2).length c397_2)).setCell ⟨gb398, 3, none⟩ (.int .i64 ((rd_T126 l0_3 (rd t393 x13_1)).f3))).setCell ⟨gb398, 4, none⟩ (.int .i64 ((rd_T126 l0_3 (rd t393 x13_1)).f4))).setCell ⟨gb398, 5, none⟩ (.int .i64 ((rd_T126 l0_3 (rd t393 x13_1)).f5))).setCell ⟨gb398, 6, none⟩ (.int .i64 ((rd_T126 l0_3 (rd t393 x13_1)).f6))).setCell ⟨gb398, 7, none⟩ (.int .i64 ((rd_T126 l0_3 (rd t393 x13_1)).f7))).setCell ⟨gb398, 8, none⟩ (.slice A397_8 ((rd_T126 l0_3 (rd t393 x13_1)).f8).length c397_8)).heap[gb392]? = some (.cells #[.slice A0_0 l0_0.length c0_0, .int .i64 a0_1, .int .i64 a0_2, .slice (some ad397) l0_3.length c0_3] 56 (0, 0))) := ⟨by (repeat (with_reducible refine blk_far ?_ NB392_398.out _)); exact BK392.out⟩
               have n3_ : Aside0 ((((((((((w14.setCell ⟨gb398, 0, none⟩ (.slice A397_0 ((rd_T126 l0_3 (rd t393 x13_1)).f0).length c397_0)).setCell ⟨gb398, 1, none⟩ (.int .i64 ((rd_T126 l0_3 (rd t393 x13_1)).f1))).setCell ⟨gb398, 2, none⟩ (.slice A397_2 ((rd_T126 l0_3 (rd t393 x13_1)).f2).length c397_2)).setCell ⟨gb398, 3, none⟩ (.int .i64 ((rd_T126 l0_3 (rd t393 x13_1)).f3))).setCell ⟨gb398, 4, none⟩ (.int .i64 ((rd_T126 l0_3 (rd t393 x13_1)).f4))).setCell ⟨gb398, 5, none⟩ (.int .i64 ((rd_T126 l0_3 (rd t393 x13_1)).f5))).setCell ⟨gb398, 6, none⟩ (.int .i64 ((rd_T126 l0_3 (rd t393 x13_1)).f6))).setCell ⟨gb398, 7, none⟩ (.int .i64 ((rd_T126 l0_3 (rd t393 x13_1)).f7))).setCell ⟨gb398, 8, none⟩ (.slice A397_8 ((rd_T126 l0_3 (rd t393 x13_1)).f8).length c397_8)).heap[gb398]? = some (.cells #[.slice A397_0 ((rd_T126 l0_3 (rd t393 x13_1)).f0).length c397_0, .int .i64 ((rd_T126 l0_3 (rd t393 x13_1)).f1), .slice A397_2 ((rd_T126 l0_3 (rd t393 x13_1)).f2).length c397_2, .int .i64 ((rd_T126 l0_3 (rd t393 x13_1)).f3), .int .i64 ((rd_T126 l0_3 (rd t393 x13_1)).f4), .int .i64 ((rd_T126 l0_3 (rd t393 x13_1)).f5), .int .i64 ((rd_T126 l0_3 (rd t393 x13_1)).f6), .int .i64 ((rd_T126 l0_3 (rd t393 x13_1)).f7), .slice A397_8 ((rd_T126 l0_3 (rd t393 x13_1)).f8).length c397_8] 126 (0, 0))) := ⟨by (with_reducible repeat (first | refine blk_drewN ?_ _ | refine blk_drew ?_ | refine blk_alloc ?_ _)); apply bq9_8_7_6_5_4_3_2_1_0_; (with_reducible repeat (first | refine blk_drewN ?_ _ | refine blk_drew ?_ | refine blk_alloc ?_ _)); exact BK398.out⟩
               have n4_ : Aside0 (Below w.heap.size w (((((((((w14.setCell ⟨gb398, 0, none⟩ (.slice A397_0 ((rd_T126 l0_3 (rd t393 x13_1)).f0).length c397_0)).setCell ⟨gb398, 1, none⟩ (.int .i64 ((rd_T126 l0_3 (rd t393 x13_1)).f1))).setCell ⟨gb398, 2, none⟩ (.slice A397_2 ((rd_T126 l0_3 (rd t393 x13_1)).f2).length c397_2)).setCell ⟨gb398, 3, none⟩ (.int .i64 ((rd_T126 l0_3 (rd t393 x13_1)).f3))).setCell ⟨gb398, 4, none⟩ (.int .i64 ((rd_T126 l0_3 (rd t393 x13_1)).f4))).setCell ⟨gb398, 5, none⟩ (.int .i64 ((rd_T126 l0_3 (rd t393 x13_1)).f5))).setCell ⟨gb398, 6, none⟩ (.int .i64 ((rd_T126 l0_3 (rd t393 x13_1)).f6))).setCell ⟨gb398, 7, none⟩ (.int .i64 ((rd_T126 l0_3 (rd t393 x13_1)).f7))).setCell ⟨gb398, 8, none⟩ (.slice A397_8 ((rd_T126 l0_3 (rd t393 x13_1)).f8).length c397_8))) := ⟨bl_⟩
               (try clear HO_3)
               (try clear HO_11)
               (try clear BK392)
               (try clear BK398)
               (try clear HB)
               generalize (((((((((w14.setCell ⟨gb398, 0, none⟩ (.slice A397_0 ((rd_T126 l0_3 (rd t393 x13_1)).f0).length c397_0)).setCell ⟨gb398, 1, none⟩ (.int .i64 ((rd_T126 l0_3 (rd t393 x13_1)).f1))).setCell ⟨gb398, 2, none⟩ (.slice A397_2 ((rd_T126 l0_3 (rd t393 x13_1)).f2).length c397_2)).setCell ⟨gb398, 3, none⟩ (.int .i64 ((rd_T126 l0_3 (rd t393 x13_1)).f3))).setCell ⟨gb398, 4, none⟩ (.int .i64 ((rd_T126 l0_3 (rd t393 x13_1)).f4))).setCell ⟨gb398, 5, none⟩ (.int .i64 ((rd_T126 l0_3 (rd t393 x13_1)).f5))).setCell ⟨gb398, 6, none⟩ (.int .i64 ((rd_T126 l0_3 (rd t393 x13_1)).f6))).setCell ⟨gb398, 7, none⟩ (.int .i64 ((rd_T126 l0_3 (rd t393 x13_1)).f7))).setCell ⟨gb398, 8, none⟩ (.slice A397_8 ((rd_T126 l0_3 (rd t393 x13_1)).f8).length c397_8)) = w24 at n0_ n1_ n2_ n3_ n4_ ⊢
               have HO_3 := n0_
               have HO_11 := n1_
               have BK392 := n2_
               have BK398 := n3_
               have HB := n4_
               clear n0_ n1_ n2_ n3_ n4_
               have n0_ := Aside0.mk (Kd.R_drew HO_3.out)
               have n1_ := Aside0.mk (Kd.R_drew HO_11.out)
               have n2_ := Aside0.mk (blk_drew BK392.out)
               have n3_ := Aside0.mk (blk_drew BK398.out)
               have n4_ := Aside0.mk (below_drew1 HB.out)
               clear HO_3
               clear HO_11
               clear BK392
               clear BK398
               clear HB
               have HO_3 := n0_
               have HO_11 := n1_
               have BK392 := n2_
               have BK398 := n3_
               have HB := n4_
               clear n0_ n1_ n2_ n3_ n4_
               have p399 : 0 ≤ ((ji18) : Int) := od_
               have q399 : (ji18) < (t393.length : Int) := od_
               obtain ⟨ad399, e399, hx399_0⟩ := Kd.at_int (Kd.R_reads' HO_3.out).2.2 (ji18) p399 q399
               obtain rfl : ad396 = ad399 := (by injection e399)
               replace p399 := eq_true p399
               replace q399 := eq_true q399
               have p400 : 0 ≤ ((rd t393 (ji18)) : Int) := od_
               have q400 : (rd t393 (ji18)) < (l0_3.length : Int) := od_
               obtain ⟨ad400, A400_0, c400_0, A400_2, c400_2, A400_8, c400_8, e400, hx400_0, hx400_1, hx400_2, hx400_3, hx400_4, hx400_5, hx400_6, hx400_7, hx400_8, hl400_0, hi400_0, hl400_2, hi400_2, hl400_8, hi400_8⟩ := at_T126 HR0_3.out (rd t393 (ji18)) p400 q400
               have hw400_8 := hx400_8
               have hw400_7 := hx400_7
               have hw400_6 := hx400_6
               have hw400_5 := hx400_5
               have hw400_4 := hx400_4
               have hw400_3 := hx400_3
               have hw400_2 := hx400_2
               have hw400_1 := hx400_1
               have hw400_0 := hx400_0
               obtain rfl : ad397 = ad400 := (by injection e400)
               replace hx400_0 := kc_ HB hx400_0
               replace hx400_1 := kc_ HB hx400_1
               replace hx400_2 := kc_ HB hx400_2
               replace hx400_3 := kc_ HB hx400_3
               replace hx400_4 := kc_ HB hx400_4
               replace hx400_5 := kc_ HB hx400_5
               replace hx400_6 := kc_ HB hx400_6
               replace hx400_7 := kc_ HB hx400_7
               replace hx400_8 := kc_ HB hx400_8
               have HR400_0 := Aside0.mk hi400_0
               have HC400_0 := Aside0.mk hl400_0
               clear hi400_0 hl400_0
               have HR400_2 := Aside0.mk hi400_2
               have HC400_2 := Aside0.mk hl400_2
               clear hi400_2 hl400_2
               have HR400_8 := Aside0.mk hi400_8
               have HC400_8 := Aside0.mk hl400_8
               clear hi400_8 hl400_8
               replace p400 := eq_true p400
               replace q400 := eq_true q400
               refine start_ (n := 36) (S := fun w' => w'.cell? ⟨gb398, 0, none⟩ = some (.slice A397_0 ((rd_T126 l0_3 (rd t393 x13_1)).f0).length c397_0) ∧ w'.cell? ⟨gb398, 1, none⟩ = some (.int .i64 ((rd_T126 l0_3 (rd t393 x13_1)).f1)) ∧ w'.cell? ⟨gb398, 2, none⟩ = some (.slice A397_2 ((rd_T126 l0_3 (rd t393 x13_1)).f2).length c397_2) ∧ w'.cell? ⟨gb398, 3, none⟩ = some (.int .i64 ((rd_T126 l0_3 (rd t393 x13_1)).f3)) ∧ w'.cell? ⟨gb398, 4, none⟩ = some (.int .i64 ((rd_T126 l0_3 (rd t393 x13_1)).f4)) ∧ w'.cell? ⟨gb398, 5, none⟩ = some (.int .i64 ((rd_T126 l0_3 (rd t393 x13_1)).f5)) ∧ w'.cell? ⟨gb398, 6, none⟩ = some (.int .i64 ((rd_T126 l0_3 (rd t393 x13_1)).f6)) ∧ w'.cell? ⟨gb398, 7, none⟩ = some (.int .i64 ((rd_T126 l0_3 (rd t393 x13_1)).f7)) ∧ w'.cell? ⟨gb398, 8, none⟩ = some (.slice A397_8 ((rd_T126 l0_3 (rd t393 x13_1)).f8).length c397_8) ∧ w'.cell? ⟨gb392, 0, none⟩ = some (.slice A0_0 l0_0.length c0_0) ∧ w'.cell? ⟨gb392, 1, none⟩ = some (.int .i64 a0_1) ∧ w'.cell? ⟨gb392, 2, none⟩ = some (.int .i64 a0_2) ∧ w'.cell? ⟨gb392, 3, none⟩ = some (.slice (some ad397) l0_3.length c0_3) ∧ w'.cell? (ad396.add ((ji18)).toNat) = some (.int .i64 (rd t393 (ji18))) ∧ w'.cell? (ad397.add (((rd t393 (ji18))).toNat * 9)) = some (.slice A400_0 ((rd_T126 l0_3 (rd t393 (ji18))).f0).length c400_0) ∧ w'.cell? ⟨(ad397.add (((rd t393 (ji18))).toNat * 9)).block, (ad397.add (((rd t393 (ji18))).toNat * 9)).off + 1, none⟩ = some (.int .i64 ((rd_T126 l0_3 (rd t393 (ji18))).f1)) ∧ w'.cell? ⟨(ad397.add (((rd t393 (ji18))).toNat * 9)).block, (ad397.add (((rd t393 (ji18))).toNat * 9)).off + 2, none⟩ = some (.slice A400_2 ((rd_T126 l0_3 (rd t393 (ji18))).f2).length c400_2) ∧ w'.cell? ⟨(ad397.add (((rd t393 (ji18))).toNat * 9)).block, (ad397.add (((rd t393 (ji18))).toNat * 9)).off + 3, none⟩ = some (.int .i64 ((rd_T126 l0_3 (rd t393 (ji18))).f3)) ∧ w'.cell? ⟨(ad397.add (((rd t393 (ji18))).toNat * 9)).block, (ad397.add (((rd t393 (ji18))).toNat * 9)).off + 4, none⟩ = some (.int .i64 ((rd_T126 l0_3 (rd t393 (ji18))).f4)) ∧ w'.cell? ⟨(ad397.add (((rd t393 (ji18))).toNat * 9)).block, (ad397.add (((rd t393 (ji18))).toNat * 9)).off + 5, none⟩ = some (.int .i64 ((rd_T126 l0_3 (rd t393 (ji18))).f5)) ∧ w'.cell? ⟨(ad397.add (((rd t393 (ji18))).toNat * 9)).block, (ad397.add (((rd t393 (ji18))).toNat * 9)).off + 6, none⟩ = some (.int .i64 ((rd_T126 l0_3 (rd t393 (ji18))).f6)) ∧ w'.cell? ⟨(ad397.add (((rd t393 (ji18))).toNat * 9)).block, (ad397.add (((rd t393 (ji18))).toNat * 9)).off + 7, none⟩ = some (.int .i64 ((rd_T126 l0_3 (rd t393 (ji18))).f7)) ∧ w'.cell? ⟨(ad397.add (((rd t393 (ji18))).toNat * 9)).block, (ad397.add (((rd t393 (ji18))).toNat * 9)).off + 8, none⟩ = some (.slice A400_8 ((rd_T126 l0_3 (rd t393 (ji18))).f8).length c400_8)) (ds := []) tb36_0_11 (by kernel_rfl) rfl rfl ⟨cy_ BK398 0, cy_ BK398 1, cy_ BK398 2, cy_ BK398 3, cy_ BK398 4, cy_ BK398 5, cy_ BK398 6, cy_ BK398 7, cy_ BK398 8, cy_ BK392 0, cy_ BK392 1, cy_ BK392 2, cy_ BK392 3, hx399_0, (kc_ HB hw400_0), (kc_ HB hw400_1), (kc_ HB hw400_2), (kc_ HB hw400_3), (kc_ HB hw400_4), (kc_ HB hw400_5), (kc_ HB hw400_6), (kc_ HB hw400_7), (kc_ HB hw400_8)⟩ (fun hHeld => ?_); refine with_tabW impl_InOrder.tab6 impl_InOrder.bits6 (fun HT_ HW_ => ?_)
               generalize w24.drew = w25 at HO_3 HO_11 BK392 BK398 HB HR400_0 HR400_2 HR400_8 hx399_0 hx400_0 hx400_1 hx400_2 hx400_3 hx400_4 hx400_5 hx400_6 hx400_7 hx400_8 hHeld ⊢
               refine pl_ HT_ 0 23 tb36_1_11 ?_
               refine pl_ HT_ 1 24 tb36_3_11 ?_
               refine pl_ HT_ 2 25 tb36_7_11 ?_
               refine pl_ HT_ 3 26 tb36_f_11 ?_
               refine pl_ HT_ 5 28 tb36_2f_11 ?_
               refine pl_ HT_ 7 30 tb36_af_11 ?_
               refine pl_ HT_ 8 31 tb36_1af_11 ?_
               refine pl_ HT_ 9 32 tb36_3af_11 ?_
               refine pl_ HT_ 10 33 tb36_7af_11 ?_
               refine take_ (i := 4) (N := some 27) (v := ?_) (a' := ?_) tb36_7bf_11 rfl rfl (take_ofW HT_.out HW_.out (by kernel_rfl)) (fun _ _ _ h => h) (Or.inl ⟨by rfl, ?_⟩) hHeld ?_ ?_
               rotate_left
               ·rintro w' ⟨s0, s1, s2, s3, s4, s5, s6, s7, s8, s9, s10, s11, s12, s13, s14, s15, s16, s17, s18, s19, s20, s21, s22⟩
                go_simp
                with_reducible rfl
               rotate_left
               ·simp only [Act.put, q_]
                rfl
               refine take_ (i := 6) (N := some 29) (v := ?_) (a' := ?_) tb36_7ff_11 rfl rfl (take_ofW HT_.out HW_.out (by kernel_rfl)) (fun _ _ _ h => h) (Or.inl ⟨by rfl, ?_⟩) hHeld ?_ ?_
               rotate_left
               ·rintro w' ⟨s0, s1, s2, s3, s4, s5, s6, s7, s8, s9, s10, s11, s12, s13, s14, s15, s16, s17, s18, s19, s20, s21, s22⟩
                go_simp
                with_reducible rfl
               rotate_left
               ·simp only [Act.put, q_]
                rfl
               refine take_ (i := 11) (N := some 34) (v := ?_) (a' := ?_) tb36_fff_11 rfl rfl (take_ofW HT_.out HW_.out (by kernel_rfl)) (fun _ _ _ h => h) (Or.inl ⟨by rfl, ?_⟩) hHeld ?_ ?_
               rotate_left
               ·rintro w' ⟨s0, s1, s2, s3, s4, s5, s6, s7, s8, s9, s10, s11, s12, s13, s14, s15, s16, s17, s18, s19, s20, s21, s22⟩
                go_simp
                with_reducible rfl
               rotate_left
               ·simp only [Act.put, q_]
                rfl
               refine pl_ HT_ 12 35 tb36_1fff_11 ?_
               refine pl_ HT_ 13 36 tb36_3fff_11 ?_
               refine take_ (i := 14) (N := some 37) (v := ?_) (a' := ?_) tb36_7fff_11 rfl rfl (take_ofW HT_.out HW_.out (by kernel_rfl)) (fun _ _ _ h => h) (Or.inl ⟨by rfl, ?_⟩) hHeld ?_ ?_
               rotate_left
               ·rintro w' ⟨s0, s1, s2, s3, s4, s5, s6, s7, s8, s9, s10, s11, s12, s13, s14, s15, s16, s17, s18, s19, s20, s21, s22⟩
                go_simp
                with_reducible rfl
               rotate_left
               ·simp only [Act.put, q_]
                rfl
               refine pl_ HT_ 15 38 tb36_ffff_11 ?_
               refine pl_ HT_ 16 39 tb36_1ffff_11 ?_
               refine pl_ HT_ 17 40 tb36_3ffff_11 ?_
               refine pr_ HT_ 18 41 tb36_7ffff_11 ?_
               refine pr_ HT_ 19 42 tb36_fffff_11 ?_
               refine pr_ HT_ 20 43 tb36_1fffff_11 ?_
               refine pr_ HT_ 21 44 tb36_3fffff_11 ?_
               refine pr_ HT_ 22 45 tb36_7fffff_11 ?_
               refine pl_ HT_ 23 46 tb36_ffffff_11 ?_
               refine pl_ HT_ 24 47 tb36_1ffffff_11 ?_
               refine pr_ HT_ 25 48 tb36_3ffffff_11 ?_
               refine pr_ HT_ 26 49 tb36_7ffffff_11 ?_
               refine pr_ HT_ 27 50 tb36_fffffff_11 ?_
               refine pr_ HT_ 28 51 tb36_1fffffff_11 ?_
               refine pr_ HT_ 29 52 tb36_3fffffff_11 ?_
               refine pr_ HT_ 30 53 tb36_7fffffff_11 ?_
               refine pr_ HT_ 31 54 tb36_ffffffff_11 ?_
               refine pr_ HT_ 32 55 tb36_1ffffffff_11 ?_
               refine pr_ HT_ 33 56 tb36_3ffffffff_11 ?_
               refine pr_ HT_ 34 57 tb36_7ffffffff_11 ?_
               refine pl_ HT_ 35 58 tb36_fffffffff_11 ?_
               refine done_ (done_of HT_.out (by kernel_rfl)) ?_
               try go_wp2
               go_meet
               case rel => exact ⟨_, (true), sp_, H', ⟨by have := HK1.out; first | omega | exact Nat.le_refl _⟩, ⟨ra_ HO_3⟩, ⟨ra_ HO_11⟩, ⟨by (with_reducible repeat (first | refine blk_drewN ?_ _ | refine blk_drew ?_ | refine blk_alloc ?_ _)); exact BK392.out⟩, ⟨by (with_reducible repeat (first | refine blk_drewN ?_ _ | refine blk_drew ?_ | refine blk_alloc ?_ _)); exact BK398.out⟩, ⟨bl_⟩⟩
              ·rw [if_neg c23] at H
               have c23b0 : decide (((rd_T126 l0_3 (rd t393 x13_1)).f7) < ((rd_T126 l0_3 (rd t393 (ji18))).f7)) = false := decide_eq_false c23
               clear c23
               by_cases c26 : ((rd_T126 l0_3 (rd t393 x13_1)).f5) < ((rd_T126 l0_3 (rd t393 x13_1)).f4)
               ·rw [if_pos c26] at H
                have c26b0 : decide (((rd_T126 l0_3 (rd t393 x13_1)).f5) < ((rd_T126 l0_3 (rd t393 x13_1)).f4)) = true := decide_eq_true c26
                clear c26
                have H' := Aside0.mk H
                clear H
                try go_wp2
                have n0_ := Aside0.mk (Kd.R_mono (ok' := fun _ => True) (Kd.R_far (p := ⟨gb398, 8, none⟩) (Kd.R_far (p := ⟨gb398, 7, none⟩) (Kd.R_far (p := ⟨gb398, 6, none⟩) (Kd.R_far (p := ⟨gb398, 5, none⟩) (Kd.R_far (p := ⟨gb398, 4, none⟩) (Kd.R_far (p := ⟨gb398, 3, none⟩) (Kd.R_far (p := ⟨gb398, 2, none⟩) (Kd.R_far (p := ⟨gb398, 1, none⟩) (Kd.R_far (p := ⟨gb398, 0, none⟩) (Kd.R_types HO_3.out BK398.out (by decide)) (fun _ hk => hk.2) (.slice A397_0 ((rd_T126 l0_3 (rd t393 x13_1)).f0).length c397_0)) (fun _ hk => hk.2) (.int .i64 ((rd_T126 l0_3 (rd t393 x13_1)).f1))) (fun _ hk => hk.2) (.slice A397_2 ((rd_T126 l0_3 (rd t393 x13_1)).f2).length c397_2)) (fun _ hk => hk.2) (.int .i64 ((rd_T126 l0_3 (rd t393 x13_1)).f3))) (fun _ hk => hk.2) (.int .i64 ((rd_T126 l0_3 (rd t393 x13_1)).f4))) (fun _ hk => hk.2) (.int .i64 ((rd_T126 l0_3 (rd t393 x13_1)).f5))) (fun _ hk => hk.2) (.int .i64 ((rd_T126 l0_3 (rd t393 x13_1)).f6))) (fun _ hk => hk.2) (.int .i64 ((rd_T126 l0_3 (rd t393 x13_1)).f7))) (fun _ hk => hk.2) (.slice A397_8 ((rd_T126 l0_3 (rd t393 x13_1)).f8).length c397_8)) (fun _ hk => trivial))
                have n1_ := Aside0.mk (Kd.R_mono (ok' := fun _ => True) (Kd.R_far (p := ⟨gb398, 8, none⟩) (Kd.R_far (p := ⟨gb398, 7, none⟩) (Kd.R_far (p := ⟨gb398, 6, none⟩) (Kd.R_far (p := ⟨gb398, 5, none⟩) (Kd.R_far (p := ⟨gb398, 4, none⟩) (Kd.R_far (p := ⟨gb398, 3, none⟩) (Kd.R_far (p := ⟨gb398, 2, none⟩) (Kd.R_far (p := ⟨gb398, 1, none⟩) (Kd.R_far (p := ⟨gb398, 0, none⟩) (Kd.R_types HO_11.out BK398.out (by decide)) (fun _ hk => hk.2) (.slice A397_0 ((rd_T126 l0_3 (rd t393 x13_1)).f0).length c397_0)) (fun _ hk => hk.2) (.int .i64 ((rd_T126 l0_3 (rd t393 x13_1)).f1))) (fun _ hk => hk.2) (.slice A397_2 ((rd_T126 l0_3 (rd t393 x13_1)).f2).length c397_2)) (fun _ hk => hk.2) (.int .i64 ((rd_T126 l0_3 (rd t393 x13_1)).f3))) (fun _ hk => hk.2) (.int .i64 ((rd_T126 l0_3 (rd t393 x13_1)).f4))) (fun _ hk => hk.2) (.int .i64 ((rd_T126 l0_3 (rd t393 x13_1)).f5))) (fun _ hk => hk.2) (.int .i64 ((rd_T126 l0_3 (rd t393 x13_1)).f6))) (fun _ hk => hk.2) (.int .i64 ((rd_T126 l0_3 (rd t393 x13_1)).f7))) (fun _ hk => hk.2) (.slice A397_8 ((rd_T126 l0_3 (rd t393 x13_1)).f8).length c397_8)) (fun _ hk => trivial))
                have n2_ : Aside0 ((((((((((w14.setCell ⟨gb398, 0, none⟩ (.slice A397_0 ((rd_T126 l0_3 (rd t393 x13_1)).f0).length c397_0)).setCell ⟨gb398, 1, none⟩ (.int .i64 ((rd_T126 l0_3 (rd t393 x13_1)).f1))).setCell ⟨gb398, 2, none⟩ (.slice A397_2 ((rd_T126 l0_3 (rd t393 x13_1)).f2).length c397_2)).setCell ⟨gb398, 3, none⟩ (.int .i64 ((rd_T126 l0_3 (rd t393 x13_1)).f3))).setCell ⟨gb398, 4, none⟩ (.int .i64 ((rd_T126 l0_3 (rd t393 x13_1)).f4))).setCell ⟨gb398, 5, none⟩ (.int .i64 ((rd_T126 l0_3 (rd t393 x13_1)).f5))).setCell ⟨gb398, 6, none⟩ (.int .i64 ((rd_T126 l0_3 (rd t393 x13_1)).f6))).setCell ⟨gb398, 7, none⟩ (.int .i64 ((rd_T126 l0_3 (rd t393 x13_1)).f7))).setCell ⟨gb398, 8, none⟩ (.slice A397_8 ((rd_T126 l0_3 (rd t393 x13_1)).f8).length c397_8)).heap[gb392]? = some (.cells #[.slice A0_0 l0_0.length c0_0, .int .i64 a0_1, .int .i64 a0_2, .slice (some ad397) l0_3.length c0_3] 56 (0, 0))) := ⟨by (repeat (with_reducible refine blk_far ?_ NB392_398.out _)); exact BK392.out⟩
                have n3_ : Aside0 ((((((((((w14.setCell ⟨gb398, 0, none⟩ (.slice A397_0 ((rd_T126 l0_3 (rd t393 x13_1)).f0).length c397_0)).setCell ⟨gb398, 1, none⟩ (.int .i64 ((rd_T126 l0_3 (rd t393 x13_1)).f1))).setCell ⟨gb398, 2, none⟩ (.slice A397_2 ((rd_T126 l0_3 (rd t393 x13_1)).f2).length c397_2)).setCell ⟨gb398, 3, none⟩ (.int .i64 ((rd_T126 l0_3 (rd t393 x13_1)).f3))).setCell ⟨gb398, 4, none⟩ (.int .i64 ((rd_T126 l0_3 (rd t393 x13_1)).f4))).setCell ⟨gb398, 5, none⟩ (.int .i64 ((rd_T126 l0_3 (rd t393 x13_1)).f5))).setCell ⟨gb398, 6, none⟩ (.int .i64 ((rd_T126 l0_3 (rd t393 x13_1)).f6))).setCell ⟨gb398, 7, none⟩ (.int .i64 ((rd_T126 l0_3 (rd t393 x13_1)).f7))).setCell ⟨gb398, 8, none⟩ (.slice A397_8 ((rd_T126 l0_3 (rd t393 x13_1)).f8).length c397_8)).heap[gb398]? = some (.cells #[.slice A397_0 ((rd_T126 l0_3 (rd t393 x13_1)).f0).length c397_0, .int .i64 ((rd_T126 l0_3 (rd t393 x13_1)).f1), .slice A397_2 ((rd_T126 l0_3 (rd t393 x13_1)).f2).length c397_2, .int .i64 ((rd_T126 l0_3 (rd t393 x13_1)).f3), .int .i64 ((rd_T126 l0_3 (rd t393 x13_1)).f4), .int .i64 ((rd_T126 l0_3 (rd t393 x13_1)).f5), .int .i64 ((rd_T126 l0_3 (rd t393 x13_1)).f6), .int .i64 ((rd_T126 l0_3 (rd t393 x13_1)).f7), .slice A397_8 ((rd_T126 l0_3 (rd t393 x13_1)).f8).length c397_8] 126 (0, 0))) := ⟨by (with_reducible repeat (first | refine blk_drewN ?_ _ | refine blk_drew ?_ | refine blk_alloc ?_ _)); apply bq9_8_7_6_5_4_3_2_1_0_; (with_reducible repeat (first | refine blk_drewN ?_ _ | refine blk_drew ?_ | refine blk_alloc ?_ _)); exact BK398.out⟩
                have n4_ : Aside0 (Below w.heap.size w (((((((((w14.setCell ⟨gb398, 0, none⟩ (.slice A397_0 ((rd_T126 l0_3 (rd t393 x13_1)).f0).length c397_0)).setCell ⟨gb398, 1, none⟩ (.int .i64 ((rd_T126 l0_3 (rd t393 x13_1)).f1))).setCell ⟨gb398, 2, none⟩ (.slice A397_2 ((rd_T126 l0_3 (rd t393 x13_1)).f2).length c397_2)).setCell ⟨gb398, 3, none⟩ (.int .i64 ((rd_T126 l0_3 (rd t393 x13_1)).f3))).setCell ⟨gb398, 4, none⟩ (.int .i64 ((rd_T126 l0_3 (rd t393 x13_1)).f4))).setCell ⟨gb398, 5, none⟩ (.int .i64 ((rd_T126 l0_3 (rd t393 x13_1)).f5))).setCell ⟨gb398, 6, none⟩ (.int .i64 ((rd_T126 l0_3 (rd t393 x13_1)).f6))).setCell ⟨gb398, 7, none⟩ (.int .i64 ((rd_T126 l0_3 (rd t393 x13_1)).f7))).setCell ⟨gb398, 8, none⟩ (.slice A397_8 ((rd_T126 l0_3 (rd t393 x13_1)).f8).length c397_8))) := ⟨bl_⟩
                (try clear HO_3)
                (try clear HO_11)
                (try clear BK392)
                (try clear BK398)
                (try clear HB)
                generalize (((((((((w14.setCell ⟨gb398, 0, none⟩ (.slice A397_0 ((rd_T126 l0_3 (rd t393 x13_1)).f0).length c397_0)).setCell ⟨gb398, 1, none⟩ (.int .i64 ((rd_T126 l0_3 (rd t393 x13_1)).f1))).setCell ⟨gb398, 2, none⟩ (.slice A397_2 ((rd_T126 l0_3 (rd t393 x13_1)).f2).length c397_2)).setCell ⟨gb398, 3, none⟩ (.int .i64 ((rd_T126 l0_3 (rd t393 x13_1)).f3))).setCell ⟨gb398, 4, none⟩ (.int .i64 ((rd_T126 l0_3 (rd t393 x13_1)).f4))).setCell ⟨gb398, 5, none⟩ (.int .i64 ((rd_T126 l0_3 (rd t393 x13_1)).f5))).setCell ⟨gb398, 6, none⟩ (.int .i64 ((rd_T126 l0_3 (rd t393 x13_1)).f6))).setCell ⟨gb398, 7, none⟩ (.int .i64 ((rd_T126 l0_3 (rd t393 x13_1)).f7))).setCell ⟨gb398, 8, none⟩ (.slice A397_8 ((rd_T126 l0_3 (rd t393 x13_1)).f8).length c397_8)) = w27 at n0_ n1_ n2_ n3_ n4_ ⊢
                have HO_3 := n0_
                have HO_11 := n1_
                have BK392 := n2_
                have BK398 := n3_
                have HB := n4_
                clear n0_ n1_ n2_ n3_ n4_
                have n0_ := Aside0.mk (Kd.R_drew HO_3.out)
                have n1_ := Aside0.mk (Kd.R_drew HO_11.out)
                have n2_ := Aside0.mk (blk_drew BK392.out)
                have n3_ := Aside0.mk (blk_drew BK398.out)
                have n4_ := Aside0.mk (below_drew1 HB.out)
                clear HO_3
                clear HO_11
                clear BK392
                clear BK398
                clear HB
                have HO_3 := n0_
                have HO_11 := n1_
                have BK392 := n2_
                have BK398 := n3_
                have HB := n4_
                clear n0_ n1_ n2_ n3_ n4_
                have p399 : 0 ≤ ((ji18) : Int) := od_
                have q399 : (ji18) < (t393.length : Int) := od_
                obtain ⟨ad399, e399, hx399_0⟩ := Kd.at_int (Kd.R_reads' HO_3.out).2.2 (ji18) p399 q399
                obtain rfl : ad396 = ad399 := (by injection e399)
                replace p399 := eq_true p399
                replace q399 := eq_true q399
                have p400 : 0 ≤ ((rd t393 (ji18)) : Int) := od_
                have q400 : (rd t393 (ji18)) < (l0_3.length : Int) := od_
                obtain ⟨ad400, A400_0, c400_0, A400_2, c400_2, A400_8, c400_8, e400, hx400_0, hx400_1, hx400_2, hx400_3, hx400_4, hx400_5, hx400_6, hx400_7, hx400_8, hl400_0, hi400_0, hl400_2, hi400_2, hl400_8, hi400_8⟩ := at_T126 HR0_3.out (rd t393 (ji18)) p400 q400
                have hw400_8 := hx400_8
                have hw400_7 := hx400_7
                have hw400_6 := hx400_6
                have hw400_5 := hx400_5
                have hw400_4 := hx400_4
                have hw400_3 := hx400_3
                have hw400_2 := hx400_2
                have hw400_1 := hx400_1
                have hw400_0 := hx400_0
                obtain rfl : ad397 = ad400 := (by injection e400)
                replace hx400_0 := kc_ HB hx400_0
                replace hx400_1 := kc_ HB hx400_1
                replace hx400_2 := kc_ HB hx400_2
                replace hx400_3 := kc_ HB hx400_3
                replace hx400_4 := kc_ HB hx400_4
                replace hx400_5 := kc_ HB hx400_5
                replace hx400_6 := kc_ HB hx400_6
                replace hx400_7 := kc_ HB hx400_7
                replace hx400_8 := kc_ HB hx400_8
                have HR400_0 := Aside0.mk hi400_0
                have HC400_0 := Aside0.mk hl400_0
                clear hi400_0 hl400_0
                have HR400_2 := Aside0.mk hi400_2
                have HC400_2 := Aside0.mk hl400_2
                clear hi400_2 hl400_2
                have HR400_8 := Aside0.mk hi400_8
                have HC400_8 := Aside0.mk hl400_8
                clear hi400_8 hl400_8
                replace p400 := eq_true p400
                replace q400 := eq_true q400
                refine start_ (n := 36) (S := fun w' => w'.cell? ⟨gb398, 0, none⟩ = some (.slice A397_0 ((rd_T126 l0_3 (rd t393 x13_1)).f0).length c397_0) ∧ w'.cell? ⟨gb398, 1, none⟩ = some (.int .i64 ((rd_T126 l0_3 (rd t393 x13_1)).f1)) ∧ w'.cell? ⟨gb398, 2, none⟩ = some (.slice A397_2 ((rd_T126 l0_3 (rd t393 x13_1)).f2).length c397_2) ∧ w'.cell? ⟨gb398, 3, none⟩ = some (.int .i64 ((rd_T126 l0_3 (rd t393 x13_1)).f3)) ∧ w'.cell? ⟨gb398, 4, none⟩ = some (.int .i64 ((rd_T126 l0_3 (rd t393 x13_1)).f4)) ∧ w'.cell? ⟨gb398, 5, none⟩ = some (.int .i64 ((rd_T126 l0_3 (rd t393 x13_1)).f5)) ∧ w'.cell? ⟨gb398, 6, none⟩ = some (.int .i64 ((rd_T126 l0_3 (rd t393 x13_1)).f6)) ∧ w'.cell? ⟨gb398, 7, none⟩ = some (.int .i64 ((rd_T126 l0_3 (rd t393 x13_1)).f7)) ∧ w'.cell? ⟨gb398, 8, none⟩ = some (.slice A397_8 ((rd_T126 l0_3 (rd t393 x13_1)).f8).length c397_8) ∧ w'.cell? ⟨gb392, 0, none⟩ = some (.slice A0_0 l0_0.length c0_0) ∧ w'.cell? ⟨gb392, 1, none⟩ = some (.int .i64 a0_1) ∧ w'.cell? ⟨gb392, 2, none⟩ = some (.int .i64 a0_2) ∧ w'.cell? ⟨gb392, 3, none⟩ = some (.slice (some ad397) l0_3.length c0_3) ∧ w'.cell? (ad396.add ((ji18)).toNat) = some (.int .i64 (rd t393 (ji18))) ∧ w'.cell? (ad397.add (((rd t393 (ji18))).toNat * 9)) = some (.slice A400_0 ((rd_T126 l0_3 (rd t393 (ji18))).f0).length c400_0) ∧ w'.cell? ⟨(ad397.add (((rd t393 (ji18))).toNat * 9)).block, (ad397.add (((rd t393 (ji18))).toNat * 9)).off + 1, none⟩ = some (.int .i64 ((rd_T126 l0_3 (rd t393 (ji18))).f1)) ∧ w'.cell? ⟨(ad397.add (((rd t393 (ji18))).toNat * 9)).block, (ad397.add (((rd t393 (ji18))).toNat * 9)).off + 2, none⟩ = some (.slice A400_2 ((rd_T126 l0_3 (rd t393 (ji18))).f2).length c400_2) ∧ w'.cell? ⟨(ad397.add (((rd t393 (ji18))).toNat * 9)).block, (ad397.add (((rd t393 (ji18))).toNat * 9)).off + 3, none⟩ = some (.int .i64 ((rd_T126 l0_3 (rd t393 (ji18))).f3)) ∧ w'.cell? ⟨(ad397.add (((rd t393 (ji18))).toNat * 9)).block, (ad397.add (((rd t393 (ji18))).toNat * 9)).off + 4, none⟩ = some (.int .i64 ((rd_T126 l0_3 (rd t393 (ji18))).f4)) ∧ w'.cell? ⟨(ad397.add (((rd t393 (ji18))).toNat * 9)).block, (ad397.add (((rd t393 (ji18))).toNat * 9)).off + 5, none⟩ = some (.int .i64 ((rd_T126 l0_3 (rd t393 (ji18))).f5)) ∧ w'.cell? ⟨(ad397.add (((rd t393 (ji18))).toNat * 9)).block, (ad397.add (((rd t393 (ji18))).toNat * 9)).off + 6, none⟩ = some (.int .i64 ((rd_T126 l0_3 (rd t393 (ji18))).f6)) ∧ w'.cell? ⟨(ad397.add (((rd t393 (ji18))).toNat * 9)).block, (ad397.add (((rd t393 (ji18))).toNat * 9)).off + 7, none⟩ = some (.int .i64 ((rd_T126 l0_3 (rd t393 (ji18))).f7)) ∧ w'.cell? ⟨(ad397.add (((rd t393 (ji18))).toNat * 9)).block, (ad397.add (((rd t393 (ji18))).toNat * 9)).off + 8, none⟩ = some (.slice A400_8 ((rd_T126 l0_3 (rd t393 (ji18))).f8).length c400_8)) (ds := []) tb36_0_11 (by kernel_rfl) rfl rfl ⟨cy_ BK398 0, cy_ BK398 1, cy_ BK398 2, cy_ BK398 3, cy_ BK398 4, cy_ BK398 5, cy_ BK398 6, cy_ BK398 7, cy_ BK398 8, cy_ BK392 0, cy_ BK392 1, cy_ BK392 2, cy_ BK392 3, hx399_0, (kc_ HB hw400_0), (kc_ HB hw400_1), (kc_ HB hw400_2), (kc_ HB hw400_3), (kc_ HB hw400_4), (kc_ HB hw400_5), (kc_ HB hw400_6), (kc_ HB hw400_7), (kc_ HB hw400_8)⟩ (fun hHeld => ?_); refine with_tabW impl_InOrder.tab6 impl_InOrder.bits6 (fun HT_ HW_ => ?_)
                generalize w27.drew = w28 at HO_3 HO_11 BK392 BK398 HB HR400_0 HR400_2 HR400_8 hx399_0 hx400_0 hx400_1 hx400_2 hx400_3 hx400_4 hx400_5 hx400_6 hx400_7 hx400_8 hHeld ⊢
                refine pl_ HT_ 0 23 tb36_1_11 ?_
                refine pl_ HT_ 1 24 tb36_3_11 ?_
                refine pl_ HT_ 2 25 tb36_7_11 ?_
                refine pl_ HT_ 3 26 tb36_f_11 ?_
                refine pl_ HT_ 5 28 tb36_2f_11 ?_
                refine pl_ HT_ 7 30 tb36_af_11 ?_
                refine pl_ HT_ 8 31 tb36_1af_11 ?_
                refine pl_ HT_ 9 32 tb36_3af_11 ?_
                refine pl_ HT_ 10 33 tb36_7af_11 ?_
                refine take_ (i := 4) (N := some 27) (v := ?_) (a' := ?_) tb36_7bf_11 rfl rfl (take_ofW HT_.out HW_.out (by kernel_rfl)) (fun _ _ _ h => h) (Or.inl ⟨by rfl, ?_⟩) hHeld ?_ ?_
                rotate_left
                ·rintro w' ⟨s0, s1, s2, s3, s4, s5, s6, s7, s8, s9, s10, s11, s12, s13, s14, s15, s16, s17, s18, s19, s20, s21, s22⟩
                 go_simp
                 with_reducible rfl
                rotate_left
                ·simp only [Act.put, q_]
                 rfl
                refine take_ (i := 6) (N := some 29) (v := ?_) (a' := ?_) tb36_7ff_11 rfl rfl (take_ofW HT_.out HW_.out (by kernel_rfl)) (fun _ _ _ h => h) (Or.inl ⟨by rfl, ?_⟩) hHeld ?_ ?_
                rotate_left
                ·rintro w' ⟨s0, s1, s2, s3, s4, s5, s6, s7, s8, s9, s10, s11, s12, s13, s14, s15, s16, s17, s18, s19, s20, s21, s22⟩
                 go_simp
                 with_reducible rfl
                rotate_left
                ·simp only [Act.put, q_]
                 rfl
                refine take_ (i := 11) (N := some 34) (v := ?_) (a' := ?_) tb36_fff_11 rfl rfl (take_ofW HT_.out HW_.out (by kernel_rfl)) (fun _ _ _ h => h) (Or.inl ⟨by rfl, ?_⟩) hHeld ?_ ?_
                rotate_left
                ·rintro w' ⟨s0, s1, s2, s3, s4, s5, s6, s7, s8, s9, s10, s11, s12, s13, s14, s15, s16, s17, s18, s19, s20, s21, s22⟩
                 go_simp
                 with_reducible rfl
                rotate_left
                ·simp only [Act.put, q_]
                 rfl
                refine pl_ HT_ 12 35 tb36_1fff_11 ?_
                refine pl_ HT_ 13 36 tb36_3fff_11 ?_
                refine take_ (i := 14) (N := some 37) (v := ?_) (a' := ?_) tb36_7fff_11 rfl rfl (take_ofW HT_.out HW_.out (by kernel_rfl)) (fun _ _ _ h => h) (Or.inl ⟨by rfl, ?_⟩) hHeld ?_ ?_
                rotate_left
                ·rintro w' ⟨s0, s1, s2, s3, s4, s5, s6, s7, s8, s9, s10, s11, s12, s13, s14, s15, s16, s17, s18, s19, s20, s21, s22⟩
                 go_simp
                 with_reducible rfl
                rotate_left
                ·simp only [Act.put, q_]
                 rfl
                refine pl_ HT_ 15 38 tb36_ffff_11 ?_
                refine pl_ HT_ 16 39 tb36_1ffff_11 ?_
                refine pl_ HT_ 17 40 tb36_3ffff_11 ?_
                refine pl_ HT_ 18 41 tb36_7ffff_11 ?_
                refine pl_ HT_ 20 43 tb36_17ffff_11 ?_
                refine take_ (i := 19) (N := some 42) (v := ?_) (a' := ?_) tb36_1fffff_11 rfl rfl (take_ofW HT_.out HW_.out (by kernel_rfl)) (fun _ _ _ h => h) (Or.inl ⟨by rfl, ?_⟩) hHeld ?_ ?_
                rotate_left
                ·rintro w' ⟨s0, s1, s2, s3, s4, s5, s6, s7, s8, s9, s10, s11, s12, s13, s14, s15, s16, s17, s18, s19, s20, s21, s22⟩
                 go_simp
                 with_reducible rfl
                rotate_left
                ·simp only [Act.put, q_]
                 rfl
                refine take_ (i := 21) (N := some 44) (v := ?_) (a' := ?_) tb36_3fffff_11 rfl rfl (take_ofW HT_.out HW_.out (by kernel_rfl)) (fun _ _ _ h => h) (Or.inl ⟨by rfl, ?_⟩) hHeld ?_ ?_
                rotate_left
                ·rintro w' ⟨s0, s1, s2, s3, s4, s5, s6, s7, s8, s9, s10, s11, s12, s13, s14, s15, s16, s17, s18, s19, s20, s21, s22⟩
                 go_simp
                 with_reducible rfl
                rotate_left
                ·simp only [Act.put, q_]
                 rfl
                refine pl_ HT_ 22 45 tb36_7fffff_11 ?_
                refine pl_ HT_ 23 46 tb36_ffffff_11 ?_
                refine pl_ HT_ 24 47 tb36_1ffffff_11 ?_
                refine pr_ HT_ 25 48 tb36_3ffffff_11 ?_
                refine pr_ HT_ 26 49 tb36_7ffffff_11 ?_
                refine pr_ HT_ 27 50 tb36_fffffff_11 ?_
                refine pr_ HT_ 28 51 tb36_1fffffff_11 ?_
                refine pr_ HT_ 29 52 tb36_3fffffff_11 ?_
                refine pr_ HT_ 30 53 tb36_7fffffff_11 ?_
                refine pr_ HT_ 31 54 tb36_ffffffff_11 ?_
                refine pr_ HT_ 32 55 tb36_1ffffffff_11 ?_
                refine pr_ HT_ 33 56 tb36_3ffffffff_11 ?_
                refine pr_ HT_ 34 57 tb36_7ffffffff_11 ?_
                refine pl_ HT_ 35 58 tb36_fffffffff_11 ?_
                refine done_ (done_of HT_.out (by kernel_rfl)) ?_
                try go_wp2
                go_meet
                case rel => exact ⟨_, (true), sp_, H', ⟨by have := HK1.out; first | omega | exact Nat.le_refl _⟩, ⟨ra_ HO_3⟩, ⟨ra_ HO_11⟩, ⟨by (with_reducible repeat (first | refine blk_drewN ?_ _ | refine blk_drew ?_ | refine blk_alloc ?_ _)); exact BK392.out⟩, ⟨by (with_reducible repeat (first | refine blk_drewN ?_ _ | refine blk_drew ?_ | refine blk_alloc ?_ _)); exact BK398.out⟩, ⟨bl_⟩⟩
               ·rw [if_neg c26] at H
                have c26b0 : decide (((rd_T126 l0_3 (rd t393 x13_1)).f5) < ((rd_T126 l0_3 (rd t393 x13_1)).f4)) = false := decide_eq_false c26
                clear c26
                by_cases c29 : ((rd_T126 l0_3 (rd t393 x13_1)).f6) = (-1)
                ·rw [if_pos c29] at H
                 have c29b0 : (((rd_T126 l0_3 (rd t393 x13_1)).f6) == (-1)) = true := beq_iff_eq.mpr c29
                 have c29b1 : (((rd_T126 l0_3 (rd t393 x13_1)).f6) != (-1)) = false := bne_eq_false_iff_eq.mpr c29
                 clear c29
                 have H' := Aside0.mk H
                 clear H
                 try go_wp2
                 have n0_ := Aside0.mk (Kd.R_mono (ok' := fun _ => True) (Kd.R_far (p := ⟨gb398, 8, none⟩) (Kd.R_far (p := ⟨gb398, 7, none⟩) (Kd.R_far (p := ⟨gb398, 6, none⟩) (Kd.R_far (p := ⟨gb398, 5, none⟩) (Kd.R_far (p := ⟨gb398, 4, none⟩) (Kd.R_far (p := ⟨gb398, 3, none⟩) (Kd.R_far (p := ⟨gb398, 2, none⟩) (Kd.R_far (p := ⟨gb398, 1, none⟩) (Kd.R_far (p := ⟨gb398, 0, none⟩) (Kd.R_types HO_3.out BK398.out (by decide)) (fun _ hk => hk.2) (.slice A397_0 ((rd_T126 l0_3 (rd t393 x13_1)).f0).length c397_0)) (fun _ hk => hk.2) (.int .i64 ((rd_T126 l0_3 (rd t393 x13_1)).f1))) (fun _ hk => hk.2) (.slice A397_2 ((rd_T126 l0_3 (rd t393 x13_1)).f2).length c397_2)) (fun _ hk => hk.2) (.int .i64 ((rd_T126 l0_3 (rd t393 x13_1)).f3))) (fun _ hk => hk.2) (.int .i64 ((rd_T126 l0_3 (rd t393 x13_1)).f4))) (fun _ hk => hk.2) (.int .i64 ((rd_T126 l0_3 (rd t393 x13_1)).f5))) (fun _ hk => hk.2) (.int .i64 ((rd_T126 l0_3 (rd t393 x13_1)).f6))) (fun _ hk => hk.2) (.int .i64 ((rd_T126 l0_3 (rd t393 x13_1)).f7))) (fun _ hk => hk.2) (.slice A397_8 ((rd_T126 l0_3 (rd t393 x13_1)).f8).length c397_8)) (fun _ hk => trivial))
                 have n1_ := Aside0.mk (Kd.R_mono (ok' := fun _ => True) (Kd.R_far (p := ⟨gb398, 8, none⟩) (Kd.R_far (p := ⟨gb398, 7, none⟩) (Kd.R_far (p := ⟨gb398, 6, none⟩) (Kd.R_far (p := ⟨gb398, 5, none⟩) (Kd.R_far (p := ⟨gb398, 4, none⟩) (Kd.R_far (p := ⟨gb398, 3, none⟩) (Kd.R_far (p := ⟨gb398, 2, none⟩) (Kd.R_far (p := ⟨gb398, 1, none⟩) (Kd.R_far (p := ⟨gb398, 0, none⟩) (Kd.R_types HO_11.out BK398.out (by decide)) (fun _ hk => hk.2) (.slice A397_0 ((rd_T126 l0_3 (rd t393 x13_1)).f0).length c397_0)) (fun _ hk => hk.2) (.int .i64 ((rd_T126 l0_3 (rd t393 x13_1)).f1))) (fun _ hk => hk.2) (.slice A397_2 ((rd_T126 l0_3 (rd t393 x13_1)).f2).length c397_2)) (fun _ hk => hk.2) (.int .i64 ((rd_T126 l0_3 (rd t393 x13_1)).f3))) (fun _ hk => hk.2) (.int .i64 ((rd_T126 l0_3 (rd t393 x13_1)).f4))) (fun _ hk => hk.2) (.int .i64 ((rd_T126 l0_3 (rd t393 x13_1)).f5))) (fun _ hk => hk.2) (.int .i64 ((rd_T126 l0_3 (rd t393 x13_1)).f6))) (fun _ hk => hk.2) (.int .i64 ((rd_T126 l0_3 (rd t393 x13_1)).f7))) (fun _ hk => hk.2) (.slice A397_8 ((rd_T126 l0_3 (rd t393 x13_1)).f8).length c397_8)) (fun _ hk => trivial))
                 have n2_ : Aside0 ((((((((((w14.setCell ⟨gb398, 0, none⟩ (.slice A397_0 ((rd_T126 l0_3 (rd t393 x13_1)).f0).length c397_0)).setCell ⟨gb398, 1, none⟩ (.int .i64 ((rd_T126 l0_3 (rd t393 x13_1)).f1))).setCell ⟨gb398, 2, none⟩ (.slice A397_2 ((rd_T126 l0_3 (rd t393 x13_1)).f2).length c397_2)).setCell ⟨gb398, 3, none⟩ (.int .i64 ((rd_T126 l0_3 (rd t393 x13_1)).f3))).setCell ⟨gb398, 4, none⟩ (.int .i64 ((rd_T126 l0_3 (rd t393 x13_1)).f4))).setCell ⟨gb398, 5, none⟩ (.int .i64 ((rd_T126 l0_3 (rd t393 x13_1)).f5))).setCell ⟨gb398, 6, none⟩ (.int .i64 ((rd_T126 l0_3 (rd t393 x13_1)).f6))).setCell ⟨gb398, 7, none⟩ (.int .i64 ((rd_T126 l0_3 (rd t393 x13_1)).f7))).setCell ⟨gb398, 8, none⟩ (.slice A397_8 ((rd_T126 l0_3 (rd t393 x13_1)).f8).length c397_8)).heap[gb392]? = some (.cells #[.slice A0_0 l0_0.length c0_0, .int .i64 a0_1, .int .i64 a0_2, .slice (some ad397) l0_3.length c0_3] 56 (0, 0))) := ⟨by (repeat (with_reducible refine blk_far ?_ NB392_398.out _)); exact BK392.out⟩
                 have n3_ : Aside0 ((((((((((w14.setCell ⟨gb398, 0, none⟩ (.slice A397_0 ((rd_T126 l0_3 (rd t393 x13_1)).f0).length c397_0)).setCell ⟨gb398, 1, none⟩ (.int .i64 ((rd_T126 l0_3 (rd t393 x13_1)).f1))).setCell ⟨gb398, 2, none⟩ (.slice A397_2 ((rd_T126 l0_3 (rd t393 x13_1)).f2).length c397_2)).setCell ⟨gb398, 3, none⟩ (.int .i64 ((rd_T126 l0_3 (rd t393 x13_1)).f3))).setCell ⟨gb398, 4, none⟩ (.int .i64 ((rd_T126 l0_3 (rd t393 x13_1)).f4))).setCell ⟨gb398, 5, none⟩ (.int .i64 ((rd_T126 l0_3 (rd t393 x13_1)).f5))).setCell ⟨gb398, 6, none⟩ (.int .i64 ((rd_T126 l0_3 (rd t393 x13_1)).f6))).setCell ⟨gb398, 7, none⟩ (.int .i64 ((rd_T126 l0_3 (rd t393 x13_1)).f7))).setCell ⟨gb398, 8, none⟩ (.slice A397_8 ((rd_T126 l0_3 (rd t393 x13_1)).f8).length c397_8)).heap[gb398]? = some (.cells #[.slice A397_0 ((rd_T126 l0_3 (rd t393 x13_1)).f0).length c397_0, .int .i64 ((rd_T126 l0_3 (rd t393 x13_1)).f1), .slice A397_2 ((rd_T126 l0_3 (rd t393 x13_1)).f2).length c397_2, .int .i64 ((rd_T126 l0_3 (rd t393 x13_1)).f3), .int .i64 ((rd_T126 l0_3 (rd t393 x13_1)).f4), .int .i64 ((rd_T126 l0_3 (rd t393 x13_1)).f5), .int .i64 ((rd_T126 l0_3 (rd t393 x13_1)).f6), .int .i64 ((rd_T126 l0_3 (rd t393 x13_1)).f7), .slice A397_8 ((rd_T126 l0_3 (rd t393 x13_1)).f8).length c397_8] 126 (0, 0))) := ⟨by (with_reducible repeat (first | refine blk_drewN ?_ _ | refine blk_drew ?_ | refine blk_alloc ?_ _)); apply bq9_8_7_6_5_4_3_2_1_0_; (with_reducible repeat (first | refine blk_drewN ?_ _ | refine blk_drew ?_ | refine blk_alloc ?_ _)); exact BK398.out⟩
                 have n4_ : Aside0 (Below w.heap.size w (((((((((w14.setCell ⟨gb398, 0, none⟩ (.slice A397_0 ((rd_T126 l0_3 (rd t393 x13_1)).f0).length c397_0)).setCell ⟨gb398, 1, none⟩ (.int .i64 ((rd_T126 l0_3 (rd t393 x13_1)).f1))).setCell ⟨gb398, 2, none⟩ (.slice A397_2 ((rd_T126 l0_3 (rd t393 x13_1)).f2).length c397_2)).setCell ⟨gb398, 3, none⟩ (.int .i64 ((rd_T126 l0_3 (rd t393 x13_1)).f3))).setCell ⟨gb398, 4, none⟩ (.int .i64 ((rd_T126 l0_3 (rd t393 x13_1)).f4))).setCell ⟨gb398, 5, none⟩ (.int .i64 ((rd_T126 l0_3 (rd t393 x13_1)).f5))).setCell ⟨gb398, 6, none⟩ (.int .i64 ((rd_T126 l0_3 (rd t393 x13_1)).f6))).setCell ⟨gb398, 7, none⟩ (.int .i64 ((rd_T126 l0_3 (rd t393 x13_1)).f7))).setCell ⟨gb398, 8, none⟩ (.slice A397_8 ((rd_T126 l0_3 (rd t393 x13_1)).f8).length c397_8))) := ⟨bl_⟩
                 (try clear HO_3)
                 (try clear HO_11)
                 (try clear BK392)
                 (try clear BK398)
                 (try clear HB)
                 generalize (((((((((w14.setCell ⟨gb398, 0, none⟩ (.slice A397_0 ((rd_T126 l0_3 (rd t393 x13_1)).f0).length c397_0)).setCell ⟨gb398, 1, none⟩ (.int .i64 ((rd_T126 l0_3 (rd t393 x13_1)).f1))).setCell ⟨gb398, 2, none⟩ (.slice A397_2 ((rd_T126 l0_3 (rd t393 x13_1)).f2).length c397_2)).setCell ⟨gb398, 3, none⟩ (.int .i64 ((rd_T126 l0_3 (rd t393 x13_1)).f3))).setCell ⟨gb398, 4, none⟩ (.int .i64 ((rd_T126 l0_3 (rd t393 x13_1)).f4))).setCell ⟨gb398, 5, none⟩ (.int .i64 ((rd_T126 l0_3 (rd t393 x13_1)).f5))).setCell ⟨gb398, 6, none⟩ (.int .i64 ((rd_T126 l0_3 (rd t393 x13_1)).f6))).setCell ⟨gb398, 7, none⟩ (.int .i64 ((rd_T126 l0_3 (rd t393 x13_1)).f7))).setCell ⟨gb398, 8, none⟩ (.slice A397_8 ((rd_T126 l0_3 (rd t393 x13_1)).f8).length c397_8)) = w30 at n0_ n1_ n2_ n3_ n4_ ⊢
                 have HO_3 := n0_
                 have HO_11 := n1_
                 have BK392 := n2_
                 have BK398 := n3_
                 have HB := n4_
                 clear n0_ n1_ n2_ n3_ n4_
                 have n0_ := Aside0.mk (Kd.R_drew HO_3.out)
                 have n1_ := Aside0.mk (Kd.R_drew HO_11.out)
                 have n2_ := Aside0.mk (blk_drew BK392.out)
                 have n3_ := Aside0.mk (blk_drew BK398.out)
                 have n4_ := Aside0.mk (below_drew1 HB.out)
                 clear HO_3
                 clear HO_11
                 clear BK392
                 clear BK398
                 clear HB
                 have HO_3 := n0_
                 have HO_11 := n1_
                 have BK392 := n2_
                 have BK398 := n3_
                 have HB := n4_
                 clear n0_ n1_ n2_ n3_ n4_
                 have p399 : 0 ≤ ((ji18) : Int) := od_
                 have q399 : (ji18) < (t393.length : Int) := od_
                 obtain ⟨ad399, e399, hx399_0⟩ := Kd.at_int (Kd.R_reads' HO_3.out).2.2 (ji18) p399 q399
                 obtain rfl : ad396 = ad399 := (by injection e399)
                 replace p399 := eq_true p399
                 replace q399 := eq_true q399
                 have p400 : 0 ≤ ((rd t393 (ji18)) : Int) := od_
                 have q400 : (rd t393 (ji18)) < (l0_3.length : Int) := od_
                 obtain ⟨ad400, A400_0, c400_0, A400_2, c400_2, A400_8, c400_8, e400, hx400_0, hx400_1, hx400_2, hx400_3, hx400_4, hx400_5, hx400_6, hx400_7, hx400_8, hl400_0, hi400_0, hl400_2, hi400_2, hl400_8, hi400_8⟩ := at_T126 HR0_3.out (rd t393 (ji18)) p400 q400
                 have hw400_8 := hx400_8
                 have hw400_7 := hx400_7
                 have hw400_6 := hx400_6
                 have hw400_5 := hx400_5
                 have hw400_4 := hx400_4
                 have hw400_3 := hx400_3
                 have hw400_2 := hx400_2
                 have hw400_1 := hx400_1
                 have hw400_0 := hx400_0
                 obtain rfl : ad397 = ad400 := (by injection e400)
                 replace hx400_0 := kc_ HB hx400_0
                 replace hx400_1 := kc_ HB hx400_1
                 replace hx400_2 := kc_ HB hx400_2
                 replace hx400_3 := kc_ HB hx400_3
                 replace hx400_4 := kc_ HB hx400_4
                 replace hx400_5 := kc_ HB hx400_5
                 replace hx400_6 := kc_ HB hx400_6
                 replace hx400_7 := kc_ HB hx400_7
                 replace hx400_8 := kc_ HB hx400_8
                 have HR400_0 := Aside0.mk hi400_0
                 have HC400_0 := Aside0.mk hl400_0
                 clear hi400_0 hl400_0
                 have HR400_2 := Aside0.mk hi400_2
                 have HC400_2 := Aside0.mk hl400_2
                 clear hi400_2 hl400_2
                 have HR400_8 := Aside0.mk hi400_8
                 have HC400_8 := Aside0.mk hl400_8
                 clear hi400_8 hl400_8
                 replace p400 := eq_true p400
                 replace q400 := eq_true q400
                 refine start_ (n := 36) (S := fun w' => w'.cell? ⟨gb398, 0, none⟩ = some (.slice A397_0 ((rd_T126 l0_3 (rd t393 x13_1)).f0).length c397_0) ∧ w'.cell? ⟨gb398, 1, none⟩ = some (.int .i64 ((rd_T126 l0_3 (rd t393 x13_1)).f1)) ∧ w'.cell? ⟨gb398, 2, none⟩ = some (.slice A397_2 ((rd_T126 l0_3 (rd t393 x13_1)).f2).length c397_2) ∧ w'.cell? ⟨gb398, 3, none⟩ = some (.int .i64 ((rd_T126 l0_3 (rd t393 x13_1)).f3)) ∧ w'.cell? ⟨gb398, 4, none⟩ = some (.int .i64 ((rd_T126 l0_3 (rd t393 x13_1)).f4)) ∧ w'.cell? ⟨gb398, 5, none⟩ = some (.int .i64 ((rd_T126 l0_3 (rd t393 x13_1)).f5)) ∧ w'.cell? ⟨gb398, 6, none⟩ = some (.int .i64 ((rd_T126 l0_3 (rd t393 x13_1)).f6)) ∧ w'.cell? ⟨gb398, 7, none⟩ = some (.int .i64 ((rd_T126 l0_3 (rd t393 x13_1)).f7)) ∧ w'.cell? ⟨gb398, 8, none⟩ = some (.slice A397_8 ((rd_T126 l0_3 (rd t393 x13_1)).f8).length c397_8) ∧ w'.cell? ⟨gb392, 0, none⟩ = some (.slice A0_0 l0_0.length c0_0) ∧ w'.cell? ⟨gb392, 1, none⟩ = some (.int .i64 a0_1) ∧ w'.cell? ⟨gb392, 2, none⟩ = some (.int .i64 a0_2) ∧ w'.cell? ⟨gb392, 3, none⟩ = some (.slice (some ad397) l0_3.length c0_3) ∧ w'.cell? (ad396.add ((ji18)).toNat) = some (.int .i64 (rd t393 (ji18))) ∧ w'.cell? (ad397.add (((rd t393 (ji18))).toNat * 9)) = some (.slice A400_0 ((rd_T126 l0_3 (rd t393 (ji18))).f0).length c400_0) ∧ w'.cell? ⟨(ad397.add (((rd t393 (ji18))).toNat * 9)).block, (ad397.add (((rd t393 (ji18))).toNat * 9)).off + 1, none⟩ = some (.int .i64 ((rd_T126 l0_3 (rd t393 (ji18))).f1)) ∧ w'.cell? ⟨(ad397.add (((rd t393 (ji18))).toNat * 9)).block, (ad397.add (((rd t393 (ji18))).toNat * 9)).off + 2, none⟩ = some (.slice A400_2 ((rd_T126 l0_3 (rd t393 (ji18))).f2).length c400_2) ∧ w'.cell? ⟨(ad397.add (((rd t393 (ji18))).toNat * 9)).block, (ad397.add (((rd t393 (ji18))).toNat * 9)).off + 3, none⟩ = some (.int .i64 ((rd_T126 l0_3 (rd t393 (ji18))).f3)) ∧ w'.cell? ⟨(ad397.add (((rd t393 (ji18))).toNat * 9)).block, (ad397.add (((rd t393 (ji18))).toNat * 9)).off + 4, none⟩ = some (.int .i64 ((rd_T126 l0_3 (rd t393 (ji18))).f4)) ∧ w'.cell? ⟨(ad397.add (((rd t393 (ji18))).toNat * 9)).block, (ad397.add (((rd t393 (ji18))).toNat * 9)).off + 5, none⟩ = some (.int .i64 ((rd_T126 l0_3 (rd t393 (ji18))).f5)) ∧ w'.cell? ⟨(ad397.add (((rd t393 (ji18))).toNat * 9)).block, (ad397.add (((rd t393 (ji18))).toNat * 9)).off + 6, none⟩ = some (.int .i64 ((rd_T126 l0_3 (rd t393 (ji18))).f6)) ∧ w'.cell? ⟨(ad397.add (((rd t393 (ji18))).toNat * 9)).block, (ad397.add (((rd t393 (ji18))).toNat * 9)).off + 7, none⟩ = some (.int .i64 ((rd_T126 l0_3 (rd t393 (ji18))).f7)) ∧ w'.cell? ⟨(ad397.add (((rd t393 (ji18))).toNat * 9)).block, (ad397.add (((rd t393 (ji18))).toNat * 9)).off + 8, none⟩ = some (.slice A400_8 ((rd_T126 l0_3 (rd t393 (ji18))).f8).length c400_8)) (ds := []) tb36_0_11 (by kernel_rfl) rfl rfl ⟨cy_ BK398 0, cy_ BK398 1, cy_ BK398 2, cy_ BK398 3, cy_ BK398 4, cy_ BK398 5, cy_ BK398 6, cy_ BK398 7, cy_ BK398 8, cy_ BK392 0, cy_ BK392 1, cy_ BK392 2, cy_ BK392 3, hx399_0, (kc_ HB hw400_0), (kc_ HB hw400_1), (kc_ HB hw400_2), (kc_ HB hw400_3), (kc_ HB hw400_4), (kc_ HB hw400_5), (kc_ HB hw400_6), (kc_ HB hw400_7), (kc_ HB hw400_8)⟩ (fun hHeld => ?_); refine with_tabW impl_InOrder.tab6 impl_InOrder.bits6 (fun HT_ HW_ => ?_)
                 generalize w30.drew = w31 at HO_3 HO_11 BK392 BK398 HB HR400_0 HR400_2 HR400_8 hx399_0 hx400_0 hx400_1 hx400_2 hx400_3 hx400_4 hx400_5 hx400_6 hx400_7 hx400_8 hHeld ⊢
                 refine pl_ HT_ 0 23 tb36_1_11 ?_
                 refine pl_ HT_ 1 24 tb36_3_11 ?_
                 refine pl_ HT_ 2 25 tb36_7_11 ?_
                 refine pl_ HT_ 3 26 tb36_f_11 ?_
                 refine pl_ HT_ 5 28 tb36_2f_11 ?_
                 refine pl_ HT_ 7 30 tb36_af_11 ?_
                 refine pl_ HT_ 8 31 tb36_1af_11 ?_
                 refine pl_ HT_ 9 32 tb36_3af_11 ?_
                 refine pl_ HT_ 10 33 tb36_7af_11 ?_
                 refine take_ (i := 4) (N := some 27) (v := ?_) (a' := ?_) tb36_7bf_11 rfl rfl (take_ofW HT_.out HW_.out (by kernel_rfl)) (fun _ _ _ h => h) (Or.inl ⟨by rfl, ?_⟩) hHeld ?_ ?_
                 rotate_left
                 ·rintro w' ⟨s0, s1, s2, s3, s4, s5, s6, s7, s8, s9, s10, s11, s12, s13, s14, s15, s16, s17, s18, s19, s20, s21, s22⟩
                  go_simp
                  with_reducible rfl
                 rotate_left
                 ·simp only [Act.put, q_]
                  rfl
                 refine take_ (i := 6) (N := some 29) (v := ?_) (a' := ?_) tb36_7ff_11 rfl rfl (take_ofW HT_.out HW_.out (by kernel_rfl)) (fun _ _ _ h => h) (Or.inl ⟨by rfl, ?_⟩) hHeld ?_ ?_
                 rotate_left
                 ·rintro w' ⟨s0, s1, s2, s3, s4, s5, s6, s7, s8, s9, s10, s11, s12, s13, s14, s15, s16, s17, s18, s19, s20, s21, s22⟩
                  go_simp
                  with_reducible rfl
                 rotate_left
                 ·simp only [Act.put, q_]
                  rfl
                 refine take_ (i := 11) (N := some 34) (v := ?_) (a' := ?_) tb36_fff_11 rfl rfl (take_ofW HT_.out HW_.out (by kernel_rfl)) (fun _ _ _ h => h) (Or.inl ⟨by rfl, ?_⟩) hHeld ?_ ?_
                 rotate_left
                 ·rintro w' ⟨s0, s1, s2, s3, s4, s5, s6, s7, s8, s9, s10, s11, s12, s13, s14, s15, s16, s17, s18, s19, s20, s21, s22⟩
                  go_simp
                  with_reducible rfl
                 rotate_left
                 ·simp only [Act.put, q_]
                  rfl
                 refine pl_ HT_ 12 35 tb36_1fff_11 ?_
                 refine pl_ HT_ 13 36 tb36_3fff_11 ?_
                 refine take_ (i := 14) (N := some 37) (v := ?_) (a' := ?_) tb36_7fff_11 rfl rfl (take_ofW HT_.out HW_.out (by kernel_rfl)) (fun _ _ _ h => h) (Or.inl ⟨by rfl, ?_⟩) hHeld ?_ ?_
                 rotate_left
                 ·rintro w' ⟨s0, s1, s2, s3, s4, s5, s6, s7, s8, s9, s10, s11, s12, s13, s14, s15, s16, s17, s18, s19, s20, s21, s22⟩
                  go_simp
                  with_reducible rfl
                 rotate_left
                 ·simp only [Act.put, q_]
                  rfl
                 refine pl_ HT_ 15 38 tb36_ffff_11 ?_
                 refine pl_ HT_ 16 39 tb36_1ffff_11 ?_
                 refine pl_ HT_ 17 40 tb36_3ffff_11 ?_
                 refine pl_ HT_ 18 41 tb36_7ffff_11 ?_
                 refine pl_ HT_ 20 43 tb36_17ffff_11 ?_
                 refine take_ (i := 19) (N := some 42) (v := ?_) (a' := ?_) tb36_1fffff_11 rfl rfl (take_ofW HT_.out HW_.out (by kernel_rfl)) (fun _ _ _ h => h) (Or.inl ⟨by rfl, ?_⟩) hHeld ?_ ?_
                 rotate_left
                 ·rintro w' ⟨s0, s1, s2, s3, s4, s5, s6, s7, s8, s9, s10, s11, s12, s13, s14, s15, s16, s17, s18, s19, s20, s21, s22⟩
                  go_simp
                  with_reducible rfl
                 rotate_left
                 ·simp only [Act.put, q_]
                  rfl
                 refine take_ (i := 21) (N := some 44) (v := ?_) (a' := ?_) tb36_3fffff_11 rfl rfl (take_ofW HT_.out HW_.out (by kernel_rfl)) (fun _ _ _ h => h) (Or.inl ⟨by rfl, ?_⟩) hHeld ?_ ?_
                 rotate_left
                 ·rintro w' ⟨s0, s1, s2, s3, s4, s5, s6, s7, s8, s9, s10, s11, s12, s13, s14, s15, s16, s17, s18, s19, s20, s21, s22⟩
                  go_simp
                  with_reducible rfl
                 rotate_left
                 ·simp only [Act.put, q_]
                  rfl
                 refine pl_ HT_ 22 45 tb36_7fffff_11 ?_
                 refine pl_ HT_ 23 46 tb36_ffffff_11 ?_
                 refine pl_ HT_ 24 47 tb36_1ffffff_11 ?_
                 refine pl_ HT_ 25 48 tb36_3ffffff_11 ?_
                 refine take_ (i := 26) (N := some 49) (v := ?_) (a' := ?_) tb36_7ffffff_11 rfl rfl (take_ofW HT_.out HW_.out (by kernel_rfl)) (fun _ _ _ h => h) (Or.inl ⟨by rfl, ?_⟩) hHeld ?_ ?_
                 rotate_left
                 ·rintro w' ⟨s0, s1, s2, s3, s4, s5, s6, s7, s8, s9, s10, s11, s12, s13, s14, s15, s16, s17, s18, s19, s20, s21, s22⟩
                  go_simp
                  with_reducible rfl
                 rotate_left
                 ·simp only [Act.put, q_]
                  rfl
                 refine pl_ HT_ 27 50 tb36_fffffff_11 ?_
                 refine pl_ HT_ 28 51 tb36_1fffffff_11 ?_
                 refine pr_ HT_ 29 52 tb36_3fffffff_11 ?_
                 refine pr_ HT_ 30 53 tb36_7fffffff_11 ?_
                 refine pr_ HT_ 31 54 tb36_ffffffff_11 ?_
                 refine pr_ HT_ 32 55 tb36_1ffffffff_11 ?_
                 refine pr_ HT_ 33 56 tb36_3ffffffff_11 ?_
                 refine pl_ HT_ 34 57 tb36_7ffffffff_11 ?_
                 refine pl_ HT_ 35 58 tb36_fffffffff_11 ?_
                 refine done_ (done_of HT_.out (by kernel_rfl)) ?_
                 try go_wp2
                 go_meet
                 case rel => exact ⟨_, (false), sp_, H', ⟨by have := HK1.out; first | omega | exact Nat.le_refl _⟩, ⟨ra_ HO_3⟩, ⟨ra_ HO_11⟩, ⟨by (with_reducible repeat (first | refine blk_drewN ?_ _ | refine blk_drew ?_ | refine blk_alloc ?_ _)); exact BK392.out⟩, ⟨by (with_reducible repeat (first | refine blk_drewN ?_ _ | refine blk_drew ?_ | refine blk_alloc ?_ _)); exact BK398.out⟩, ⟨bl_⟩⟩
                ·rw [if_neg c29] at H
                 have c29b0 : (((rd_T126 l0_3 (rd t393 x13_1)).f6) == (-1)) = false := beq_eq_false_iff_ne.mpr c29
                 have c29b1 : (((rd_T126 l0_3 (rd t393 x13_1)).f6) != (-1)) = true := bne_iff_ne.mpr c29
                 have H' := Aside0.mk H
                 clear H
                 try go_wp2
                 have n0_ := Aside0.mk (Kd.R_mono (ok' := fun _ => True) (Kd.R_far (p := ⟨gb398, 8, none⟩) (Kd.R_far (p := ⟨gb398, 7, none⟩) (Kd.R_far (p := ⟨gb398, 6, none⟩) (Kd.R_far (p := ⟨gb398, 5, none⟩) (Kd.R_far (p := ⟨gb398, 4, none⟩) (Kd.R_far (p := ⟨gb398, 3, none⟩) (Kd.R_far (p := ⟨gb398, 2, none⟩) (Kd.R_far (p := ⟨gb398, 1, none⟩) (Kd.R_far (p := ⟨gb398, 0, none⟩) (Kd.R_types HO_3.out BK398.out (by decide)) (fun _ hk => hk.2) (.slice A397_0 ((rd_T126 l0_3 (rd t393 x13_1)).f0).length c397_0)) (fun _ hk => hk.2) (.int .i64 ((rd_T126 l0_3 (rd t393 x13_1)).f1))) (fun _ hk => hk.2) (.slice A397_2 ((rd_T126 l0_3 (rd t393 x13_1)).f2).length c397_2)) (fun _ hk => hk.2) (.int .i64 ((rd_T126 l0_3 (rd t393 x13_1)).f3))) (fun _ hk => hk.2) (.int .i64 ((rd_T126 l0_3 (rd t393 x13_1)).f4))) (fun _ hk => hk.2) (.int .i64 ((rd_T126 l0_3 (rd t393 x13_1)).f5))) (fun _ hk => hk.2) (.int .i64 ((rd_T126 l0_3 (rd t393 x13_1)).f6))) (fun _ hk => hk.2) (.int .i64 ((rd_T126 l0_3 (rd t393 x13_1)).f7))) (fun _ hk => hk.2) (.slice A397_8 ((rd_T126 l0_3 (rd t393 x13_1)).f8).length c397_8)) (fun _ hk => trivial))
                 have n1_ := Aside0.mk (Kd.R_mono (ok' := fun _ => True) (Kd.R_far (p := ⟨gb398, 8, none⟩) (Kd.R_far (p := ⟨gb398, 7, none⟩) (Kd.R_far (p := ⟨gb398, 6, none⟩) (Kd.R_far (p := ⟨gb398, 5, none⟩) (Kd.R_far (p := ⟨gb398, 4, none⟩) (Kd.R_far (p := ⟨gb398, 3, none⟩) (Kd.R_far (p := ⟨gb398, 2, none⟩) (Kd.R_far (p := ⟨gb398, 1, none⟩) (Kd.R_far (p := ⟨gb398, 0, none⟩) (Kd.R_types HO_11.out BK398.out (by decide)) (fun _ hk => hk.2) (.slice A397_0 ((rd_T126 l0_3 (rd t393 x13_1)).f0).length c397_0)) (fun _ hk => hk.2) (.int .i64 ((rd_T126 l0_3 (rd t393 x13_1)).f1))) (fun _ hk => hk.2) (.slice A397_2 ((rd_T126 l0_3 (rd t393 x13_1)).f2).length c397_2)) (fun _ hk => hk.2) (.int .i64 ((rd_T126 l0_3 (rd t393 x13_1)).f3))) (fun _ hk => hk.2) (.int .i64 ((rd_T126 l0_3 (rd t393 x13_1)).f4))) (fun _ hk => hk.2) (.int .i64 ((rd_T126 l0_3 (rd t393 x13_1)).f5))) (fun _ hk => hk.2) (.int .i64 ((rd_T126 l0_3 (rd t393 x13_1)).f6))) (fun _ hk => hk.2) (.int .i64 ((rd_T126 l0_3 (rd t393 x13_1)).f7))) (fun _ hk => hk.2) (.slice A397_8 ((rd_T126 l0_3 (rd t393 x13_1)).f8).length c397_8)) (fun _ hk => trivial))
                 have n2_ : Aside0 ((((((((((w14.setCell ⟨gb398, 0, none⟩ (.slice A397_0 ((rd_T126 l0_3 (rd t393 x13_1)).f0).length c397_0)).setCell ⟨gb398, 1, none⟩ (.int .i64 ((rd_T126 l0_3 (rd t393 x13_1)).f1))).setCell ⟨gb398, 2, none⟩ (.slice A397_2 ((rd_T126 l0_3 (rd t393 x13_1)).f2).length c397_2)).setCell ⟨gb398, 3, none⟩ (.int .i64 ((rd_T126 l0_3 (rd t393 x13_1)).f3))).setCell ⟨gb398, 4, none⟩ (.int .i64 ((rd_T126 l0_3 (rd t393 x13_1)).f4))).setCell ⟨gb398, 5, none⟩ (.int .i64 ((rd_T126 l0_3 (rd t393 x13_1)).f5))).setCell ⟨gb398, 6, none⟩ (.int .i64 ((rd_T126 l0_3 (rd t393 x13_1)).f6))).setCell ⟨gb398, 7, none⟩ (.int .i64 ((rd_T126 l0_3 (rd t393 x13_1)).f7))).setCell ⟨gb398, 8, none⟩ (.slice A397_8 ((rd_T126 l0_3 (rd t393 x13_1)).f8).length c397_8)).heap[gb392]? = some (.cells #[.slice A0_0 l0_0.length c0_0, .int .i64 a0_1, .int .i64 a0_2, .slice (some ad397) l0_3.length c0_3] 56 (0, 0))) := ⟨by (repeat (with_reducible refine blk_far ?_ NB392_398.out _)); exact BK392.out⟩
                 have n3_ : Aside0 ((((((((((w14.setCell ⟨gb398, 0, none⟩ (.slice A397_0 ((rd_T126 l0_3 (rd t393 x13_1)).f0).length c397_0)).setCell ⟨gb398, 1, none⟩ (.int .i64 ((rd_T126 l0_3 (rd t393 x13_1)).f1))).setCell ⟨gb398, 2, none⟩ (.slice A397_2 ((rd_T126 l0_3 (rd t393 x13_1)).f2).length c397_2)).setCell ⟨gb398, 3, none⟩ (.int .i64 ((rd_T126 l0_3 (rd t393 x13_1)).f3))).setCell ⟨gb398, 4, none⟩ (.int .i64 ((rd_T126 l0_3 (rd t393 x13_1)).f4))).setCell ⟨gb398, 5, none⟩ (.int .i64 ((rd_T126 l0_3 (rd t393 x13_1)).f5))).setCell ⟨gb398, 6, none⟩ (.int .i64 ((rd_T126 l0_3 (rd t393 x13_1)).f6))).setCell ⟨gb398, 7, none⟩ (.int .i64 ((rd_T126 l0_3 (rd t393 x13_1)).f7))).setCell ⟨gb398, 8, none⟩ (.slice A397_8 ((rd_T126 l0_3 (rd t393 x13_1)).f8).length c397_8)).heap[gb398]? = some (.cells #[.slice A397_0 ((rd_T126 l0_3 (rd t393 x13_1)).f0).length c397_0, .int .i64 ((rd_T126 l0_3 (rd t393 x13_1)).f1), .slice A397_2 ((rd_T126 l0_3 (rd t393 x13_1)).f2).length c397_2, .int .i64 ((rd_T126 l0_3 (rd t393 x13_1)).f3), .int .i64 ((rd_T126 l0_3 (rd t393 x13_1)).f4), .int .i64 ((rd_T126 l0_3 (rd t393 x13_1)).f5), .int .i64 ((rd_T126 l0_3 (rd t393 x13_1)).f6), .int .i64 ((rd_T126 l0_3 (rd t393 x13_1)).f7), .slice A397_8 ((rd_T126 l0_3 (rd t393 x13_1)).f8).length c397_8] 126 (0, 0))) := ⟨by (with_reducible repeat (first | refine blk_drewN ?_ _ | refine blk_drew ?_ | refine blk_alloc ?_ _)); apply bq9_8_7_6_5_4_3_2_1_0_; (with_reducible repeat (first | refine blk_drewN ?_ _ | refine blk_drew ?_ | refine blk_alloc ?_ _)); exact BK398.out⟩
                 have n4_ : Aside0 (Below w.heap.size w (((((((((w14.setCell ⟨gb398, 0, none⟩ (.slice A397_0 ((rd_T126 l0_3 (rd t393 x13_1)).f0).length c397_0)).setCell ⟨gb398, 1, none⟩ (.int .i64 ((rd_T126 l0_3 (rd t393 x13_1)).f1))).setCell ⟨gb398, 2, none⟩ (.slice A397_2 ((rd_T126 l0_3 (rd t393 x13_1)).f2).length c397_2)).setCell ⟨gb398, 3, none⟩ (.int .i64 ((rd_T126 l0_3 (rd t393 x13_1)).f3))).setCell ⟨gb398, 4, none⟩ (.int .i64 ((rd_T126 l0_3 (rd t393 x13_1)).f4))).setCell ⟨gb398, 5, none⟩ (.int .i64 ((rd_T126 l0_3 (rd t393 x13_1)).f5))).setCell ⟨gb398, 6, none⟩ (.int .i64 ((rd_T126 l0_3 (rd t393 x13_1)).f6))).setCell ⟨gb398, 7, none⟩ (.int .i64 ((rd_T126 l0_3 (rd t393 x13_1)).f7))).setCell ⟨gb398, 8, none⟩ (.slice A397_8 ((rd_T126 l0_3 (rd t393 x13_1)).f8).length c397_8))) := ⟨bl_⟩
                 (try clear HO_3)
                 (try clear HO_11)
                 (try clear BK392)
                 (try clear BK398)
                 (try clear HB)
                 generalize (((((((((w14.setCell ⟨gb398, 0, none⟩ (.slice A397_0 ((rd_T126 l0_3 (rd t393 x13_1)).f0).length c397_0)).setCell ⟨gb398, 1, none⟩ (.int .i64 ((rd_T126 l0_3 (rd t393 x13_1)).f1))).setCell ⟨gb398, 2, none⟩ (.slice A397_2 ((rd_T126 l0_3 (rd t393 x13_1)).f2).length c397_2)).setCell ⟨gb398, 3, none⟩ (.int .i64 ((rd_T126 l0_3 (rd t393 x13_1)).f3))).setCell ⟨gb398, 4, none⟩ (.int .i64 ((rd_T126 l0_3 (rd t393 x13_1)).f4))).setCell ⟨gb398, 5, none⟩ (.int .i64 ((rd_T126 l0_3 (rd t393 x13_1)).f5))).setCell ⟨gb398, 6, none⟩ (.int .i64 ((rd_T126 l0_3 (rd t393 x13_1)).f6))).setCell ⟨gb398, 7, none⟩ (.int .i64 ((rd_T126 l0_3 (rd t393 x13_1)).f7))).setCell ⟨gb398, 8, none⟩ (.slice A397_8 ((rd_T126 l0_3 (rd t393 x13_1)).f8).length c397_8)) = w32 at n0_ n1_ n2_ n3_ n4_ ⊢
                 have HO_3 := n0_
                 have HO_11 := n1_
                 have BK392 := n2_
                 have BK398 := n3_
                 have HB := n4_
                 clear n0_ n1_ n2_ n3_ n4_
                 have n0_ := Aside0.mk (Kd.R_drew HO_3.out)
                 have n1_ := Aside0.mk (Kd.R_drew HO_11.out)
                 have n2_ := Aside0.mk (blk_drew BK392.out)
                 have n3_ := Aside0.mk (blk_drew BK398.out)
                 have n4_ := Aside0.mk (below_drew1 HB.out)
                 clear HO_3
                 clear HO_11
                 clear BK392
                 clear BK398
                 clear HB
                 have HO_3 := n0_
                 have HO_11 := n1_
                 have BK392 := n2_
                 have BK398 := n3_
                 have HB := n4_
                 clear n0_ n1_ n2_ n3_ n4_
                 have p399 : 0 ≤ ((ji18) : Int) := od_
                 have q399 : (ji18) < (t393.length : Int) := od_
                 obtain ⟨ad399, e399, hx399_0⟩ := Kd.at_int (Kd.R_reads' HO_3.out).2.2 (ji18) p399 q399
                 obtain rfl : ad396 = ad399 := (by injection e399)
                 replace p399 := eq_true p399
                 replace q399 := eq_true q399
                 have p400 : 0 ≤ ((rd t393 (ji18)) : Int) := od_
                 have q400 : (rd t393 (ji18)) < (l0_3.length : Int) := od_
                 obtain ⟨ad400, A400_0, c400_0, A400_2, c400_2, A400_8, c400_8, e400, hx400_0, hx400_1, hx400_2, hx400_3, hx400_4, hx400_5, hx400_6, hx400_7, hx400_8, hl400_0, hi400_0, hl400_2, hi400_2, hl400_8, hi400_8⟩ := at_T126 HR0_3.out (rd t393 (ji18)) p400 q400
                 have hw400_8 := hx400_8
                 have hw400_7 := hx400_7
                 have hw400_6 := hx400_6
                 have hw400_5 := hx400_5
                 have hw400_4 := hx400_4
                 have hw400_3 := hx400_3
                 have hw400_2 := hx400_2
                 have hw400_1 := hx400_1
                 have hw400_0 := hx400_0
                 obtain rfl : ad397 = ad400 := (by injection e400)
                 replace hx400_0 := kc_ HB hx400_0
                 replace hx400_1 := kc_ HB hx400_1
                 replace hx400_2 := kc_ HB hx400_2
                 replace hx400_3 := kc_ HB hx400_3
                 replace hx400_4 := kc_ HB hx400_4
                 replace hx400_5 := kc_ HB hx400_5
                 replace hx400_6 := kc_ HB hx400_6
                 replace hx400_7 := kc_ HB hx400_7
                 replace hx400_8 := kc_ HB hx400_8
                 have HR400_0 := Aside0.mk hi400_0
                 have HC400_0 := Aside0.mk hl400_0
                 clear hi400_0 hl400_0
                 have HR400_2 := Aside0.mk hi400_2
                 have HC400_2 := Aside0.mk hl400_2
                 clear hi400_2 hl400_2
                 have HR400_8 := Aside0.mk hi400_8
                 have HC400_8 := Aside0.mk hl400_8
                 clear hi400_8 hl400_8
                 replace p400 := eq_true p400
                 replace q400 := eq_true q400
                 refine start_ (n := 36) (S := fun w' => w'.cell? ⟨gb398, 0, none⟩ = some (.slice A397_0 ((rd_T126 l0_3 (rd t393 x13_1)).f0).length c397_0) ∧ w'.cell? ⟨gb398, 1, none⟩ = some (.int .i64 ((rd_T126 l0_3 (rd t393 x13_1)).f1)) ∧ w'.cell? ⟨gb398, 2, none⟩ = some (.slice A397_2 ((rd_T126 l0_3 (rd t393 x13_1)).f2).length c397_2) ∧ w'.cell? ⟨gb398, 3, none⟩ = some (.int .i64 ((rd_T126 l0_3 (rd t393 x13_1)).f3)) ∧ w'.cell? ⟨gb398, 4, none⟩ = some (.int .i64 ((rd_T126 l0_3 (rd t393 x13_1)).f4)) ∧ w'.cell? ⟨gb398, 5, none⟩ = some (.int .i64 ((rd_T126 l0_3 (rd t393 x13_1)).f5)) ∧ w'.cell? ⟨gb398, 6, none⟩ = some (.int .i64 ((rd_T126 l0_3 (rd t393 x13_1)).f6)) ∧ w'.cell? ⟨gb398, 7, none⟩ = some (.int .i64 ((rd_T126 l0_3 (rd t393 x13_1)).f7)) ∧ w'.cell? ⟨gb398, 8, none⟩ = some (.slice A397_8 ((rd_T126 l0_3 (rd t393 x13_1)).f8).length c397_8) ∧ w'.cell? ⟨gb392, 0, none⟩ = some (.slice A0_0 l0_0.length c0_0) ∧ w'.cell? ⟨gb392, 1, none⟩ = some (.int .i64 a0_1) ∧ w'.cell? ⟨gb392, 2, none⟩ = some (.int .i64 a0_2) ∧ w'.cell? ⟨gb392, 3, none⟩ = some (.slice (some ad397) l0_3.length c0_3) ∧ w'.cell? (ad396.add ((ji18)).toNat) = some (.int .i64 (rd t393 (ji18))) ∧ w'.cell? (ad397.add (((rd t393 (ji18))).toNat * 9)) = some (.slice A400_0 ((rd_T126 l0_3 (rd t393 (ji18))).f0).length c400_0) ∧ w'.cell? ⟨(ad397.add (((rd t393 (ji18))).toNat * 9)).block, (ad397.add (((rd t393 (ji18))).toNat * 9)).off + 1, none⟩ = some (.int .i64 ((rd_T126 l0_3 (rd t393 (ji18))).f1)) ∧ w'.cell? ⟨(ad397.add (((rd t393 (ji18))).toNat * 9)).block, (ad397.add (((rd t393 (ji18))).toNat * 9)).off + 2, none⟩ = some (.slice A400_2 ((rd_T126 l0_3 (rd t393 (ji18))).f2).length c400_2) ∧ w'.cell? ⟨(ad397.add (((rd t393 (ji18))).toNat * 9)).block, (ad397.add (((rd t393 (ji18))).toNat * 9)).off + 3, none⟩ = some (.int .i64 ((rd_T126 l0_3 (rd t393 (ji18))).f3)) ∧ w'.cell? ⟨(ad397.add (((rd t393 (ji18))).toNat * 9)).block, (ad397.add (((rd t393 (ji18))).toNat * 9)).off + 4, none⟩ = some (.int .i64 ((rd_T126 l0_3 (rd t393 (ji18))).f4)) ∧ w'.cell? ⟨(ad397.add (((rd t393 (ji18))).toNat * 9)).block, (ad397.add (((rd t393 (ji18))).toNat * 9)).off + 5, none⟩ = some (.int .i64 ((rd_T126 l0_3 (rd t393 (ji18))).f5)) ∧ w'.cell? ⟨(ad397.add (((rd t393 (ji18))).toNat * 9)).block, (ad397.add (((rd t393 (ji18))).toNat * 9)).off + 6, none⟩ = some (.int .i64 ((rd_T126 l0_3 (rd t393 (ji18))).f6)) ∧ w'.cell? ⟨(ad397.add (((rd t393 (ji18))).toNat * 9)).block, (ad397.add (((rd t393 (ji18))).toNat * 9)).off + 7, none⟩ = some (.int .i64 ((rd_T126 l0_3 (rd t393 (ji18))).f7)) ∧ w'.cell? ⟨(ad397.add (((rd t393 (ji18))).toNat * 9)).block, (ad397.add (((rd t393 (ji18))).toNat * 9)).off + 8, none⟩ = some (.slice A400_8 ((rd_T126 l0_3 (rd t393 (ji18))).f8).length c400_8)) (ds := []) tb36_0_11 (by kernel_rfl) rfl rfl ⟨cy_ BK398 0, cy_ BK398 1, cy_ BK398 2, cy_ BK398 3, cy_ BK398 4, cy_ BK398 5, cy_ BK398 6, cy_ BK398 7, cy_ BK398 8, cy_ BK392 0, cy_ BK392 1, cy_ BK392 2, cy_ BK392 3, hx399_0, (kc_ HB hw400_0), (kc_ HB hw400_1), (kc_ HB hw400_2), (kc_ HB hw400_3), (kc_ HB hw400_4), (kc_ HB hw400_5), (kc_ HB hw400_6), (kc_ HB hw400_7), (kc_ HB hw400_8)⟩ (fun hHeld => ?_); refine with_tabW impl_InOrder.tab6 impl_InOrder.bits6 (fun HT_ HW_ => ?_)
                 generalize w32.drew = w33 at HO_3 HO_11 BK392 BK398 HB HR400_0 HR400_2 HR400_8 hx399_0 hx400_0 hx400_1 hx400_2 hx400_3 hx400_4 hx400_5 hx400_6 hx400_7 hx400_8 hHeld ⊢
                 refine pl_ HT_ 0 23 tb36_1_11 ?_
                 refine pl_ HT_ 1 24 tb36_3_11 ?_
                 refine pl_ HT_ 2 25 tb36_7_11 ?_
                 refine pl_ HT_ 3 26 tb36_f_11 ?_
                 refine pl_ HT_ 5 28 tb36_2f_11 ?_
                 refine pl_ HT_ 7 30 tb36_af_11 ?_
                 refine pl_ HT_ 8 31 tb36_1af_11 ?_
                 refine pl_ HT_ 9 32 tb36_3af_11 ?_
                 refine pl_ HT_ 10 33 tb36_7af_11 ?_
                 refine take_ (i := 4) (N := some 27) (v := ?_) (a' := ?_) tb36_7bf_11 rfl rfl (take_ofW HT_.out HW_.out (by kernel_rfl)) (fun _ _ _ h => h) (Or.inl ⟨by rfl, ?_⟩) hHeld ?_ ?_
                 rotate_left
                 ·rintro w' ⟨s0, s1, s2, s3, s4, s5, s6, s7, s8, s9, s10, s11, s12, s13, s14, s15, s16, s17, s18, s19, s20, s21, s22⟩
                  go_simp
                  with_reducible rfl
                 rotate_left
                 ·simp only [Act.put, q_]
                  rfl
                 refine take_ (i := 6) (N := some 29) (v := ?_) (a' := ?_) tb36_7ff_11 rfl rfl (take_ofW HT_.out HW_.out (by kernel_rfl)) (fun _ _ _ h => h) (Or.inl ⟨by rfl, ?_⟩) hHeld ?_ ?_
                 rotate_left
                 ·rintro w' ⟨s0, s1, s2, s3, s4, s5, s6, s7, s8, s9, s10, s11, s12, s13, s14, s15, s16, s17, s18, s19, s20, s21, s22⟩
                  go_simp
                  with_reducible rfl
                 rotate_left
                 ·simp only [Act.put, q_]
                  rfl
                 refine take_ (i := 11) (N := some 34) (v := ?_) (a' := ?_) tb36_fff_11 rfl rfl (take_ofW HT_.out HW_.out (by kernel_rfl)) (fun _ _ _ h => h) (Or.inl ⟨by rfl, ?_⟩) hHeld ?_ ?_
                 rotate_left
                 ·rintro w' ⟨s0, s1, s2, s3, s4, s5, s6, s7, s8, s9, s10, s11, s12, s13, s14, s15, s16, s17, s18, s19, s20, s21, s22⟩
                  go_simp
                  with_reducible rfl
                 rotate_left
                 ·simp only [Act.put, q_]
                  rfl
                 refine pl_ HT_ 12 35 tb36_1fff_11 ?_
                 refine pl_ HT_ 13 36 tb36_3fff_11 ?_
                 refine take_ (i := 14) (N := some 37) (v := ?_) (a' := ?_) tb36_7fff_11 rfl rfl (take_ofW HT_.out HW_.out (by kernel_rfl)) (fun _ _ _ h => h) (Or.inl ⟨by rfl, ?_⟩) hHeld ?_ ?_
                 rotate_left
                 ·rintro w' ⟨s0, s1, s2, s3, s4, s5, s6, s7, s8, s9, s10, s11, s12, s13, s14, s15, s16, s17, s18, s19, s20, s21, s22⟩
                  go_simp
                  with_reducible rfl
                 rotate_left
                 ·simp only [Act.put, q_]
                  rfl
                 refine pl_ HT_ 15 38 tb36_ffff_11 ?_
                 refine pl_ HT_ 16 39 tb36_1ffff_11 ?_
                 refine pl_ HT_ 17 40 tb36_3ffff_11 ?_
                 refine pl_ HT_ 18 41 tb36_7ffff_11 ?_
                 refine pl_ HT_ 20 43 tb36_17ffff_11 ?_
                 refine take_ (i := 19) (N := some 42) (v := ?_) (a' := ?_) tb36_1fffff_11 rfl rfl (take_ofW HT_.out HW_.out (by kernel_rfl)) (fun _ _ _ h => h) (Or.inl ⟨by rfl, ?_⟩) hHeld ?_ ?_
                 rotate_left
                 ·rintro w' ⟨s0, s1, s2, s3, s4, s5, s6, s7, s8, s9, s10, s11, s12, s13, s14, s15, s16, s17, s18, s19, s20, s21, s22⟩
                  go_simp
                  with_reducible rfl
                 rotate_left
                 ·simp only [Act.put, q_]
                  rfl
                 refine take_ (i := 21) (N := some 44) (v := ?_) (a' := ?_) tb36_3fffff_11 rfl rfl (take_ofW HT_.out HW_.out (by kernel_rfl)) (fun _ _ _ h => h) (Or.inl ⟨by rfl, ?_⟩) hHeld ?_ ?_
                 rotate_left
                 ·rintro w' ⟨s0, s1, s2, s3, s4, s5, s6, s7, s8, s9, s10, s11, s12, s13, s14, s15, s16, s17, s18, s19, s20, s21, s22⟩
                  go_simp
                  with_reducible rfl
                 rotate_left
                 ·simp only [Act.put, q_]
                  rfl
                 refine pl_ HT_ 22 45 tb36_7fffff_11 ?_
                 refine pl_ HT_ 23 46 tb36_ffffff_11 ?_
                 refine pl_ HT_ 24 47 tb36_1ffffff_11 ?_
                 refine pl_ HT_ 25 48 tb36_3ffffff_11 ?_
                 refine take_ (i := 26) (N := some 49) (v := ?_) (a' := ?_) tb36_7ffffff_11 rfl rfl (take_ofW HT_.out HW_.out (by kernel_rfl)) (fun _ _ _ h => h) (Or.inl ⟨by rfl, ?_⟩) hHeld ?_ ?_
                 rotate_left
                 ·rintro w' ⟨s0, s1, s2, s3, s4, s5, s6, s7, s8, s9, s10, s11, s12, s13, s14, s15, s16, s17, s18, s19, s20, s21, s22⟩
                  go_simp
                  with_reducible rfl
                 rotate_left
                 ·simp only [Act.put, q_]
                  rfl
                 refine pl_ HT_ 27 50 tb36_fffffff_11 ?_
                 refine pl_ HT_ 28 51 tb36_1fffffff_11 ?_
                 refine pl_ HT_ 29 52 tb36_3fffffff_11 ?_
                 refine pl_ HT_ 31 54 tb36_bfffffff_11 ?_
                 refine take_ (i := 30) (N := some 53) (v := ?_) (a' := ?_) tb36_ffffffff_11 rfl rfl (take_ofW HT_.out HW_.out (by kernel_rfl)) (fun _ _ _ h => h) (Or.inl ⟨by rfl, ?_⟩) hHeld ?_ ?_
                 rotate_left
                 ·rintro w' ⟨s0, s1, s2, s3, s4, s5, s6, s7, s8, s9, s10, s11, s12, s13, s14, s15, s16, s17, s18, s19, s20, s21, s22⟩
                  go_simp
                  with_reducible rfl
                 rotate_left
                 ·simp only [Act.put, q_]
                  rfl
                 refine take_ (i := 32) (N := some 55) (v := ?_) (a' := ?_) tb36_1ffffffff_11 rfl rfl (take_ofW HT_.out HW_.out (by kernel_rfl)) (fun _ _ _ h => h) (Or.inl ⟨by rfl, ?_⟩) hHeld ?_ ?_
                 rotate_left
                 ·rintro w' ⟨s0, s1, s2, s3, s4, s5, s6, s7, s8, s9, s10, s11, s12, s13, s14, s15, s16, s17, s18, s19, s20, s21, s22⟩
                  go_simp
                  with_reducible rfl
                 rotate_left
                 ·simp only [Act.put, q_]
                  rfl
                 refine pl_ HT_ 33 56 tb36_3ffffffff_11 ?_
                 refine pl_ HT_ 34 57 tb36_7ffffffff_11 ?_
                 refine pl_ HT_ 35 58 tb36_fffffffff_11 ?_
                 refine done_ (done_of HT_.out (by kernel_rfl)) ?_
                 try go_wp2
                 go_meet
                 case rel => exact ⟨_, (decide (((rd_T126 l0_3 (rd t393 x13_1)).f5) > ((rd_T126 l0_3 (rd t393 x13_1)).f6))), sp_, H', ⟨by have := HK1.out; first | omega | exact Nat.le_refl _⟩, ⟨ra_ HO_3⟩, ⟨ra_ HO_11⟩, ⟨by (with_reducible repeat (first | refine blk_drewN ?_ _ | refine blk_drew ?_ | refine blk_alloc ?_ _)); exact BK392.out⟩, ⟨by (with_reducible repeat (first | refine blk_drewN ?_ _ | refine blk_drew ?_ | refine blk_alloc ?_ _)); exact BK398.out⟩, ⟨bl_⟩⟩
             ·rw [if_neg c22] at H
              exact absurd H (by simp)
            ·rw [if_neg c21] at H
             exact absurd H (by simp)
           ·rw [if_neg c20] at H
            exact absurd H (by simp)
          ·rw [if_neg c19] at H
           exact absurd H (by simp)
         ·rw [if_neg c17] at H
          have c17b0 : decide (0 < x13_1) = false := decide_eq_false c17
          clear c17
          (first | rw [c17b0] | (simp only [i64_w, i32_w]; rw [c17b0]) | skip)
          by_cases c34 : ((rd_T126 l0_3 (rd t393 x13_1)).f5) < ((rd_T126 l0_3 (rd t393 x13_1)).f4)
          ·rw [if_pos c34] at H
           have c34b0 : decide (((rd_T126 l0_3 (rd t393 x13_1)).f5) < ((rd_T126 l0_3 (rd t393 x13_1)).f4)) = true := decide_eq_true c34
           clear c34
           have H' := Aside0.mk H
           clear H
           try go_wp2
           have n0_ := Aside0.mk (Kd.R_mono (ok' := fun _ => True) (Kd.R_far (p := ⟨gb398, 8, none⟩) (Kd.R_far (p := ⟨gb398, 7, none⟩) (Kd.R_far (p := ⟨gb398, 6, none⟩) (Kd.R_far (p := ⟨gb398, 5, none⟩) (Kd.R_far (p := ⟨gb398, 4, none⟩) (Kd.R_far (p := ⟨gb398, 3, none⟩) (Kd.R_far (p := ⟨gb398, 2, none⟩) (Kd.R_far (p := ⟨gb398, 1, none⟩) (Kd.R_far (p := ⟨gb398, 0, none⟩) (Kd.R_types HO_3.out BK398.out (by decide)) (fun _ hk => hk.2) (.slice A397_0 ((rd_T126 l0_3 (rd t393 x13_1)).f0).length c397_0)) (fun _ hk => hk.2) (.int .i64 ((rd_T126 l0_3 (rd t393 x13_1)).f1))) (fun _ hk => hk.2) (.slice A397_2 ((rd_T126 l0_3 (rd t393 x13_1)).f2).length c397_2)) (fun _ hk => hk.2) (.int .i64 ((rd_T126 l0_3 (rd t393 x13_1)).f3))) (fun _ hk => hk.2) (.int .i64 ((rd_T126 l0_3 (rd t393 x13_1)).f4))) (fun _ hk => hk.2) (.int .i64 ((rd_T126 l0_3 (rd t393 x13_1)).f5))) (fun _ hk => hk.2) (.int .i64 ((rd_T126 l0_3 (rd t393 x13_1)).f6))) (fun _ hk => hk.2) (.int .i64 ((rd_T126 l0_3 (rd t393 x13_1)).f7))) (fun _ hk => hk.2) (.slice A397_8 ((rd_T126 l0_3 (rd t393 x13_1)).f8).length c397_8)) (fun _ hk => trivial))
           have n1_ := Aside0.mk (Kd.R_mono (ok' := fun _ => True) (Kd.R_far (p := ⟨gb398, 8, none⟩) (Kd.R_far (p := ⟨gb398, 7, none⟩) (Kd.R_far (p := ⟨gb398, 6, none⟩) (Kd.R_far (p := ⟨gb398, 5, none⟩) (Kd.R_far (p := ⟨gb398, 4, none⟩) (Kd.R_far (p := ⟨gb398, 3, none⟩) (Kd.R_far (p := ⟨gb398, 2, none⟩) (Kd.R_far (p := ⟨gb398, 1, none⟩) (Kd.R_far (p := ⟨gb398, 0, none⟩) (Kd.R_types HO_11.out BK398.out (by decide)) (fun _ hk => hk.2) (.slice A397_0 ((rd_T126 l0_3 (rd t393 x13_1)).f0).length c397_0)) (fun _ hk => hk.2) (.int .i64 ((rd_T126 l0_3 (rd t393 x13_1)).f1))) (fun _ hk => hk.2) (.slice A397_2 ((rd_T126 l0_3 (rd t393 x13_1)).f2).length c397_2)) (fun _ hk => hk.2) (.int .i64 ((rd_T126 l0_3 (rd t393 x13_1)).f3))) (fun _ hk => hk.2) (.int .i64 ((rd_T126 l0_3 (rd t393 x13_1)).f4))) (fun _ hk => hk.2) (.int .i64 ((rd_T126 l0_3 (rd t393 x13_1)).f5))) (fun _ hk => hk.2) (.int .i64 ((rd_T126 l0_3 (rd t393 x13_1)).f6))) (fun _ hk => hk.2) (.int .i64 ((rd_T126 l0_3 (rd t393 x13_1)).f7))) (fun _ hk => hk.2) (.slice A397_8 ((rd_T126 l0_3 (rd t393 x13_1)).f8).length c397_8)) (fun _ hk => trivial))
           have n2_ : Aside0 ((((((((((w14.setCell ⟨gb398, 0, none⟩ (.slice A397_0 ((rd_T126 l0_3 (rd t393 x13_1)).f0).length c397_0)).setCell ⟨gb398, 1, none⟩ (.int .i64 ((rd_T126 l0_3 (rd t393 x13_1)).f1))).setCell ⟨gb398, 2, none⟩ (.slice A397_2 ((rd_T126 l0_3 (rd t393 x13_1)).f2).length c397_2)).setCell ⟨gb398, 3, none⟩ (.int .i64 ((rd_T126 l0_3 (rd t393 x13_1)).f3))).setCell ⟨gb398, 4, none⟩ (.int .i64 ((rd_T126 l0_3 (rd t393 x13_1)).f4))).setCell ⟨gb398, 5, none⟩ (.int .i64 ((rd_T126 l0_3 (rd t393 x13_1)).f5))).setCell ⟨gb398, 6, none⟩ (.int .i64 ((rd_T126 l0_3 (rd t393 x13_1)).f6))).setCell ⟨gb398, 7, none⟩ (.int .i64 ((rd_T126 l0_3 (rd t393 x13_1)).f7))).setCell ⟨gb398, 8, none⟩ (.slice A397_8 ((rd_T126 l0_3 (rd t393 x13_1)).f8).length c397_8)).heap[gb392]? = some (.cells #[.slice A0_0 l0_0.length c0_0, .int .i64 a0_1, .int .i64 a0_2, .slice (some ad397) l0_3.length c0_3] 56 (0, 0))) := ⟨by (repeat (with_reducible refine blk_far ?_ NB392_398.out _)); exact BK392.out⟩
           have n3_ : Aside0 ((((((((((w14.setCell ⟨gb398, 0, none⟩ (.slice A397_0 ((rd_T126 l0_3 (rd t393 x13_1)).f0).length c397_0)).setCell ⟨gb398, 1, none⟩ (.int .i64 ((rd_T126 l0_3 (rd t393 x13_1)).f1))).setCell ⟨gb398, 2, none⟩ (.slice A397_2 ((rd_T126 l0_3 (rd t393 x13_1)).f2).length c397_2)).setCell ⟨gb398, 3, none⟩ (.int .i64 ((rd_T126 l0_3 (rd t393 x13_1)).f3))).setCell ⟨gb398, 4, none⟩ (.int .i64 ((rd_T126 l0_3 (rd t393 x13_1)).f4))).setCell ⟨gb398, 5, none⟩ (.int .i64 ((rd_T126 l0_3 (rd t393 x13_1)).f5))).setCell ⟨gb398, 6, none⟩ (.int .i64 ((rd_T126 l0_3 (rd t393 x13_1)).f6))).setCell ⟨gb398, 7, none⟩ (.int .i64 ((rd_T126 l0_3 (rd t393 x13_1)).f7))).setCell ⟨gb398, 8, none⟩ (.slice A397_8 ((rd_T126 l0_3 (rd t393 x13_1)).f8).length c397_8)).heap[gb398]? = some (.cells #[.slice A397_0 ((rd_T126 l0_3 (rd t393 x13_1)).f0).length c397_0, .int .i64 ((rd_T126 l0_3 (rd t393 x13_1)).f1), .slice A397_2 ((rd_T126 l0_3 (rd t393 x13_1)).f2).length c397_2, .int .i64 ((rd_T126 l0_3 (rd t393 x13_1)).f3), .int .i64 ((rd_T126 l0_3 (rd t393 x13_1)).f4), .int .i64 ((rd_T126 l0_3 (rd t393 x13_1)).f5), .int .i64 ((rd_T126 l0_3 (rd t393 x13_1)).f6), .int .i64 ((rd_T126 l0_3 (rd t393 x13_1)).f7), .slice A397_8 ((rd_T126 l0_3 (rd t393 x13_1)).f8).length c397_8] 126 (0, 0))) := ⟨by (with_reducible repeat (first | refine blk_drewN ?_ _ | refine blk_drew ?_ | refine blk_alloc ?_ _)); apply bq9_8_7_6_5_4_3_2_1_0_; (with_reducible repeat (first | refine blk_drewN ?_ _ | refine blk_drew ?_ | refine blk_alloc ?_ _)); exact BK398.out⟩
           have n4_ : Aside0 (Below w.heap.size w (((((((((w14.setCell ⟨gb398, 0, none⟩ (.slice A397_0 ((rd_T126 l0_3 (rd t393 x13_1)).f0).length c397_0)).setCell ⟨gb398, 1, none⟩ (.int .i64 ((rd_T126 l0_3 (rd t393 x13_1)).f1))).setCell ⟨gb398, 2, none⟩ (.slice A397_2 ((rd_T126 l0_3 (rd t393 x13_1)).f2).length c397_2)).setCell ⟨gb398, 3, none⟩ (.int .i64 ((rd_T126 l0_3 (rd t393 x13_1)).f3))).setCell ⟨gb398, 4, none⟩ (.int .i64 ((rd_T126 l0_3 (rd t393 x13_1)).f4))).setCell ⟨gb398, 5, none⟩ (.int .i64 ((rd_T126 l0_3 (rd t393 x13_1)).f5))).setCell ⟨gb398, 6, none⟩ (.int .i64 ((rd_T126 l0_3 (rd t393 x13_1)).f6))).setCell ⟨gb398, 7, none⟩ (.int .i64 ((rd_T126 l0_3 (rd t393 x13_1)).f7))).setCell ⟨gb398, 8, none⟩ (.slice A397_8 ((rd_T126 l0_3 (rd t393 x13_1)).f8).length c397_8))) := ⟨bl_⟩
           (try clear HO_3)
           (try clear HO_11)
           (try clear BK392)
           (try clear BK398)
           (try clear HB)
           generalize (((((((((w14.setCell ⟨gb398, 0, none⟩ (.slice A397_0 ((rd_T126 l0_3 (rd t393 x13_1)).f0).length c397_0)).setCell ⟨gb398, 1, none⟩ (.int .i64 ((rd_T126 l0_3 (rd t393 x13_1)).f1))).setCell ⟨gb398, 2, none⟩ (.slice A397_2 ((rd_T126 l0_3 (rd t393 x13_1)).f2).length c397_2)).setCell ⟨gb398, 3, none⟩ (.int .i64 ((rd_T126 l0_3 (rd t393 x13_1)).f3))).setCell ⟨gb398, 4, none⟩ (.int .i64 ((rd_T126 l0_3 (rd t393 x13_1)).f4))).setCell ⟨gb398, 5, none⟩ (.int .i64 ((rd_T126 l0_3 (rd t393 x13_1)).f5))).setCell ⟨gb398, 6, none⟩ (.int .i64 ((rd_T126 l0_3 (rd t393 x13_1)).f6))).setCell ⟨gb398, 7, none⟩ (.int .i64 ((rd_T126 l0_3 (rd t393 x13_1)).f7))).setCell ⟨gb398, 8, none⟩ (.slice A397_8 ((rd_T126 l0_3 (rd t393 x13_1)).f8).length c397_8)) = w35 at n0_ n1_ n2_ n3_ n4_ ⊢
           have HO_3 := n0_
           have HO_11 := n1_
           have BK392 := n2_
           have BK398 := n3_
           have HB := n4_
           clear n0_ n1_ n2_ n3_ n4_
           have n0_ := Aside0.mk (Kd.R_drew HO_3.out)
           have n1_ := Aside0.mk (Kd.R_drew HO_11.out)
           have n2_ := Aside0.mk (blk_drew BK392.out)
           have n3_ := Aside0.mk (blk_drew BK398.out)
           have n4_ := Aside0.mk (below_drew1 HB.out)
           clear HO_3
           clear HO_11
           clear BK392
           clear BK398
           clear HB
           have HO_3 := n0_
           have HO_11 := n1_
           have BK392 := n2_
           have BK398 := n3_
           have HB := n4_
           clear n0_ n1_ n2_ n3_ n4_
           refine start_ (n := 36) (S := fun w' => w'.cell? ⟨gb398, 0, none⟩ = some (.slice A397_0 ((rd_T126 l0_3 (rd t393 x13_1)).f0).length c397_0) ∧ w'.cell? ⟨gb398, 1, none⟩ = some (.int .i64 ((rd_T126 l0_3 (rd t393 x13_1)).f1)) ∧ w'.cell? ⟨gb398, 2, none⟩ = some (.slice A397_2 ((rd_T126 l0_3 (rd t393 x13_1)).f2).length c397_2) ∧ w'.cell? ⟨gb398, 3, none⟩ = some (.int .i64 ((rd_T126 l0_3 (rd t393 x13_1)).f3)) ∧ w'.cell? ⟨gb398, 4, none⟩ = some (.int .i64 ((rd_T126 l0_3 (rd t393 x13_1)).f4)) ∧ w'.cell? ⟨gb398, 5, none⟩ = some (.int .i64 ((rd_T126 l0_3 (rd t393 x13_1)).f5)) ∧ w'.cell? ⟨gb398, 6, none⟩ = some (.int .i64 ((rd_T126 l0_3 (rd t393 x13_1)).f6)) ∧ w'.cell? ⟨gb398, 7, none⟩ = some (.int .i64 ((rd_T126 l0_3 (rd t393 x13_1)).f7)) ∧ w'.cell? ⟨gb398, 8, none⟩ = some (.slice A397_8 ((rd_T126 l0_3 (rd t393 x13_1)).f8).length c397_8)) (ds := []) tb36_0_11 (by kernel_rfl) rfl rfl ⟨cy_ BK398 0, cy_ BK398 1, cy_ BK398 2, cy_ BK398 3, cy_ BK398 4, cy_ BK398 5, cy_ BK398 6, cy_ BK398 7, cy_ BK398 8⟩ (fun hHeld => ?_); refine with_tabW impl_InOrder.tab6 impl_InOrder.bits6 (fun HT_ HW_ => ?_)
           generalize w35.drew = w36 at HO_3 HO_11 BK392 BK398 HB hHeld ⊢
           refine pl_ HT_ 0 23 tb36_1_11 ?_
           refine pl_ HT_ 1 24 tb36_3_11 ?_
           refine pl_ HT_ 2 25 tb36_7_11 ?_
           refine pr_ HT_ 3 26 tb36_f_11 ?_
           refine pr_ HT_ 4 27 tb36_1f_11 ?_
           refine pr_ HT_ 5 28 tb36_3f_11 ?_
           refine pr_ HT_ 6 29 tb36_7f_11 ?_
           refine pr_ HT_ 7 30 tb36_ff_11 ?_
           refine pr_ HT_ 8 31 tb36_1ff_11 ?_
           refine pr_ HT_ 9 32 tb36_3ff_11 ?_
           refine pr_ HT_ 10 33 tb36_7ff_11 ?_
           refine pr_ HT_ 11 34 tb36_fff_11 ?_
           refine pr_ HT_ 12 35 tb36_1fff_11 ?_
           refine pr_ HT_ 13 36 tb36_3fff_11 ?_
           refine pr_ HT_ 14 37 tb36_7fff_11 ?_
           refine pr_ HT_ 15 38 tb36_ffff_11 ?_
           refine pl_ HT_ 16 39 tb36_1ffff_11 ?_
           refine pl_ HT_ 17 40 tb36_3ffff_11 ?_
           refine pl_ HT_ 18 41 tb36_7ffff_11 ?_
           refine pl_ HT_ 20 43 tb36_17ffff_11 ?_
           refine take_ (i := 19) (N := some 42) (v := ?_) (a' := ?_) tb36_1fffff_11 rfl rfl (take_ofW HT_.out HW_.out (by kernel_rfl)) (fun _ _ _ h => h) (Or.inl ⟨by rfl, ?_⟩) hHeld ?_ ?_
           rotate_left
           ·rintro w' ⟨s0, s1, s2, s3, s4, s5, s6, s7, s8⟩
            go_simp
            with_reducible rfl
           rotate_left
           ·simp only [Act.put, q_]
            rfl
           refine take_ (i := 21) (N := some 44) (v := ?_) (a' := ?_) tb36_3fffff_11 rfl rfl (take_ofW HT_.out HW_.out (by kernel_rfl)) (fun _ _ _ h => h) (Or.inl ⟨by rfl, ?_⟩) hHeld ?_ ?_
           rotate_left
           ·rintro w' ⟨s0, s1, s2, s3, s4, s5, s6, s7, s8⟩
            go_simp
            with_reducible rfl
           rotate_left
           ·simp only [Act.put, q_]
            rfl
           refine pl_ HT_ 22 45 tb36_7fffff_11 ?_
           refine pl_ HT_ 23 46 tb36_ffffff_11 ?_
           refine pl_ HT_ 24 47 tb36_1ffffff_11 ?_
           refine pr_ HT_ 25 48 tb36_3ffffff_11 ?_
           refine pr_ HT_ 26 49 tb36_7ffffff_11 ?_
           refine pr_ HT_ 27 50 tb36_fffffff_11 ?_
           refine pr_ HT_ 28 51 tb36_1fffffff_11 ?_
           refine pr_ HT_ 29 52 tb36_3fffffff_11 ?_
           refine pr_ HT_ 30 53 tb36_7fffffff_11 ?_
           refine pr_ HT_ 31 54 tb36_ffffffff_11 ?_
           refine pr_ HT_ 32 55 tb36_1ffffffff_11 ?_
           refine pr_ HT_ 33 56 tb36_3ffffffff_11 ?_
           refine pr_ HT_ 34 57 tb36_7ffffffff_11 ?_
           refine pl_ HT_ 35 58 tb36_fffffffff_11 ?_
           refine done_ (done_of HT_.out (by kernel_rfl)) ?_
           try go_wp2
           go_meet
           case rel => exact ⟨_, (true), sp_, H', ⟨by have := HK1.out; first | omega | exact Nat.le_refl _⟩, ⟨ra_ HO_3⟩, ⟨ra_ HO_11⟩, ⟨by (with_reducible repeat (first | refine blk_drewN ?_ _ | refine blk_drew ?_ | refine blk_alloc ?_ _)); exact BK392.out⟩, ⟨by (with_reducible repeat (first | refine blk_drewN ?_ _ | refine blk_drew ?_ | refine blk_alloc ?_ _)); exact BK398.out⟩, ⟨bl_⟩⟩
          ·rw [if_neg c34] at H
           have c34b0 : decide (((rd_T126 l0_3 (rd t393 x13_1)).f5) < ((rd_T126 l0_3 (rd t393 x13_1)).f4)) = false := decide_eq_false c34
           clear c34
           by_cases c37 : ((rd_T126 l0_3 (rd t393 x13_1)).f6) = (-1)
           ·rw [if_pos c37] at H
            have c37b0 : (((rd_T126 l0_3 (rd t393 x13_1)).f6) == (-1)) = true := beq_iff_eq.mpr c37
            have c37b1 : (((rd_T126 l0_3 (rd t393 x13_1)).f6) != (-1)) = false := bne_eq_false_iff_eq.mpr c37
            clear c37
            have H' := Aside0.mk H
            clear H
            try go_wp2
            have n0_ := Aside0.mk (Kd.R_mono (ok' := fun _ => True) (Kd.R_far (p := ⟨gb398, 8, none⟩) (Kd.R_far (p := ⟨gb398, 7, none⟩) (Kd.R_far (p := ⟨gb398, 6, none⟩) (Kd.R_far (p := ⟨gb398, 5, none⟩) (Kd.R_far (p := ⟨gb398, 4, none⟩) (Kd.R_far (p := ⟨gb398, 3, none⟩) (Kd.R_far (p := ⟨gb398, 2, none⟩) (Kd.R_far (p := ⟨gb398, 1, none⟩) (Kd.R_far (p := ⟨gb398, 0, none⟩) (Kd.R_types HO_3.out BK398.out (by decide)) (fun _ hk => hk.2) (.slice A397_0 ((rd_T126 l0_3 (rd t393 x13_1)).f0).length c397_0)) (fun _ hk => hk.2) (.int .i64 ((rd_T126 l0_3 (rd t393 x13_1)).f1))) (fun _ hk => hk.2) (.slice A397_2 ((rd_T126 l0_3 (rd t393 x13_1)).f2).length c397_2)) (fun _ hk => hk.2) (.int .i64 ((rd_T126 l0_3 (rd t393 x13_1)).f3))) (fun _ hk => hk.2) (.int .i64 ((rd_T126 l0_3 (rd t393 x13_1)).f4))) (fun _ hk => hk.2) (.int .i64 ((rd_T126 l0_3 (rd t393 x13_1)).f5))) (fun _ hk => hk.2) (.int .i64 ((rd_T126 l0_3 (rd t393 x13_1)).f6))) (fun _ hk => hk.2) (.int .i64 ((rd_T126 l0_3 (rd t393 x13_1)).f7))) (fun _ hk => hk.2) (.slice A397_8 ((rd_T126 l0_3 (rd t393 x13_1)).f8).length c397_8)) (fun _ hk => trivial))
            have n1_ := Aside0.mk (Kd.R_mono (ok' := fun _ => True) (Kd.R_far (p := ⟨gb398, 8, none⟩) (Kd.R_far (p := ⟨gb398, 7, none⟩) (Kd.R_far (p := ⟨gb398, 6, none⟩) (Kd.R_far (p := ⟨gb398, 5, none⟩) (Kd.R_far (p := ⟨gb398, 4, none⟩) (Kd.R_far (p := ⟨gb398, 3, none⟩) (Kd.R_far (p := ⟨gb398, 2, none⟩) (Kd.R_far (p := ⟨gb398, 1, none⟩) (Kd.R_far (p := ⟨gb398, 0, none⟩) (Kd.R_types HO_11.out BK398.out (by decide)) (fun _ hk => hk.2) (.slice A397_0 ((rd_T126 l0_3 (rd t393 x13_1)).f0).length c397_0)) (fun _ hk => hk.2) (.int .i64 ((rd_T126 l0_3 (rd t393 x13_1)).f1))) (fun _ hk => hk.2) (.slice A397_2 ((rd_T126 l0_3 (rd t393 x13_1)).f2).length c397_2)) (fun _ hk => hk.2) (.int .i64 ((rd_T126 l0_3 (rd t393 x13_1)).f3))) (fun _ hk => hk.2) (.int .i64 ((rd_T126 l0_3 (rd t393 x13_1)).f4))) (fun _ hk => hk.2) (.int .i64 ((rd_T126 l0_3 (rd t393 x13_1)).f5))) (fun _ hk => hk.2) (.int .i64 ((rd_T126 l0_3 (rd t393 x13_1)).f6))) (fun _ hk => hk.2) (.int .i64 ((rd_T126 l0_3 (rd t393 x13_1)).f7))) (fun _ hk => hk.2) (.slice A397_8 ((rd_T126 l0_3 (rd t393 x13_1)).f8).length c397_8)) (fun _ hk => trivial))
            have n2_ : Aside0 ((((((((((w14.setCell ⟨gb398, 0, none⟩ (.slice A397_0 ((rd_T126 l0_3 (rd t393 x13_1)).f0).length c397_0)).setCell ⟨gb398, 1, none⟩ (.int .i64 ((rd_T126 l0_3 (rd t393 x13_1)).f1))).setCell ⟨gb398, 2, none⟩ (.slice A397_2 ((rd_T126 l0_3 (rd t393 x13_1)).f2).length c397_2)).setCell ⟨gb398, 3, none⟩ (.int .i64 ((rd_T126 l0_3 (rd t393 x13_1)).f3))).setCell ⟨gb398, 4, none⟩ (.int .i64 ((rd_T126 l0_3 (rd t393 x13_1)).f4))).setCell ⟨gb398, 5, none⟩ (.int .i64 ((rd_T126 l0_3 (rd t393 x13_1)).f5))).setCell ⟨gb398, 6, none⟩ (.int .i64 ((rd_T126 l0_3 (rd t393 x13_1)).f6))).setCell ⟨gb398, 7, none⟩ (.int .i64 ((rd_T126 l0_3 (rd t393 x13_1)).f7))).setCell ⟨gb398, 8, none⟩ (.slice A397_8 ((rd_T126 l0_3 (rd t393 x13_1)).f8).length c397_8)).heap[gb392]? = some (.cells #[.slice A0_0 l0_0.length c0_0, .int .i64 a0_1, .int .i64 a0_2, .slice (some ad397) l0_3.length c0_3] 56 (0, 0))) := ⟨by (repeat (with_reducible refine blk_far ?_ NB392_398.out _)); exact BK392.out⟩
            have n3_ : Aside0 ((((((((((w14.setCell ⟨gb398, 0, none⟩ (.slice A397_0 ((rd_T126 l0_3 (rd t393 x13_1)).f0).length c397_0)).setCell ⟨gb398, 1, none⟩ (.int .i64 ((rd_T126 l0_3 (rd t393 x13_1)).f1))).setCell ⟨gb398, 2, none⟩ (.slice A397_2 ((rd_T126 l0_3 (rd t393 x13_1)).f2).length c397_2)).setCell ⟨gb398, 3, none⟩ (.int .i64 ((rd_T126 l0_3 (rd t393 x13_1)).f3))).setCell ⟨gb398, 4, none⟩ (.int .i64 ((rd_T126 l0_3 (rd t393 x13_1)).f4))).setCell ⟨gb398, 5, none⟩ (.int .i64 ((rd_T126 l0_3 (rd t393 x13_1)).f5))).setCell ⟨gb398, 6, none⟩ (.int .i64 ((rd_T126 l0_3 (rd t393 x13_1)).f6))).setCell ⟨gb398, 7, none⟩ (.int .i64 ((rd_T126 l0_3 (rd t393 x13_1)).f7))).setCell ⟨gb398, 8, none⟩ (.slice A397_8 ((rd_T126 l0_3 (rd t393 x13_1)).f8).length c397_8)).heap[gb398]? = some (.cells #[.slice A397_0 ((rd_T126 l0_3 (rd t393 x13_1)).f0).length c397_0, .int .i64 ((rd_T126 l0_3 (rd t393 x13_1)).f1), .slice A397_2 ((rd_T126 l0_3 (rd t393 x13_1)).f2).length c397_2, .int .i64 ((rd_T126 l0_3 (rd t393 x13_1)).f3), .int .i64 ((rd_T126 l0_3 (rd t393 x13_1)).f4), .int .i64 ((rd_T126 l0_3 (rd t393 x13_1)).f5), .int .i64 ((rd_T126 l0_3 (rd t393 x13_1)).f6), .int .i64 ((rd_T126 l0_3 (rd t393 x13_1)).f7), .slice A397_8 ((rd_T126 l0_3 (rd t393 x13_1)).f8).length c397_8] 126 (0, 0))) := ⟨by (with_reducible repeat (first | refine blk_drewN ?_ _ | refine blk_drew ?_ | refine blk_alloc ?_ _)); apply bq9_8_7_6_5_4_3_2_1_0_; (with_reducible repeat (first | refine blk_drewN ?_ _ | refine blk_drew ?_ | refine blk_alloc ?_ _)); exact BK398.out⟩
            have n4_ : Aside0 (Below w.heap.size w (((((((((w14.setCell ⟨gb398, 0, none⟩ (.slice A397_0 ((rd_T126 l0_3 (rd t393 x13_1)).f0).length c397_0)).setCell ⟨gb398, 1, none⟩ (.int .i64 ((rd_T126 l0_3 (rd t393 x13_1)).f1))).setCell ⟨gb398, 2, none⟩ (.slice A397_2 ((rd_T126 l0_3 (rd t393 x13_1)).f2).length c397_2)).setCell ⟨gb398, 3, none⟩ (.int .i64 ((rd_T126 l0_3 (rd t393 x13_1)).f3))).setCell ⟨gb398, 4, none⟩ (.int .i64 ((rd_T126 l0_3 (rd t393 x13_1)).f4))).setCell ⟨gb398, 5, none⟩ (.int .i64 ((rd_T126 l0_3 (rd t393 x13_1)).f5))).setCell ⟨gb398, 6, none⟩ (.int .i64 ((rd_T126 l0_3 (rd t393 x13_1)).f6))).setCell ⟨gb398, 7, none⟩ (.int .i64 ((rd_T126 l0_3 (rd t393 x13_1)).f7))).setCell ⟨gb398, 8, none⟩ (.slice A397_8 ((rd_T126 l0_3 (rd t393 x13_1)).f8).length c397_8))) := ⟨bl_⟩
            (try clear HO_3)
            (try clear HO_11)
            (try clear BK392)
            (try clear BK398)
            (try clear HB)
            generalize (((((((((w14.setCell ⟨gb398, 0, none⟩ (.slice A397_0 ((rd_T126 l0_3 (rd t393 x13_1)).f0).length c397_0)).setCell ⟨gb398, 1, none⟩ (.int .i64 ((rd_T126 l0_3 (rd t393 x13_1)).f1))).setCell ⟨gb398, 2, none⟩ (.slice A397_2 ((rd_T126 l0_3 (rd t393 x13_1)).f2).length c397_2)).setCell ⟨gb398, 3, none⟩ (.int .i64 ((rd_T126 l0_3 (rd t393 x13_1)).f3))).setCell ⟨gb398, 4, none⟩ (.int .i64 ((rd_T126 l0_3 (rd t393 x13_1)).f4))).setCell ⟨gb398, 5, none⟩ (.int .i64 ((rd_T126 l0_3 (rd t393 x13_1)).f5))).setCell ⟨gb398, 6, none⟩ (.int .i64 ((rd_T126 l0_3 (rd t393 x13_1)).f6))).setCell ⟨gb398, 7, none⟩ (.int .i64 ((rd_T126 l0_3 (rd t393 x13_1)).f7))).setCell ⟨gb398, 8, none⟩ (.slice A397_8 ((rd_T126 l0_3 (rd t393 x13_1)).f8).length c397_8)) = w38 at n0_ n1_ n2_ n3_ n4_ ⊢
            have HO_3 := n0_
            have HO_11 := n1_
            have BK392 := n2_
            have BK398 := n3_
            have HB := n4_
            clear n0_ n1_ n2_ n3_ n4_
            have n0_ := Aside0.mk (Kd.R_drew HO_3.out)
            have n1_ := Aside0.mk (Kd.R_drew HO_11.out)
            have n2_ := Aside0.mk (blk_drew BK392.out)
            have n3_ := Aside0.mk (blk_drew BK398.out)
            have n4_ := Aside0.mk (below_drew1 HB.out)
            clear HO_3
            clear HO_11
            clear BK392
            clear BK398
            clear HB
            have HO_3 := n0_
            have HO_11 := n1_
            have BK392 := n2_
            have BK398 := n3_
            have HB := n4_
            clear n0_ n1_ n2_ n3_ n4_
            refine start_ (n := 36) (S := fun w' => w'.cell? ⟨gb398, 0, none⟩ = some (.slice A397_0 ((rd_T126 l0_3 (rd t393 x13_1)).f0).length c397_0) ∧ w'.cell? ⟨gb398, 1, none⟩ = some (.int .i64 ((rd_T126 l0_3 (rd t393 x13_1)).f1)) ∧ w'.cell? ⟨gb398, 2, none⟩ = some (.slice A397_2 ((rd_T126 l0_3 (rd t393 x13_1)).f2).length c397_2) ∧ w'.cell? ⟨gb398, 3, none⟩ = some (.int .i64 ((rd_T126 l0_3 (rd t393 x13_1)).f3)) ∧ w'.cell? ⟨gb398, 4, none⟩ = some (.int .i64 ((rd_T126 l0_3 (rd t393 x13_1)).f4)) ∧ w'.cell? ⟨gb398, 5, none⟩ = some (.int .i64 ((rd_T126 l0_3 (rd t393 x13_1)).f5)) ∧ w'.cell? ⟨gb398, 6, none⟩ = some (.int .i64 ((rd_T126 l0_3 (rd t393 x13_1)).f6)) ∧ w'.cell? ⟨gb398, 7, none⟩ = some (.int .i64 ((rd_T126 l0_3 (rd t393 x13_1)).f7)) ∧ w'.cell? ⟨gb398, 8, none⟩ = some (.slice A397_8 ((rd_T126 l0_3 (rd t393 x13_1)).f8).length c397_8)) (ds := []) tb36_0_11 (by kernel_rfl) rfl rfl ⟨cy_ BK398 0, cy_ BK398 1, cy_ BK398 2, cy_ BK398 3, cy_ BK398 4, cy_ BK398 5, cy_ BK398 6, cy_ BK398 7, cy_ BK398 8⟩ (fun hHeld => ?_); refine with_tabW impl_InOrder.tab6 impl_InOrder.bits6 (fun HT_ HW_ => ?_)
            generalize w38.drew = w39 at HO_3 HO_11 BK392 BK398 HB hHeld ⊢
            refine pl_ HT_ 0 23 tb36_1_11 ?_
            refine pl_ HT_ 1 24 tb36_3_11 ?_
            refine pl_ HT_ 2 25 tb36_7_11 ?_
            refine pr_ HT_ 3 26 tb36_f_11 ?_
            refine pr_ HT_ 4 27 tb36_1f_11 ?_
            refine pr_ HT_ 5 28 tb36_3f_11 ?_
            refine pr_ HT_ 6 29 tb36_7f_11 ?_
            refine pr_ HT_ 7 30 tb36_ff_11 ?_
            refine pr_ HT_ 8 31 tb36_1ff_11 ?_
            refine pr_ HT_ 9 32 tb36_3ff_11 ?_
            refine pr_ HT_ 10 33 tb36_7ff_11 ?_
            refine pr_ HT_ 11 34 tb36_fff_11 ?_
            refine pr_ HT_ 12 35 tb36_1fff_11 ?_
            refine pr_ HT_ 13 36 tb36_3fff_11 ?_
            refine pr_ HT_ 14 37 tb36_7fff_11 ?_
            refine pr_ HT_ 15 38 tb36_ffff_11 ?_
            refine pl_ HT_ 16 39 tb36_1ffff_11 ?_
            refine pl_ HT_ 17 40 tb36_3ffff_11 ?_
            refine pl_ HT_ 18 41 tb36_7ffff_11 ?_
            refine pl_ HT_ 20 43 tb36_17ffff_11 ?_
            refine take_ (i := 19) (N := some 42) (v := ?_) (a' := ?_) tb36_1fffff_11 rfl rfl (take_ofW HT_.out HW_.out (by kernel_rfl)) (fun _ _ _ h => h) (Or.inl ⟨by rfl, ?_⟩) hHeld ?_ ?_
            rotate_left
            ·rintro w' ⟨s0, s1, s2, s3, s4, s5, s6, s7, s8⟩
             go_simp
             with_reducible rfl
            rotate_left
            ·simp only [Act.put, q_]
             rfl
            refine take_ (i := 21) (N := some 44) (v := ?_) (a' := ?_) tb36_3fffff_11 rfl rfl (take_ofW HT_.out HW_.out (by kernel_rfl)) (fun _ _ _ h => h) (Or.inl ⟨by rfl, ?_⟩) hHeld ?_ ?_
            rotate_left
            ·rintro w' ⟨s0, s1, s2, s3, s4, s5, s6, s7, s8⟩
             go_simp
             with_reducible rfl
            rotate_left
            ·simp only [Act.put, q_]
             rfl
            refine pl_ HT_ 22 45 tb36_7fffff_11 ?_
            refine pl_ HT_ 23 46 tb36_ffffff_11 ?_
            refine pl_ HT_ 24 47 tb36_1ffffff_11 ?_
            refine pl_ HT_ 25 48 tb36_3ffffff_11 ?_
            refine take_ (i := 26) (N := some 49) (v := ?_) (a' := ?_) tb36_7ffffff_11 rfl rfl (take_ofW HT_.out HW_.out (by kernel_rfl)) (fun _ _ _ h => h) (Or.inl ⟨by rfl, ?_⟩) hHeld ?_ ?_
            rotate_left
            ·rintro w' ⟨s0, s1, s2, s3, s4, s5, s6, s7, s8⟩
             go_simp
             with_reducible rfl
            rotate_left
            ·simp only [Act.put, q_]
             rfl
            refine pl_ HT_ 27 50 tb36_fffffff_11 ?_
            refine pl_ HT_ 28 51 tb36_1fffffff_11 ?_
            refine pr_ HT_ 29 52 tb36_3fffffff_11 ?_
            refine pr_ HT_ 30 53 tb36_7fffffff_11 ?_
            refine pr_ HT_ 31 54 tb36_ffffffff_11 ?_
            refine pr_ HT_ 32 55 tb36_1ffffffff_11 ?_
            refine pr_ HT_ 33 56 tb36_3ffffffff_11 ?_
            refine pl_ HT_ 34 57 tb36_7ffffffff_11 ?_
            refine pl_ HT_ 35 58 tb36_fffffffff_11 ?_
            refine done_ (done_of HT_.out (by kernel_rfl)) ?_
            try go_wp2
            go_meet
            case rel => exact ⟨_, (false), sp_, H', ⟨by have := HK1.out; first | omega | exact Nat.le_refl _⟩, ⟨ra_ HO_3⟩, ⟨ra_ HO_11⟩, ⟨by (with_reducible repeat (first | refine blk_drewN ?_ _ | refine blk_drew ?_ | refine blk_alloc ?_ _)); exact BK392.out⟩, ⟨by (with_reducible repeat (first | refine blk_drewN ?_ _ | refine blk_drew ?_ | refine blk_alloc ?_ _)); exact BK398.out⟩, ⟨bl_⟩⟩
           ·rw [if_neg c37] at H
            have c37b0 : (((rd_T126 l0_3 (rd t393 x13_1)).f6) == (-1)) = false := beq_eq_false_iff_ne.mpr c37
            have c37b1 : (((rd_T126 l0_3 (rd t393 x13_1)).f6) != (-1)) = true := bne_iff_ne.mpr c37
            have H' := Aside0.mk H
            clear H
            try go_wp2
            have n0_ := Aside0.mk (Kd.R_mono (ok' := fun _ => True) (Kd.R_far (p := ⟨gb398, 8, none⟩) (Kd.R_far (p := ⟨gb398, 7, none⟩) (Kd.R_far (p := ⟨gb398, 6, none⟩) (Kd.R_far (p := ⟨gb398, 5, none⟩) (Kd.R_far (p := ⟨gb398, 4, none⟩) (Kd.R_far (p := ⟨gb398, 3, none⟩) (Kd.R_far (p := ⟨gb398, 2, none⟩) (Kd.R_far (p := ⟨gb398, 1, none⟩) (Kd.R_far (p := ⟨gb398, 0, none⟩) (Kd.R_types HO_3.out BK398.out (by decide)) (fun _ hk => hk.2) (.slice A397_0 ((rd_T126 l0_3 (rd t393 x13_1)).f0).length c397_0)) (fun _ hk => hk.2) (.int .i64 ((rd_T126 l0_3 (rd t393 x13_1)).f1))) (fun _ hk => hk.2) (.slice A397_2 ((rd_T126 l0_3 (rd t393 x13_1)).f2).length c397_2)) (fun _ hk => hk.2) (.int .i64 ((rd_T126 l0_3 (rd t393 x13_1)).f3))) (fun _ hk => hk.2) (.int .i64 ((rd_T126 l0_3 (rd t393 x13_1)).f4))) (fun _ hk => hk.2) (.int .i64 ((rd_T126 l0_3 (rd t393 x13_1)).f5))) (fun _ hk => hk.2) (.int .i64 ((rd_T126 l0_3 (rd t393 x13_1)).f6))) (fun _ hk => hk.2) (.int .i64 ((rd_T126 l0_3 (rd t393 x13_1)).f7))) (fun _ hk => hk.2) (.slice A397_8 ((rd_T126 l0_3 (rd t393 x13_1)).f8).length c397_8)) (fun _ hk => trivial))
            have n1_ := Aside0.mk (Kd.R_mono (ok' := fun _ => True) (Kd.R_far (p := ⟨gb398, 8, none⟩) (Kd.R_far (p := ⟨gb398, 7, none⟩) (Kd.R_far (p := ⟨gb398, 6, none⟩) (Kd.R_far (p := ⟨gb398, 5, none⟩) (Kd.R_far (p := ⟨gb398, 4, none⟩) (Kd.R_far (p := ⟨gb398, 3, none⟩) (Kd.R_far (p := ⟨gb398, 2, none⟩) (Kd.R_far (p := ⟨gb398, 1, none⟩) (Kd.R_far (p := ⟨gb398, 0, none⟩) (Kd.R_types HO_11.out BK398.out (by decide)) (fun _ hk => hk.2) (.slice A397_0 ((rd_T126 l0_3 (rd t393 x13_1)).f0).length c397_0)) (fun _ hk => hk.2) (.int .i64 ((rd_T126 l0_3 (rd t393 x13_1)).f1))) (fun _ hk => hk.2) (.slice A397_2 ((rd_T126 l0_3 (rd t393 x13_1)).f2).length c397_2)) (fun _ hk => hk.2) (.int .i64 ((rd_T126 l0_3 (rd t393 x13_1)).f3))) (fun _ hk => hk.2) (.int .i64 ((rd_T126 l0_3 (rd t393 x13_1)).f4))) (fun _ hk => hk.2) (.int .i64 ((rd_T126 l0_3 (rd t393 x13_1)).f5))) (fun _ hk => hk.2) (.int .i64 ((rd_T126 l0_3 (rd t393 x13_1)).f6))) (fun _ hk => hk.2) (.int .i64 ((rd_T126 l0_3 (rd t393 x13_1)).f7))) (fun _ hk => hk.2) (.slice A397_8 ((rd_T126 l0_3 (rd t393 x13_1)).f8).length c397_8)) (fun _ hk => trivial))
            have n2_ : Aside0 ((((((((((w14.setCell ⟨gb398, 0, none⟩ (.slice A397_0 ((rd_T126 l0_3 (rd t393 x13_1)).f0).length c397_0)).setCell ⟨gb398, 1, none⟩ (.int .i64 ((rd_T126 l0_3 (rd t393 x13_1)).f1))).setCell ⟨gb398, 2, none⟩ (.slice A397_2 ((rd_T126 l0_3 (rd t393 x13_1)).f2).length c397_2)).setCell ⟨gb398, 3, none⟩ (.int .i64 ((rd_T126 l0_3 (rd t393 x13_1)).f3))).setCell ⟨gb398, 4, none⟩ (.int .i64 ((rd_T126 l0_3 (rd t393 x13_1)).f4))).setCell ⟨gb398, 5, none⟩ (.int .i64 ((rd_T126 l0_3 (rd t393 x13_1)).f5))).setCell ⟨gb398, 6, none⟩ (.int .i64 ((rd_T126 l0_3 (rd t393 x13_1)).f6))).setCell ⟨gb398, 7, none⟩ (.int .i64 ((rd_T126 l0_3 (rd t393 x13_1)).f7))).setCell ⟨gb398, 8, none⟩ (.slice A397_8 ((rd_T126 l0_3 (rd t393 x13_1)).f8).length c397_8)).heap[gb392]? = some (.cells #[.slice A0_0 l0_0.length c0_0, .int .i64 a0_1, .int .i64 a0_2, .slice (some ad397) l0_3.length c0_3] 56 (0, 0))) := ⟨by (repeat (with_reducible refine blk_far ?_ NB392_398.out _)); exact BK392.out⟩
            have n3_ : Aside0 ((((((((((w14.setCell ⟨gb398, 0, none⟩ (.slice A397_0 ((rd_T126 l0_3 (rd t393 x13_1)).f0).length c397_0)).setCell ⟨gb398, 1, none⟩ (.int .i64 ((rd_T126 l0_3 (rd t393 x13_1)).f1))).setCell ⟨gb398, 2, none⟩ (.slice A397_2 ((rd_T126 l0_3 (rd t393 x13_1)).f2).length c397_2)).setCell ⟨gb398, 3, none⟩ (.int .i64 ((rd_T126 l0_3 (rd t393 x13_1)).f3))).setCell ⟨gb398, 4, none⟩ (.int .i64 ((rd_T126 l0_3 (rd t393 x13_1)).f4))).setCell ⟨gb398, 5, none⟩ (.int .i64 ((rd_T126 l0_3 (rd t393 x13_1)).f5))).setCell ⟨gb398, 6, none⟩ (.int .i64 ((rd_T126 l0_3 (rd t393 x13_1)).f6))).setCell ⟨gb398, 7, none⟩ (.int .i64 ((rd_T126 l0_3 (rd t393 x13_1)).f7))).setCell ⟨gb398, 8, none⟩ (.slice A397_8 ((rd_T126 l0_3 (rd t393 x13_1)).f8).length c397_8)).heap[gb398]? = some (.cells #[.slice A397_0 ((rd_T126 l0_3 (rd t393 x13_1)).f0).length c397_0, .int .i64 ((rd_T126 l0_3 (rd t393 x13_1)).f1), .slice A397_2 ((rd_T126 l0_3 (rd t393 x13_1)).f2).length c397_2, .int .i64 ((rd_T126 l0_3 (rd t393 x13_1)).f3), .int .i64 ((rd_T126 l0_3 (rd t393 x13_1)).f4), .int .i64 ((rd_T126 l0_3 (rd t393 x13_1)).f5), .int .i64 ((rd_T126 l0_3 (rd t393 x13_1)).f6), .int .i64 ((rd_T126 l0_3 (rd t393 x13_1)).f7), .slice A397_8 ((rd_T126 l0_3 (rd t393 x13_1)).f8).length c397_8] 126 (0, 0))) := ⟨by (with_reducible repeat (first | refine blk_drewN ?_ _ | refine blk_drew ?_ | refine blk_alloc ?_ _)); apply bq9_8_7_6_5_4_3_2_1_0_; (with_reducible repeat (first | refine blk_drewN ?_ _ | refine blk_drew ?_ | refine blk_alloc ?_ _)); exact BK398.out⟩
            have n4_ : Aside0 (Below w.heap.size w (((((((((w14.setCell ⟨gb398, 0, none⟩ (.slice A397_0 ((rd_T126 l0_3 (rd t393 x13_1)).f0).length c397_0)).setCell ⟨gb398, 1, none⟩ (.int .i64 ((rd_T126 l0_3 (rd t393 x13_1)).f1))).setCell ⟨gb398, 2, none⟩ (.slice A397_2 ((rd_T126 l0_3 (rd t393 x13_1)).f2).length c397_2)).setCell ⟨gb398, 3, none⟩ (.int .i64 ((rd_T126 l0_3 (rd t393 x13_1)).f3))).setCell ⟨gb398, 4, none⟩ (.int .i64 ((rd_T126 l0_3 (rd t393 x13_1)).f4))).setCell ⟨gb398, 5, none⟩ (.int .i64 ((rd_T126 l0_3 (rd t393 x13_1)).f5))).setCell ⟨gb398, 6, none⟩ (.int .i64 ((rd_T126 l0_3 (rd t393 x13_1)).f6))).setCell ⟨gb398, 7, none⟩ (.int .i64 ((rd_T126 l0_3 (rd t393 x13_1)).f7))).setCell ⟨gb398, 8, none⟩ (.slice A397_8 ((rd_T126 l0_3 (rd t393 x13_1)).f8).length c397_8))) := ⟨bl_⟩
            (try clear HO_3)
            (try clear HO_11)
            (try clear BK392)
            (try clear BK398)
            (try clear HB)
            generalize (((((((((w14.setCell ⟨gb398, 0, none⟩ (.slice A397_0 ((rd_T126 l0_3 (rd t393 x13_1)).f0).length c397_0)).setCell ⟨gb398, 1, none⟩ (.int .i64 ((rd_T126 l0_3 (rd t393 x13_1)).f1))).setCell ⟨gb398, 2, none⟩ (.slice A397_2 ((rd_T126 l0_3 (rd t393 x13_1)).f2).length c397_2)).setCell ⟨gb398, 3, none⟩ (.int .i64 ((rd_T126 l0_3 (rd t393 x13_1)).f3))).setCell ⟨gb398, 4, none⟩ (.int .i64 ((rd_T126 l0_3 (rd t393 x13_1)).f4))).setCell ⟨gb398, 5, none⟩ (.int .i64 ((rd_T126 l0_3 (rd t393 x13_1)).f5))).setCell ⟨gb398, 6, none⟩ (.int .i64 ((rd_T126 l0_3 (rd t393 x13_1)).f6))).setCell ⟨gb398, 7, none⟩ (.int .i64 ((rd_T126 l0_3 (rd t393 x13_1)).f7))).setCell ⟨gb398, 8, none⟩ (.slice A397_8 ((rd_T126 l0_3 (rd t393 x13_1)).f8).length c397_8)) = w40 at n0_ n1_ n2_ n3_ n4_ ⊢
            have HO_3 := n0_
            have HO_11 := n1_
            have BK392 := n2_
            have BK398 := n3_
            have HB := n4_
            clear n0_ n1_ n2_ n3_ n4_
            have n0_ := Aside0.mk (Kd.R_drew HO_3.out)
            have n1_ := Aside0.mk (Kd.R_drew HO_11.out)
            have n2_ := Aside0.mk (blk_drew BK392.out)
            have n3_ := Aside0.mk (blk_drew BK398.out)
            have n4_ := Aside0.mk (below_drew1 HB.out)
            clear HO_3
            clear HO_11
            clear BK392
            clear BK398
            clear HB
            have HO_3 := n0_
            have HO_11 := n1_
            have BK392 := n2_
            have BK398 := n3_
            have HB := n4_
            clear n0_ n1_ n2_ n3_ n4_
            refine start_ (n := 36) (S := fun w' => w'.cell? ⟨gb398, 0, none⟩ = some (.slice A397_0 ((rd_T126 l0_3 (rd t393 x13_1)).f0).length c397_0) ∧ w'.cell? ⟨gb398, 1, none⟩ = some (.int .i64 ((rd_T126 l0_3 (rd t393 x13_1)).f1)) ∧ w'.cell? ⟨gb398, 2, none⟩ = some (.slice A397_2 ((rd_T126 l0_3 (rd t393 x13_1)).f2).length c397_2) ∧ w'.cell? ⟨gb398, 3, none⟩ = some (.int .i64 ((rd_T126 l0_3 (rd t393 x13_1)).f3)) ∧ w'.cell? ⟨gb398, 4, none⟩ = some (.int .i64 ((rd_T126 l0_3 (rd t393 x13_1)).f4)) ∧ w'.cell? ⟨gb398, 5, none⟩ = some (.int .i64 ((rd_T126 l0_3 (rd t393 x13_1)).f5)) ∧ w'.cell? ⟨gb398, 6, none⟩ = some (.int .i64 ((rd_T126 l0_3 (rd t393 x13_1)).f6)) ∧ w'.cell? ⟨gb398, 7, none⟩ = some (.int .i64 ((rd_T126 l0_3 (rd t393 x13_1)).f7)) ∧ w'.cell? ⟨gb398, 8, none⟩ = some (.slice A397_8 ((rd_T126 l0_3 (rd t393 x13_1)).f8).length c397_8)) (ds := []) tb36_0_11 (by kernel_rfl) rfl rfl ⟨cy_ BK398 0, cy_ BK398 1, cy_ BK398 2, cy_ BK398 3, cy_ BK398 4, cy_ BK398 5, cy_ BK398 6, cy_ BK398 7, cy_ BK398 8⟩ (fun hHeld => ?_); refine with_tabW impl_InOrder.tab6 impl_InOrder.bits6 (fun HT_ HW_ => ?_)
            generalize w40.drew = w41 at HO_3 HO_11 BK392 BK398 HB hHeld ⊢
            refine pl_ HT_ 0 23 tb36_1_11 ?_
            refine pl_ HT_ 1 24 tb36_3_11 ?_
            refine pl_ HT_ 2 25 tb36_7_11 ?_
            refine pr_ HT_ 3 26 tb36_f_11 ?_
            refine pr_ HT_ 4 27 tb36_1f_11 ?_
            refine pr_ HT_ 5 28 tb36_3f_11 ?_
            refine pr_ HT_ 6 29 tb36_7f_11 ?_
            refine pr_ HT_ 7 30 tb36_ff_11 ?_
            refine pr_ HT_ 8 31 tb36_1ff_11 ?_
            refine pr_ HT_ 9 32 tb36_3ff_11 ?_
            refine pr_ HT_ 10 33 tb36_7ff_11 ?_
            refine pr_ HT_ 11 34 tb36_fff_11 ?_
            refine pr_ HT_ 12 35 tb36_1fff_11 ?_
            refine pr_ HT_ 13 36 tb36_3fff_11 ?_
            refine pr_ HT_ 14 37 tb36_7fff_11 ?_
            refine pr_ HT_ 15 38 tb36_ffff_11 ?_
            refine pl_ HT_ 16 39 tb36_1ffff_11 ?_
            refine pl_ HT_ 17 40 tb36_3ffff_11 ?_
            refine pl_ HT_ 18 41 tb36_7ffff_11 ?_
            refine pl_ HT_ 20 43 tb36_17ffff_11 ?_
            refine take_ (i := 19) (N := some 42) (v := ?_) (a' := ?_) tb36_1fffff_11 rfl rfl (take_ofW HT_.out HW_.out (by kernel_rfl)) (fun _ _ _ h => h) (Or.inl ⟨by rfl, ?_⟩) hHeld ?_ ?_
            rotate_left
            ·rintro w' ⟨s0, s1, s2, s3, s4, s5, s6, s7, s8⟩
             go_simp
             with_reducible rfl
            rotate_left
            ·simp only [Act.put, q_]
             rfl
            refine take_ (i := 21) (N := some 44) (v := ?_) (a' := ?_) tb36_3fffff_11 rfl rfl (take_ofW HT_.out HW_.out (by kernel_rfl)) (fun _ _ _ h => h) (Or.inl ⟨by rfl, ?_⟩) hHeld ?_ ?_
            rotate_left
            ·rintro w' ⟨s0, s1, s2, s3, s4, s5, s6, s7, s8⟩
             go_simp
             with_reducible rfl
            rotate_left
            ·simp only [Act.put, q_]
             rfl
            refine pl_ HT_ 22 45 tb36_7fffff_11 ?_
            refine pl_ HT_ 23 46 tb36_ffffff_11 ?_
            refine pl_ HT_ 24 47 tb36_1ffffff_11 ?_
            refine pl_ HT_ 25 48 tb36_3ffffff_11 ?_
            refine take_ (i := 26) (N := some 49) (v := ?_) (a' := ?_) tb36_7ffffff_11 rfl rfl (take_ofW HT_.out HW_.out (by kernel_rfl)) (fun _ _ _ h => h) (Or.inl ⟨by rfl, ?_⟩) hHeld ?_ ?_
            rotate_left
            ·rintro w' ⟨s0, s1, s2, s3, s4, s5, s6, s7, s8⟩
             go_simp
             with_reducible rfl
            rotate_left
            ·simp only [Act.put, q_]
             rfl
            refine pl_ HT_ 27 50 tb36_fffffff_11 ?_
            refine pl_ HT_ 28 51 tb36_1fffffff_11 ?_
            refine pl_ HT_ 29 52 tb36_3fffffff_11 ?_
            refine pl_ HT_ 31 54 tb36_bfffffff_11 ?_
            refine take_ (i := 30) (N := some 53) (v := ?_) (a' := ?_) tb36_ffffffff_11 rfl rfl (take_ofW HT_.out HW_.out (by kernel_rfl)) (fun _ _ _ h => h) (Or.inl ⟨by rfl, ?_⟩) hHeld ?_ ?_
            rotate_left
            ·rintro w' ⟨s0, s1, s2, s3, s4, s5, s6, s7, s8⟩
             go_simp
             with_reducible rfl
            rotate_left
            ·simp only [Act.put, q_]
             rfl
            refine take_ (i := 32) (N := some 55) (v := ?_) (a' := ?_) tb36_1ffffffff_11 rfl rfl (take_ofW HT_.out HW_.out (by kernel_rfl)) (fun _ _ _ h => h) (Or.inl ⟨by rfl, ?_⟩) hHeld ?_ ?_
            rotate_left
            ·rintro w' ⟨s0, s1, s2, s3, s4, s5, s6, s7, s8⟩
             go_simp
             with_reducible rfl
            rotate_left
            ·simp only [Act.put, q_]
             rfl
            refine pl_ HT_ 33 56 tb36_3ffffffff_11 ?_
            refine pl_ HT_ 34 57 tb36_7ffffffff_11 ?_
            refine pl_ HT_ 35 58 tb36_fffffffff_11 ?_
            refine done_ (done_of HT_.out (by kernel_rfl)) ?_
            try go_wp2
            go_meet
            case rel => exact ⟨_, (decide (((rd_T126 l0_3 (rd t393 x13_1)).f5) > ((rd_T126 l0_3 (rd t393 x13_1)).f6))), sp_, H', ⟨by have := HK1.out; first | omega | exact Nat.le_refl _⟩, ⟨ra_ HO_3⟩, ⟨ra_ HO_11⟩, ⟨by (with_reducible repeat (first | refine blk_drewN ?_ _ | refine blk_drew ?_ | refine blk_alloc ?_ _)); exact BK392.out⟩, ⟨by (with_reducible repeat (first | refine blk_drewN ?_ _ | refine blk_drew ?_ | refine blk_alloc ?_ _)); exact BK398.out⟩, ⟨bl_⟩⟩
        case rest =>
         clear HC12
         try clear p2
         try clear c3
         try clear c34
         try clear c34b0
         try clear c37
         try clear c37b0
         try clear c37b1
         try clear c39
         obtain ⟨kq, x58_11, rfl, HA, HJ11, HO_3, HO_11, BK392, BK398, HB⟩ := hcut
         cases kq with
         | zero => exact absurd HA.out (by simp [impl_InOrder.j1])
         | succ kj11 =>
          have H := HA.out
          clear HA
          simp only [impl_InOrder.j1] at H
          by_cases c42 : x58_11 = true
          ·subst c42
           replace H := ip_ H
           obtain rfl := Option.some.inj H
           go_wp2
           go_ret
           exact ⟨sq_, bl_⟩
          ·replace c42 := Bool.eq_false_iff.mpr c42
           subst c42
           replace H := in_ H
           have H' := Aside0.mk H
           clear H
           go_wp2
           go_loopg [61] kj11 (fun kq v61 w' => ∃ (x61_3 : Int), v61 = .int .i64 x61_3 ∧ Aside0 (impl_InOrder.l1 kq t393 t393 (t393.length : Int) x13_1 t393 (t393.length : Int) x61_3 l0_0 a0_1 a0_2 l0_3 ((rd_T126 l0_3 (rd t393 x13_1)).f0) ((rd_T126 l0_3 (rd t393 x13_1)).f1) ((rd_T126 l0_3 (rd t393 x13_1)).f2) ((rd_T126 l0_3 (rd t393 x13_1)).f3) ((rd_T126 l0_3 (rd t393 x13_1)).f4) ((rd_T126 l0_3 (rd t393 x13_1)).f5) ((rd_T126 l0_3 (rd t393 x13_1)).f6) ((rd_T126 l0_3 (rd t393 x13_1)).f7) ((rd_T126 l0_3 (rd t393 x13_1)).f8) = some r) ∧ Aside0 (kq ≤ kj11) ∧ Aside0 (Kd.R (Kd.int .i64) 3 w' w.heap.size (fun _ => True) (.slice (some ad396) t393.length co6) t393) ∧ Aside0 (Kd.R (Kd.int .i64) 3 w' w.heap.size (fun _ => True) (.slice (some ad396) t393.length co6) t393) ∧ Aside0 (Kd.R (Kd.int .i64) 3 w' w.heap.size (fun _ => True) (.slice (some ad396) t393.length co6) t393) ∧ Aside0 (w'.heap[gb392]? = some (.cells #[(.slice A0_0 l0_0.length c0_0), .int .i64 a0_1, .int .i64 a0_2, (.slice (some ad397) l0_3.length c0_3)] 56 (0, 0))) ∧ Aside0 (w'.heap[gb398]? = some (.cells #[(.slice A397_0 ((rd_T126 l0_3 (rd t393 x13_1)).f0).length c397_0), .int .i64 ((rd_T126 l0_3 (rd t393 x13_1)).f1), (.slice A397_2 ((rd_T126 l0_3 (rd t393 x13_1)).f2).length c397_2), .int .i64 ((rd_T126 l0_3 (rd t393 x13_1)).f3), .int .i64 ((rd_T126 l0_3 (rd t393 x13_1)).f4), .int .i64 ((rd_T126 l0_3 (rd t393 x13_1)).f5), .int .i64 ((rd_T126 l0_3 (rd t393 x13_1)).f6), .int .i64 ((rd_T126 l0_3 (rd t393 x13_1)).f7), (.slice A397_8 ((rd_T126 l0_3 (rd t393 x13_1)).f8).length c397_8)] 126 (0, 0))) ∧ Aside0 (Below w.heap.size w w'))
           case atStart => exact ⟨(0), sp_, H', ⟨Nat.le_refl _⟩, ⟨ra_ HO_3⟩, ⟨ra_ HO_11⟩, ⟨ra_ HO_3⟩, ⟨by (with_reducible repeat (first | refine blk_drewN ?_ _ | refine blk_drew ?_ | refine blk_alloc ?_ _)); exact BK392.out⟩, ⟨by (with_reducible repeat (first | refine blk_drewN ?_ _ | refine blk_drew ?_ | refine blk_alloc ?_ _)); exact BK398.out⟩, ⟨bl_⟩⟩
           case round =>
            clear H'
            try clear p2
            try clear c3
            try clear c4
            try clear c34
            try clear c34b0
            try clear c37
            try clear c37b0
            try clear c37b1
            try clear c39
            try clear c42
            try clear p2
            obtain ⟨x61_3, rfl, HA, HK3, HO_3, HO_11, HO_59, BK392, BK398, HB⟩ := hrel
            cases gk with
            | zero => exact absurd HA.out (by simp [impl_InOrder.l1])
            | succ k3 =>
             have H := HA.out
             clear HA
             simp only [impl_InOrder.l1] at H
             by_cases c43 : x61_3 < (t393.length : Int)
             ·rw [if_pos c43] at H
              have c43b0 : decide (x61_3 < (t393.length : Int)) = true := decide_eq_true c43
              clear c43
              by_cases c44 : 0 ≤ x61_3
              ·rw [if_pos c44] at H
               have c44b0 : decide (0 ≤ x61_3) = true := decide_eq_true c44
               clear c44
               by_cases c45 : x61_3 < (t393.length : Int)
               ·rw [if_pos c45] at H
                have c45b0 : decide (x61_3 < (t393.length : Int)) = true := decide_eq_true c45
                clear c45
                by_cases c46 : 0 ≤ (rd t393 x61_3)
                ·rw [if_pos c46] at H
                 have c46b0 : decide (0 ≤ (rd t393 x61_3)) = true := decide_eq_true c46
                 clear c46
                 by_cases c47 : (rd t393 x61_3) < (l0_3.length : Int)
                 ·rw [if_pos c47] at H
                  have c47b0 : decide ((rd t393 x61_3) < (l0_3.length : Int)) = true := decide_eq_true c47
                  clear c47
                  obtain ⟨t403, A48, H⟩ := ob_ H
                  by_cases c49 : t403 = true
                  ·subst c49
                   replace H := ip_ H
                   by_cases c50 : ((rd_T126 l0_3 (rd t393 x13_1)).f5) ≥ ((rd_T126 l0_3 (rd t393 x61_3)).f5)
                   ·rw [if_pos c50] at H
                    have c50b0 : decide (((rd_T126 l0_3 (rd t393 x61_3)).f5) ≤ ((rd_T126 l0_3 (rd t393 x13_1)).f5)) = true := decide_eq_true c50
                    clear c50
                    obtain rfl := Option.some.inj H
                    have p401 : 0 ≤ (x61_3 : Int) := od_
                    have q401 : x61_3 < (t393.length : Int) := od_
                    obtain ⟨ad401, e401, hx401_0⟩ := Kd.at_int (Kd.R_reads' HO_59.out).2.2 x61_3 p401 q401
                    obtain rfl : ad396 = ad401 := (by injection e401)
                    replace p401 := eq_true p401
                    replace q401 := eq_true q401
                    try go_wp2
                    have n0_ := Aside0.mk (Kd.R_drew HO_3.out)
                    have n1_ := Aside0.mk (Kd.R_drew HO_11.out)
                    have n2_ := Aside0.mk (Kd.R_drew HO_59.out)
                    have n3_ := Aside0.mk (blk_drew BK392.out)
                    have n4_ := Aside0.mk (blk_drew BK398.out)
                    have n5_ := Aside0.mk (below_drew1 HB.out)
                    clear HO_3
                    clear HO_11
                    clear HO_59
                    clear BK392
                    clear BK398
                    clear HB
                    have HO_3 := n0_
                    have HO_11 := n1_
                    have HO_59 := n2_
                    have BK392 := n3_
                    have BK398 := n4_
                    have HB := n5_
                    clear n0_ n1_ n2_ n3_ n4_ n5_
                    have p402 : 0 ≤ ((rd t393 x61_3) : Int) := od_
                    have q402 : (rd t393 x61_3) < (l0_3.length : Int) := od_
                    obtain ⟨ad402, A402_0, c402_0, A402_2, c402_2, A402_8, c402_8, e402, hx402_0, hx402_1, hx402_2, hx402_3, hx402_4, hx402_5, hx402_6, hx402_7, hx402_8, hl402_0, hi402_0, hl402_2, hi402_2, hl402_8, hi402_8⟩ := at_T126 HR0_3.out (rd t393 x61_3) p402 q402
                    have hw402_8 := hx402_8
                    have hw402_7 := hx402_7
                    have hw402_6 := hx402_6
                    have hw402_5 := hx402_5
                    have hw402_4 := hx402_4
                    have hw402_3 := hx402_3
                    have hw402_2 := hx402_2
                    have hw402_1 := hx402_1
                    have hw402_0 := hx402_0
                    obtain rfl : ad397 = ad402 := (by injection e402)
                    replace hx402_0 := kc_ HB hx402_0
                    replace hx402_1 := kc_ HB hx402_1
                    replace hx402_2 := kc_ HB hx402_2
                    replace hx402_3 := kc_ HB hx402_3
                    replace hx402_4 := kc_ HB hx402_4
                    replace hx402_5 := kc_ HB hx402_5
                    replace hx402_6 := kc_ HB hx402_6
                    replace hx402_7 := kc_ HB hx402_7
                    replace hx402_8 := kc_ HB hx402_8
                    have HR402_0 := Aside0.mk hi402_0
                    have HC402_0 := Aside0.mk hl402_0
                    clear hi402_0 hl402_0
                    have HR402_2 := Aside0.mk hi402_2
                    have HC402_2 := Aside0.mk hl402_2
                    clear hi402_2 hl402_2
                    have HR402_8 := Aside0.mk hi402_8
                    have HC402_8 := Aside0.mk hl402_8
                    clear hi402_8 hl402_8
                    replace p402 := eq_true p402
                    replace q402 := eq_true q402
                    have p404 : 0 ≤ ((rd t393 x61_3) : Int) := od_
                    have q404 : (rd t393 x61_3) < (l0_3.length : Int) := od_
                    obtain ⟨ad404, A404_0, c404_0, A404_2, c404_2, A404_8, c404_8, e404, hx404_0, hx404_1, hx404_2, hx404_3, hx404_4, hx404_5, hx404_6, hx404_7, hx404_8, hl404_0, hi404_0, hl404_2, hi404_2, hl404_8, hi404_8⟩ := at_T126 HR0_3.out (rd t393 x61_3) p404 q404
                    have hw404_8 := hx404_8
                    have hw404_7 := hx404_7
                    have hw404_6 := hx404_6
                    have hw404_5 := hx404_5
                    have hw404_4 := hx404_4
                    have hw404_3 := hx404_3
                    have hw404_2 := hx404_2
                    have hw404_1 := hx404_1
                    have hw404_0 := hx404_0
                    obtain rfl : ad397 = ad404 := (by injection e404)
                    replace hx404_0 := kc_ HB hx404_0
                    replace hx404_1 := kc_ HB hx404_1
                    replace hx404_2 := kc_ HB hx404_2
                    replace hx404_3 := kc_ HB hx404_3
                    replace hx404_4 := kc_ HB hx404_4
                    replace hx404_5 := kc_ HB hx404_5
                    replace hx404_6 := kc_ HB hx404_6
                    replace hx404_7 := kc_ HB hx404_7
                    replace hx404_8 := kc_ HB hx404_8
                    have HR404_0 := Aside0.mk hi404_0
                    have HC404_0 := Aside0.mk hl404_0
                    clear hi404_0 hl404_0
                    have HR404_2 := Aside0.mk hi404_2
                    have HC404_2 := Aside0.mk hl404_2
                    clear hi404_2 hl404_2
                    have HR404_8 := Aside0.mk hi404_8
                    have HC404_8 := Aside0.mk hl404_8
                    clear hi404_8 hl404_8
                    replace p404 := eq_true p404
                    replace q404 := eq_true q404
                    refine start_ (n := 18) (S := fun w' => w'.cell? ⟨gb398, 0, none⟩ = some (.slice A397_0 ((rd_T126 l0_3 (rd t393 x13_1)).f0).length c397_0) ∧ w'.cell? ⟨gb398, 1, none⟩ = some (.int .i64 ((rd_T126 l0_3 (rd t393 x13_1)).f1)) ∧ w'.cell? ⟨gb398, 2, none⟩ = some (.slice A397_2 ((rd_T126 l0_3 (rd t393 x13_1)).f2).length c397_2) ∧ w'.cell? ⟨gb398, 3, none⟩ = some (.int .i64 ((rd_T126 l0_3 (rd t393 x13_1)).f3)) ∧ w'.cell? ⟨gb398, 4, none⟩ = some (.int .i64 ((rd_T126 l0_3 (rd t393 x13_1)).f4)) ∧ w'.cell? ⟨gb398, 5, none⟩ = some (.int .i64 ((rd_T126 l0_3 (rd t393 x13_1)).f5)) ∧ w'.cell? ⟨gb398, 6, none⟩ = some (.int .i64 ((rd_T126 l0_3 (rd t393 x13_1)).f6)) ∧ w'.cell? ⟨gb398, 7, none⟩ = some (.int .i64 ((rd_T126 l0_3 (rd t393 x13_1)).f7)) ∧ w'.cell? ⟨gb398, 8, none⟩ = some (.slice A397_8 ((rd_T126 l0_3 (rd t393 x13_1)).f8).length c397_8) ∧ w'.cell? ⟨gb392, 0, none⟩ = some (.slice A0_0 l0_0.length c0_0) ∧ w'.cell? ⟨gb392, 1, none⟩ = some (.int .i64 a0_1) ∧ w'.cell? ⟨gb392, 2, none⟩ = some (.int .i64 a0_2) ∧ w'.cell? ⟨gb392, 3, none⟩ = some (.slice (some ad397) l0_3.length c0_3) ∧ w'.cell? (ad397.add (((rd t393 x61_3)).toNat * 9)) = some (.slice A402_0 ((rd_T126 l0_3 (rd t393 x61_3)).f0).length c402_0) ∧ w'.cell? ⟨(ad397.add (((rd t393 x61_3)).toNat * 9)).block, (ad397.add (((rd t393 x61_3)).toNat * 9)).off + 1, none⟩ = some (.int .i64 ((rd_T126 l0_3 (rd t393 x61_3)).f1)) ∧ w'.cell? ⟨(ad397.add (((rd t393 x61_3)).toNat * 9)).block, (ad397.add (((rd t393 x61_3)).toNat * 9)).off + 2, none⟩ = some (.slice A402_2 ((rd_T126 l0_3 (rd t393 x61_3)).f2).length c402_2) ∧ w'.cell? ⟨(ad397.add (((rd t393 x61_3)).toNat * 9)).block, (ad397.add (((rd t393 x61_3)).toNat * 9)).off + 3, none⟩ = some (.int .i64 ((rd_T126 l0_3 (rd t393 x61_3)).f3)) ∧ w'.cell? ⟨(ad397.add (((rd t393 x61_3)).toNat * 9)).block, (ad397.add (((rd t393 x61_3)).toNat * 9)).off + 4, none⟩ = some (.int .i64 ((rd_T126 l0_3 (rd t393 x61_3)).f4)) ∧ w'.cell? ⟨(ad397.add (((rd t393 x61_3)).toNat * 9)).block, (ad397.add (((rd t393 x61_3)).toNat * 9)).off + 5, none⟩ = some (.int .i64 ((rd_T126 l0_3 (rd t393 x61_3)).f5)) ∧ w'.cell? ⟨(ad397.add (((rd t393 x61_3)).toNat * 9)).block, (ad397.add (((rd t393 x61_3)).toNat * 9)).off + 6, none⟩ = some (.int .i64 ((rd_T126 l0_3 (rd t393 x61_3)).f6)) ∧ w'.cell? ⟨(ad397.add (((rd t393 x61_3)).toNat * 9)).block, (ad397.add (((rd t393 x61_3)).toNat * 9)).off + 7, none⟩ = some (.int .i64 ((rd_T126 l0_3 (rd t393 x61_3)).f7)) ∧ w'.cell? ⟨(ad397.add (((rd t393 x61_3)).toNat * 9)).block, (ad397.add (((rd t393 x61_3)).toNat * 9)).off + 8, none⟩ = some (.slice A402_8 ((rd_T126 l0_3 (rd t393 x61_3)).f8).length c402_8) ∧ w'.cell? (ad397.add (((rd t393 x61_3)).toNat * 9)) = some (.slice A404_0 ((rd_T126 l0_3 (rd t393 x61_3)).f0).length c404_0) ∧ w'.cell? ⟨(ad397.add (((rd t393 x61_3)).toNat * 9)).block, (ad397.add (((rd t393 x61_3)).toNat * 9)).off + 1, none⟩ = some (.int .i64 ((rd_T126 l0_3 (rd t393 x61_3)).f1)) ∧ w'.cell? ⟨(ad397.add (((rd t393 x61_3)).toNat * 9)).block, (ad397.add (((rd t393 x61_3)).toNat * 9)).off + 2, none⟩ = some (.slice A404_2 ((rd_T126 l0_3 (rd t393 x61_3)).f2).length c404_2) ∧ w'.cell? ⟨(ad397.add (((rd t393 x61_3)).toNat * 9)).block, (ad397.add (((rd t393 x61_3)).toNat * 9)).off + 3, none⟩ = some (.int .i64 ((rd_T126 l0_3 (rd t393 x61_3)).f3)) ∧ w'.cell? ⟨(ad397.add (((rd t393 x61_3)).toNat * 9)).block, (ad397.add (((rd t393 x61_3)).toNat * 9)).off + 4, none⟩ = some (.int .i64 ((rd_T126 l0_3 (rd t393 x61_3)).f4)) ∧ w'.cell? ⟨(ad397.add (((rd t393 x61_3)).toNat * 9)).block, (ad397.add (((rd t393 x61_3)).toNat * 9)).off + 5, none⟩ = some (.int .i64 ((rd_T126 l0_3 (rd t393 x61_3)).f5)) ∧ w'.cell? ⟨(ad397.add (((rd t393 x61_3)).toNat * 9)).block, (ad397.add (((rd t393 x61_3)).toNat * 9)).off + 6, none⟩ = some (.int .i64 ((rd_T126 l0_3 (rd t393 x61_3)).f6)) ∧ w'.cell? ⟨(ad397.add (((rd t393 x61_3)).toNat * 9)).block, (ad397.add (((rd t393 x61_3)).toNat * 9)).off + 7, none⟩ = some (.int .i64 ((rd_T126 l0_3 (rd t393 x61_3)).f7)) ∧ w'.cell? ⟨(ad397.add (((rd t393 x61_3)).toNat * 9)).block, (ad397.add (((rd t393 x61_3)).toNat * 9)).off + 8, none⟩ = some (.slice A404_8 ((rd_T126 l0_3 (rd t393 x61_3)).f8).length c404_8)) (ds := []) tb18_0_11 (by kernel_rfl) rfl rfl ⟨cy_ BK398 0, cy_ BK398 1, cy_ BK398 2, cy_ BK398 3, cy_ BK398 4, cy_ BK398 5, cy_ BK398 6, cy_ BK398 7, cy_ BK398 8, cy_ BK392 0, cy_ BK392 1, cy_ BK392 2, cy_ BK392 3, (kc_ HB hw402_0), (kc_ HB hw402_1), (kc_ HB hw402_2), (kc_ HB hw402_3), (kc_ HB hw402_4), (kc_ HB hw402_5), (kc_ HB hw402_6), (kc_ HB hw402_7), (kc_ HB hw402_8), (kc_ HB hw404_0), (kc_ HB hw404_1), (kc_ HB hw404_2), (kc_ HB hw404_3), (kc_ HB hw404_4), (kc_ HB hw404_5), (kc_ HB hw404_6), (kc_ HB hw404_7), (kc_ HB hw404_8)⟩ (fun hHeld => ?_); refine with_tabW impl_InOrder.tab11 impl_InOrder.bits11 (fun HT_ HW_ => ?_)
                    generalize wr.drew = w51 at HO_3 HO_11 HO_59 BK392 BK398 HB HR402_0 HR402_2 HR402_8 HR404_0 HR404_2 HR404_8 hx402_0 hx402_1 hx402_2 hx402_3 hx402_4 hx402_5 hx402_6 hx402_7 hx402_8 hx404_0 hx404_1 hx404_2 hx404_3 hx404_4 hx404_5 hx404_6 hx404_7 hx404_8 hHeld ⊢
                    refine pl_ HT_ 1 66 tb18_2_11 ?_
                    refine pl_ HT_ 3 68 tb18_a_11 ?_
                    refine take_ (i := 0) (N := some 65) (v := ?_) (a' := ?_) tb18_b_11 rfl rfl (take_ofW HT_.out HW_.out (by kernel_rfl)) (fun _ _ _ h => h) (Or.inl ⟨by rfl, ?_⟩) hHeld ?_ ?_
                    rotate_left
                    ·rintro w' ⟨s0, s1, s2, s3, s4, s5, s6, s7, s8, s9, s10, s11, s12, s13, s14, s15, s16, s17, s18, s19, s20, s21, s22, s23, s24, s25, s26, s27, s28, s29, s30⟩
                     go_simp
                     with_reducible rfl
                    rotate_left
                    ·simp only [Act.put, q_]
                     rfl
                    refine take_ (i := 2) (N := some 67) (v := ?_) (a' := ?_) tb18_f_11 rfl rfl (take_ofW HT_.out HW_.out (by kernel_rfl)) (fun _ _ _ h => h) (Or.inl ⟨by rfl, ?_⟩) hHeld ?_ ?_
                    rotate_left
                    ·rintro w' ⟨s0, s1, s2, s3, s4, s5, s6, s7, s8, s9, s10, s11, s12, s13, s14, s15, s16, s17, s18, s19, s20, s21, s22, s23, s24, s25, s26, s27, s28, s29, s30⟩
                     go_simp
                     with_reducible rfl
                    rotate_left
                    ·simp only [Act.put, q_]
                     rfl
                    refine pl_ HT_ 4 69 tb18_1f_11 ?_
                    refine take_ (i := 5) (N := some 70) (v := ?_) (a' := ?_) tb18_3f_11 rfl rfl (take_ofW HT_.out HW_.out (by kernel_rfl)) (fun _ _ _ h => h) (Or.inl ⟨by rfl, ?_⟩) hHeld ?_ ?_
                    rotate_left
                    ·rintro w' ⟨s0, s1, s2, s3, s4, s5, s6, s7, s8, s9, s10, s11, s12, s13, s14, s15, s16, s17, s18, s19, s20, s21, s22, s23, s24, s25, s26, s27, s28, s29, s30⟩
                     go_simp
                     with_reducible rfl
                    rotate_left
                    ·simp only [Act.put, q_]
                     rfl
                    refine one_ (i := 6) (N := some 71) tb18_7f_11 rfl rfl (one_of HT_.out (by kernel_rfl)) (by decide) (fun K hK => ?_)
                    refine goes_ Try.func134 (by kernel_rfl) rfl #[.agg #[.slice A397_0 ((rd_T126 l0_3 (rd t393 x13_1)).f0).length c397_0, .int .i64 ((rd_T126 l0_3 (rd t393 x13_1)).f1), .slice A397_2 ((rd_T126 l0_3 (rd t393 x13_1)).f2).length c397_2, .int .i64 ((rd_T126 l0_3 (rd t393 x13_1)).f3), .int .i64 ((rd_T126 l0_3 (rd t393 x13_1)).f4), .int .i64 ((rd_T126 l0_3 (rd t393 x13_1)).f5), .int .i64 ((rd_T126 l0_3 (rd t393 x13_1)).f6), .int .i64 ((rd_T126 l0_3 (rd t393 x13_1)).f7), .slice A397_8 ((rd_T126 l0_3 (rd t393 x13_1)).f8).length c397_8], .agg #[.slice A402_0 ((rd_T126 l0_3 (rd t393 x61_3)).f0).length c402_0, .int .i64 ((rd_T126 l0_3 (rd t393 x61_3)).f1), .slice A402_2 ((rd_T126 l0_3 (rd t393 x61_3)).f2).length c402_2, .int .i64 ((rd_T126 l0_3 (rd t393 x61_3)).f3), .int .i64 ((rd_T126 l0_3 (rd t393 x61_3)).f4), .int .i64 ((rd_T126 l0_3 (rd t393 x61_3)).f5), .int .i64 ((rd_T126 l0_3 (rd t393 x61_3)).f6), .int .i64 ((rd_T126 l0_3 (rd t393 x61_3)).f7), .slice A402_8 ((rd_T126 l0_3 (rd t393 x61_3)).f8).length c402_8]] (by rfl) rfl rfl gl_ ?_
                    with_reducible refine (impl_Before.calls _ _ ((rd_T126 l0_3 (rd t393 x13_1)).f0) ((rd_T126 l0_3 (rd t393 x13_1)).f1) _ _ ((rd_T126 l0_3 (rd t393 x13_1)).f2) ((rd_T126 l0_3 (rd t393 x13_1)).f3) ((rd_T126 l0_3 (rd t393 x13_1)).f4) ((rd_T126 l0_3 (rd t393 x13_1)).f5) ((rd_T126 l0_3 (rd t393 x13_1)).f6) ((rd_T126 l0_3 (rd t393 x13_1)).f7) _ _ ((rd_T126 l0_3 (rd t393 x13_1)).f8) _ _ ((rd_T126 l0_3 (rd t393 x61_3)).f0) ((rd_T126 l0_3 (rd t393 x61_3)).f1) _ _ ((rd_T126 l0_3 (rd t393 x61_3)).f2) ((rd_T126 l0_3 (rd t393 x61_3)).f3) ((rd_T126 l0_3 (rd t393 x61_3)).f4) ((rd_T126 l0_3 (rd t393 x61_3)).f5) ((rd_T126 l0_3 (rd t393 x61_3)).f6) ((rd_T126 l0_3 (rd t393 x61_3)).f7) _ _ ((rd_T126 l0_3 (rd t393 x61_3)).f8) true _ ?side1 ?side2 ?side3 ?side4 ?side5 ?side6 ?side7 ?side8 ?side9 ?side10 ?side11 ?side12 A48.out).mono ?_
                    (case side1 => exact ca_ (Kd.C_below HR397_0.out HB.out))
                    (case side2 => exact HC397_0.out)
                    (case side3 => exact ca_ (Kd.C_below HR397_2.out HB.out))
                    (case side4 => exact HC397_2.out)
                    (case side5 => exact ca_ (Kd.C_below HR397_8.out HB.out))
                    (case side6 => exact HC397_8.out)
                    (case side7 => exact ca_ (Kd.C_below HR402_0.out HB.out))
                    (case side8 => exact HC402_0.out)
                    (case side9 => exact ca_ (Kd.C_below HR402_2.out HB.out))
                    (case side10 => exact HC402_2.out)
                    (case side11 => exact ca_ (Kd.C_below HR402_8.out HB.out))
                    (case side12 => exact HC402_8.out)
                    rintro e w52 ⟨rfl, hb⟩
                    refine ⟨_, rfl, ?_⟩
                    have n0_ := Aside0.mk (Kd.R_below (ra_ HO_3) hb)
                    have n1_ := Aside0.mk (Kd.R_below (ra_ HO_11) hb)
                    have n2_ := Aside0.mk (Kd.R_below (ra_ HO_59) hb)
                    have n3_ := Aside0.mk (blk_below (bk_ BK392) hb)
                    have n4_ := Aside0.mk (blk_below (g := gb398) (o := .cells #[.slice A397_0 ((rd_T126 l0_3 (rd t393 x13_1)).f0).length c397_0, .int .i64 ((rd_T126 l0_3 (rd t393 x13_1)).f1), .slice A397_2 ((rd_T126 l0_3 (rd t393 x13_1)).f2).length c397_2, .int .i64 ((rd_T126 l0_3 (rd t393 x13_1)).f3), .int .i64 ((rd_T126 l0_3 (rd t393 x13_1)).f4), .int .i64 ((rd_T126 l0_3 (rd t393 x13_1)).f5), .int .i64 ((rd_T126 l0_3 (rd t393 x13_1)).f6), .int .i64 ((rd_T126 l0_3 (rd t393 x13_1)).f7), .slice A397_8 ((rd_T126 l0_3 (rd t393 x13_1)).f8).length c397_8] 126 (0, 0)) (by (with_reducible repeat (first | refine blk_drewN ?_ _ | refine blk_drew ?_ | refine blk_alloc ?_ _)); exact BK398.out) hb)
                    have n5_ := Aside0.mk (below_step bl_ hb)
                    clear HO_3
                    clear HO_11
                    clear HO_59
                    clear BK392
                    clear BK398
                    clear HB
                    have HO_3 := n0_
                    have HO_11 := n1_
                    have HO_59 := n2_
                    have BK392 := n3_
                    have BK398 := n4_
                    have HB := n5_
                    clear n0_ n1_ n2_ n3_ n4_ n5_
                    (try clear hb)
                    (try clear hb2)
                    (try clear hk)
                    (try clear hi)
                    refine hK.out _ _ ⟨cy_ BK398 0, cy_ BK398 1, cy_ BK398 2, cy_ BK398 3, cy_ BK398 4, cy_ BK398 5, cy_ BK398 6, cy_ BK398 7, cy_ BK398 8, cy_ BK392 0, cy_ BK392 1, cy_ BK392 2, cy_ BK392 3, (kc_ HB hw402_0), (kc_ HB hw402_1), (kc_ HB hw402_2), (kc_ HB hw402_3), (kc_ HB hw402_4), (kc_ HB hw402_5), (kc_ HB hw402_6), (kc_ HB hw402_7), (kc_ HB hw402_8), (kc_ HB hw404_0), (kc_ HB hw404_1), (kc_ HB hw404_2), (kc_ HB hw404_3), (kc_ HB hw404_4), (kc_ HB hw404_5), (kc_ HB hw404_6), (kc_ HB hw404_7), (kc_ HB hw404_8)⟩ (fun hHeld => ?_)
                    clear hK K
                    refine norm_ (a' := ?_) ?_ ?_
                    rotate_left
                    ·show Act.put _ (some 71) _ = _
                     simp only [Act.put, q_]
                     rfl
                    refine pl_ HT_ 7 72 tb18_ff_11 ?_
                    refine pl_ HT_ 8 73 tb18_1ff_11 ?_
                    refine pl_ HT_ 10 75 tb18_5ff_11 ?_
                    refine pl_ HT_ 12 77 tb18_15ff_11 ?_
                    refine take_ (i := 9) (N := some 74) (v := ?_) (a' := ?_) tb18_17ff_11 rfl rfl (take_ofW HT_.out HW_.out (by kernel_rfl)) (fun _ _ _ h => h) (Or.inl ⟨by rfl, ?_⟩) hHeld ?_ ?_
                    rotate_left
                    ·rintro w' ⟨s0, s1, s2, s3, s4, s5, s6, s7, s8, s9, s10, s11, s12, s13, s14, s15, s16, s17, s18, s19, s20, s21, s22, s23, s24, s25, s26, s27, s28, s29, s30⟩
                     go_simp
                     with_reducible rfl
                    rotate_left
                    ·simp only [Act.put, q_]
                     rfl
                    refine take_ (i := 11) (N := some 76) (v := ?_) (a' := ?_) tb18_1fff_11 rfl rfl (take_ofW HT_.out HW_.out (by kernel_rfl)) (fun _ _ _ h => h) (Or.inl ⟨by rfl, ?_⟩) hHeld ?_ ?_
                    rotate_left
                    ·rintro w' ⟨s0, s1, s2, s3, s4, s5, s6, s7, s8, s9, s10, s11, s12, s13, s14, s15, s16, s17, s18, s19, s20, s21, s22, s23, s24, s25, s26, s27, s28, s29, s30⟩
                     go_simp
                     with_reducible rfl
                    rotate_left
                    ·simp only [Act.put, q_]
                     rfl
                    refine pl_ HT_ 13 78 tb18_3fff_11 ?_
                    refine pl_ HT_ 14 79 tb18_7fff_11 ?_
                    refine take_ (i := 15) (N := some 80) (v := ?_) (a' := ?_) tb18_ffff_11 rfl rfl (take_ofW HT_.out HW_.out (by kernel_rfl)) (fun _ _ _ h => h) (Or.inl ⟨by rfl, ?_⟩) hHeld ?_ ?_
                    rotate_left
                    ·rintro w' ⟨s0, s1, s2, s3, s4, s5, s6, s7, s8, s9, s10, s11, s12, s13, s14, s15, s16, s17, s18, s19, s20, s21, s22, s23, s24, s25, s26, s27, s28, s29, s30⟩
                     go_simp
                     with_reducible rfl
                    rotate_left
                    ·simp only [Act.put, q_]
                     rfl
                    refine pl_ HT_ 16 81 tb18_1ffff_11 ?_
                    refine pl_ HT_ 17 82 tb18_3ffff_11 ?_
                    refine done_ (done_of HT_.out (by kernel_rfl)) ?_
                    try go_wp2
                    go_ret
                    exact ⟨sq_, bl_⟩
                   ·rw [if_neg c50] at H
                    have c50b0 : decide (((rd_T126 l0_3 (rd t393 x61_3)).f5) ≤ ((rd_T126 l0_3 (rd t393 x13_1)).f5)) = false := decide_eq_false c50
                    clear c50
                    have H' := Aside0.mk H
                    clear H
                    have p401 : 0 ≤ (x61_3 : Int) := od_
                    have q401 : x61_3 < (t393.length : Int) := od_
                    obtain ⟨ad401, e401, hx401_0⟩ := Kd.at_int (Kd.R_reads' HO_59.out).2.2 x61_3 p401 q401
                    obtain rfl : ad396 = ad401 := (by injection e401)
                    replace p401 := eq_true p401
                    replace q401 := eq_true q401
                    try go_wp2
                    have n0_ := Aside0.mk (Kd.R_drew HO_3.out)
                    have n1_ := Aside0.mk (Kd.R_drew HO_11.out)
                    have n2_ := Aside0.mk (Kd.R_drew HO_59.out)
                    have n3_ := Aside0.mk (blk_drew BK392.out)
                    have n4_ := Aside0.mk (blk_drew BK398.out)
                    have n5_ := Aside0.mk (below_drew1 HB.out)
                    clear HO_3
                    clear HO_11
                    clear HO_59
                    clear BK392
                    clear BK398
                    clear HB
                    have HO_3 := n0_
                    have HO_11 := n1_
                    have HO_59 := n2_
                    have BK392 := n3_
                    have BK398 := n4_
                    have HB := n5_
                    clear n0_ n1_ n2_ n3_ n4_ n5_
                    have p402 : 0 ≤ ((rd t393 x61_3) : Int) := od_
                    have q402 : (rd t393 x61_3) < (l0_3.length : Int) := od_
                    obtain ⟨ad402, A402_0, c402_0, A402_2, c402_2, A402_8, c402_8, e402, hx402_0, hx402_1, hx402_2, hx402_3, hx402_4, hx402_5, hx402_6, hx402_7, hx402_8, hl402_0, hi402_0, hl402_2, hi402_2, hl402_8, hi402_8⟩ := at_T126 HR0_3.out (rd t393 x61_3) p402 q402
                    have hw402_8 := hx402_8
                    have hw402_7 := hx402_7
                    have hw402_6 := hx402_6
                    have hw402_5 := hx402_5
                    have hw402_4 := hx402_4
                    have hw402_3 := hx402_3
                    have hw402_2 := hx402_2
                    have hw402_1 := hx402_1
                    have hw402_0 := hx402_0
                    obtain rfl : ad397 = ad402 := (by injection e402)
                    replace hx402_0 := kc_ HB hx402_0
                    replace hx402_1 := kc_ HB hx402_1
                    replace hx402_2 := kc_ HB hx402_2
                    replace hx402_3 := kc_ HB hx402_3
                    replace hx402_4 := kc_ HB hx402_4
                    replace hx402_5 := kc_ HB hx402_5
                    replace hx402_6 := kc_ HB hx402_6
                    replace hx402_7 := kc_ HB hx402_7
                    replace hx402_8 := kc_ HB hx402_8
                    have HR402_0 := Aside0.mk hi402_0
                    have HC402_0 := Aside0.mk hl402_0
                    clear hi402_0 hl402_0
                    have HR402_2 := Aside0.mk hi402_2
                    have HC402_2 := Aside0.mk hl402_2
                    clear hi402_2 hl402_2
                    have HR402_8 := Aside0.mk hi402_8
                    have HC402_8 := Aside0.mk hl402_8
                    clear hi402_8 hl402_8
                    replace p402 := eq_true p402
                    replace q402 := eq_true q402
                    have p404 : 0 ≤ ((rd t393 x61_3) : Int) := od_
                    have q404 : (rd t393 x61_3) < (l0_3.length : Int) := od_
                    obtain ⟨ad404, A404_0, c404_0, A404_2, c404_2, A404_8, c404_8, e404, hx404_0, hx404_1, hx404_2, hx404_3, hx404_4, hx404_5, hx404_6, hx404_7, hx404_8, hl404_0, hi404_0, hl404_2, hi404_2, hl404_8, hi404_8⟩ := at_T126 HR0_3.out (rd t393 x61_3) p404 q404
                    have hw404_8 := hx404_8
                    have hw404_7 := hx404_7
                    have hw404_6 := hx404_6
                    have hw404_5 := hx404_5
                    have hw404_4 := hx404_4
                    have hw404_3 := hx404_3
                    have hw404_2 := hx404_2
                    have hw404_1 := hx404_1
                    have hw404_0 := hx404_0
                    obtain rfl : ad397 = ad404 := (by injection e404)
                    replace hx404_0 := kc_ HB hx404_0
                    replace hx404_1 := kc_ HB hx404_1
                    replace hx404_2 := kc_ HB hx404_2
                    replace hx404_3 := kc_ HB hx404_3
                    replace hx404_4 := kc_ HB hx404_4
                    replace hx404_5 := kc_ HB hx404_5
                    replace hx404_6 := kc_ HB hx404_6
                    replace hx404_7 := kc_ HB hx404_7
                    replace hx404_8 := kc_ HB hx404_8
                    have HR404_0 := Aside0.mk hi404_0
                    have HC404_0 := Aside0.mk hl404_0
                    clear hi404_0 hl404_0
                    have HR404_2 := Aside0.mk hi404_2
                    have HC404_2 := Aside0.mk hl404_2
                    clear hi404_2 hl404_2
                    have HR404_8 := Aside0.mk hi404_8
                    have HC404_8 := Aside0.mk hl404_8
                    clear hi404_8 hl404_8
                    replace p404 := eq_true p404
                    replace q404 := eq_true q404
                    refine start_ (n := 18) (S := fun w' => w'.cell? ⟨gb398, 0, none⟩ = some (.slice A397_0 ((rd_T126 l0_3 (rd t393 x13_1)).f0).length c397_0) ∧ w'.cell? ⟨gb398, 1, none⟩ = some (.int .i64 ((rd_T126 l0_3 (rd t393 x13_1)).f1)) ∧ w'.cell? ⟨gb398, 2, none⟩ = some (.slice A397_2 ((rd_T126 l0_3 (rd t393 x13_1)).f2).length c397_2) ∧ w'.cell? ⟨gb398, 3, none⟩ = some (.int .i64 ((rd_T126 l0_3 (rd t393 x13_1)).f3)) ∧ w'.cell? ⟨gb398, 4, none⟩ = some (.int .i64 ((rd_T126 l0_3 (rd t393 x13_1)).f4)) ∧ w'.cell? ⟨gb398, 5, none⟩ = some (.int .i64 ((rd_T126 l0_3 (rd t393 x13_1)).f5)) ∧ w'.cell? ⟨gb398, 6, none⟩ = some (.int .i64 ((rd_T126 l0_3 (rd t393 x13_1)).f6)) ∧ w'.cell? ⟨gb398, 7, none⟩ = some (.int .i64 ((rd_T126 l0_3 (rd t393 x13_1)).f7)) ∧ w'.cell? ⟨gb398, 8, none⟩ = some (.slice A397_8 ((rd_T126 l0_3 (rd t393 x13_1)).f8).length c397_8) ∧ w'.cell? ⟨gb392, 0, none⟩ = some (.slice A0_0 l0_0.length c0_0) ∧ w'.cell? ⟨gb392, 1, none⟩ = some (.int .i64 a0_1) ∧ w'.cell? ⟨gb392, 2, none⟩ = some (.int .i64 a0_2) ∧ w'.cell? ⟨gb392, 3, none⟩ = some (.slice (some ad397) l0_3.length c0_3) ∧ w'.cell? (ad397.add (((rd t393 x61_3)).toNat * 9)) = some (.slice A402_0 ((rd_T126 l0_3 (rd t393 x61_3)).f0).length c402_0) ∧ w'.cell? ⟨(ad397.add (((rd t393 x61_3)).toNat * 9)).block, (ad397.add (((rd t393 x61_3)).toNat * 9)).off + 1, none⟩ = some (.int .i64 ((rd_T126 l0_3 (rd t393 x61_3)).f1)) ∧ w'.cell? ⟨(ad397.add (((rd t393 x61_3)).toNat * 9)).block, (ad397.add (((rd t393 x61_3)).toNat * 9)).off + 2, none⟩ = some (.slice A402_2 ((rd_T126 l0_3 (rd t393 x61_3)).f2).length c402_2) ∧ w'.cell? ⟨(ad397.add (((rd t393 x61_3)).toNat * 9)).block, (ad397.add (((rd t393 x61_3)).toNat * 9)).off + 3, none⟩ = some (.int .i64 ((rd_T126 l0_3 (rd t393 x61_3)).f3)) ∧ w'.cell? ⟨(ad397.add (((rd t393 x61_3)).toNat * 9)).block, (ad397.add (((rd t393 x61_3)).toNat * 9)).off + 4, none⟩ = some (.int .i64 ((rd_T126 l0_3 (rd t393 x61_3)).f4)) ∧ w'.cell? ⟨(ad397.add (((rd t393 x61_3)).toNat * 9)).block, (ad397.add (((rd t393 x61_3)).toNat * 9)).off + 5, none⟩ = some (.int .i64 ((rd_T126 l0_3 (rd t393 x61_3)).f5)) ∧ w'.cell? ⟨(ad397.add (((rd t393 x61_3)).toNat * 9)).block, (ad397.add (((rd t393 x61_3)).toNat * 9)).off + 6, none⟩ = some (.int .i64 ((rd_T126 l0_3 (rd t393 x61_3)).f6)) ∧ w'.cell? ⟨(ad397.add (((rd t393 x61_3)).toNat * 9)).block, (ad397.add (((rd t393 x61_3)).toNat * 9)).off + 7, none⟩ = some (.int .i64 ((rd_T126 l0_3 (rd t393 x61_3)).f7)) ∧ w'.cell? ⟨(ad397.add (((rd t393 x61_3)).toNat * 9)).block, (ad397.add (((rd t393 x61_3)).toNat * 9)).off + 8, none⟩ = some (.slice A402_8 ((rd_T126 l0_3 (rd t393 x61_3)).f8).length c402_8) ∧ w'.cell? (ad397.add (((rd t393 x61_3)).toNat * 9)) = some (.slice A404_0 ((rd_T126 l0_3 (rd t393 x61_3)).f0).length c404_0) ∧ w'.cell? ⟨(ad397.add (((rd t393 x61_3)).toNat * 9)).block, (ad397.add (((rd t393 x61_3)).toNat * 9)).off + 1, none⟩ = some (.int .i64 ((rd_T126 l0_3 (rd t393 x61_3)).f1)) ∧ w'.cell? ⟨(ad397.add (((rd t393 x61_3)).toNat * 9)).block, (ad397.add (((rd t393 x61_3)).toNat * 9)).off + 2, none⟩ = some (.slice A404_2 ((rd_T126 l0_3 (rd t393 x61_3)).f2).length c404_2) ∧ w'.cell? ⟨(ad397.add (((rd t393 x61_3)).toNat * 9)).block, (ad397.add (((rd t393 x61_3)).toNat * 9)).off + 3, none⟩ = some (.int .i64 ((rd_T126 l0_3 (rd t393 x61_3)).f3)) ∧ w'.cell? ⟨(ad397.add (((rd t393 x61_3)).toNat * 9)).block, (ad397.add (((rd t393 x61_3)).toNat * 9)).off + 4, none⟩ = some (.int .i64 ((rd_T126 l0_3 (rd t393 x61_3)).f4)) ∧ w'.cell? ⟨(ad397.add (((rd t393 x61_3)).toNat * 9)).block, (ad397.add (((rd t393 x61_3)).toNat * 9)).off + 5, none⟩ = some (.int .i64 ((rd_T126 l0_3 (rd t393 x61_3)).f5)) ∧ w'.cell? ⟨(ad397.add (((rd t393 x61_3)).toNat * 9)).block, (ad397.add (((rd t393 x61_3)).toNat * 9)).off + 6, none⟩ = some (.int .i64 ((rd_T126 l0_3 (rd t393 x61_3)).f6)) ∧ w'.cell? ⟨(ad397.add (((rd t393 x61_3)).toNat * 9)).block, (ad397.add (((rd t393 x61_3)).toNat * 9)).off + 7, none⟩ = some (.int .i64 ((rd_T126 l0_3 (rd t393 x61_3)).f7)) ∧ w'.cell? ⟨(ad397.add (((rd t393 x61_3)).toNat * 9)).block, (ad397.add (((rd t393 x61_3)).toNat * 9)).off + 8, none⟩ = some (.slice A404_8 ((rd_T126 l0_3 (rd t393 x61_3)).f8).length c404_8)) (ds := []) tb18_0_11 (by kernel_rfl) rfl rfl ⟨cy_ BK398 0, cy_ BK398 1, cy_ BK398 2, cy_ BK398 3, cy_ BK398 4, cy_ BK398 5, cy_ BK398 6, cy_ BK398 7, cy_ BK398 8, cy_ BK392 0, cy_ BK392 1, cy_ BK392 2, cy_ BK392 3, (kc_ HB hw402_0), (kc_ HB hw402_1), (kc_ HB hw402_2), (kc_ HB hw402_3), (kc_ HB hw402_4), (kc_ HB hw402_5), (kc_ HB hw402_6), (kc_ HB hw402_7), (kc_ HB hw402_8), (kc_ HB hw404_0), (kc_ HB hw404_1), (kc_ HB hw404_2), (kc_ HB hw404_3), (kc_ HB hw404_4), (kc_ HB hw404_5), (kc_ HB hw404_6), (kc_ HB hw404_7), (kc_ HB hw404_8)⟩ (fun hHeld => ?_); refine with_tabW impl_InOrder.tab11 impl_InOrder.bits11 (fun HT_ HW_ => ?_)
                    generalize wr.drew = w53 at HO_3 HO_11 HO_59 BK392 BK398 HB HR402_0 HR402_2 HR402_8 HR404_0 HR404_2 HR404_8 hx402_0 hx402_1 hx402_2 hx402_3 hx402_4 hx402_5 hx402_6 hx402_7 hx402_8 hx404_0 hx404_1 hx404_2 hx404_3 hx404_4 hx404_5 hx404_6 hx404_7 hx404_8 hHeld ⊢
                    refine pl_ HT_ 1 66 tb18_2_11 ?_
                    refine pl_ HT_ 3 68 tb18_a_11 ?_
                    refine take_ (i := 0) (N := some 65) (v := ?_) (a' := ?_) tb18_b_11 rfl rfl (take_ofW HT_.out HW_.out (by kernel_rfl)) (fun _ _ _ h => h) (Or.inl ⟨by rfl, ?_⟩) hHeld ?_ ?_
                    rotate_left
                    ·rintro w' ⟨s0, s1, s2, s3, s4, s5, s6, s7, s8, s9, s10, s11, s12, s13, s14, s15, s16, s17, s18, s19, s20, s21, s22, s23, s24, s25, s26, s27, s28, s29, s30⟩
                     go_simp
                     with_reducible rfl
                    rotate_left
                    ·simp only [Act.put, q_]
                     rfl
                    refine take_ (i := 2) (N := some 67) (v := ?_) (a' := ?_) tb18_f_11 rfl rfl (take_ofW HT_.out HW_.out (by kernel_rfl)) (fun _ _ _ h => h) (Or.inl ⟨by rfl, ?_⟩) hHeld ?_ ?_
                    rotate_left
                    ·rintro w' ⟨s0, s1, s2, s3, s4, s5, s6, s7, s8, s9, s10, s11, s12, s13, s14, s15, s16, s17, s18, s19, s20, s21, s22, s23, s24, s25, s26, s27, s28, s29, s30⟩
                     go_simp
                     with_reducible rfl
                    rotate_left
                    ·simp only [Act.put, q_]
                     rfl
                    refine pl_ HT_ 4 69 tb18_1f_11 ?_
                    refine take_ (i := 5) (N := some 70) (v := ?_) (a' := ?_) tb18_3f_11 rfl rfl (take_ofW HT_.out HW_.out (by kernel_rfl)) (fun _ _ _ h => h) (Or.inl ⟨by rfl, ?_⟩) hHeld ?_ ?_
                    rotate_left
                    ·rintro w' ⟨s0, s1, s2, s3, s4, s5, s6, s7, s8, s9, s10, s11, s12, s13, s14, s15, s16, s17, s18, s19, s20, s21, s22, s23, s24, s25, s26, s27, s28, s29, s30⟩
                     go_simp
                     with_reducible rfl
                    rotate_left
                    ·simp only [Act.put, q_]
                     rfl
                    refine one_ (i := 6) (N := some 71) tb18_7f_11 rfl rfl (one_of HT_.out (by kernel_rfl)) (by decide) (fun K hK => ?_)
                    refine goes_ Try.func134 (by kernel_rfl) rfl #[.agg #[.slice A397_0 ((rd_T126 l0_3 (rd t393 x13_1)).f0).length c397_0, .int .i64 ((rd_T126 l0_3 (rd t393 x13_1)).f1), .slice A397_2 ((rd_T126 l0_3 (rd t393 x13_1)).f2).length c397_2, .int .i64 ((rd_T126 l0_3 (rd t393 x13_1)).f3), .int .i64 ((rd_T126 l0_3 (rd t393 x13_1)).f4), .int .i64 ((rd_T126 l0_3 (rd t393 x13_1)).f5), .int .i64 ((rd_T126 l0_3 (rd t393 x13_1)).f6), .int .i64 ((rd_T126 l0_3 (rd t393 x13_1)).f7), .slice A397_8 ((rd_T126 l0_3 (rd t393 x13_1)).f8).length c397_8], .agg #[.slice A402_0 ((rd_T126 l0_3 (rd t393 x61_3)).f0).length c402_0, .int .i64 ((rd_T126 l0_3 (rd t393 x61_3)).f1), .slice A402_2 ((rd_T126 l0_3 (rd t393 x61_3)).f2).length c402_2, .int .i64 ((rd_T126 l0_3 (rd t393 x61_3)).f3), .int .i64 ((rd_T126 l0_3 (rd t393 x61_3)).f4), .int .i64 ((rd_T126 l0_3 (rd t393 x61_3)).f5), .int .i64 ((rd_T126 l0_3 (rd t393 x61_3)).f6), .int .i64 ((rd_T126 l0_3 (rd t393 x61_3)).f7), .slice A402_8 ((rd_T126 l0_3 (rd t393 x61_3)).f8).length c402_8]] (by rfl) rfl rfl gl_ ?_
                    with_reducible refine (impl_Before.calls _ _ ((rd_T126 l0_3 (rd t393 x13_1)).f0) ((rd_T126 l0_3 (rd t393 x13_1)).f1) _ _ ((rd_T126 l0_3 (rd t393 x13_1)).f2) ((rd_T126 l0_3 (rd t393 x13_1)).f3) ((rd_T126 l0_3 (rd t393 x13_1)).f4) ((rd_T126 l0_3 (rd t393 x13_1)).f5) ((rd_T126 l0_3 (rd t393 x13_1)).f6) ((rd_T126 l0_3 (rd t393 x13_1)).f7) _ _ ((rd_T126 l0_3 (rd t393 x13_1)).f8) _ _ ((rd_T126 l0_3 (rd t393 x61_3)).f0) ((rd_T126 l0_3 (rd t393 x61_3)).f1) _ _ ((rd_T126 l0_3 (rd t393 x61_3)).f2) ((rd_T126 l0_3 (rd t393 x61_3)).f3) ((rd_T126 l0_3 (rd t393 x61_3)).f4) ((rd_T126 l0_3 (rd t393 x61_3)).f5) ((rd_T126 l0_3 (rd t393 x61_3)).f6) ((rd_T126 l0_3 (rd t393 x61_3)).f7) _ _ ((rd_T126 l0_3 (rd t393 x61_3)).f8) true _ ?side1 ?side2 ?side3 ?side4 ?side5 ?side6 ?side7 ?side8 ?side9 ?side10 ?side11 ?side12 A48.out).mono ?_
                    (case side1 => exact ca_ (Kd.C_below HR397_0.out HB.out))
                    (case side2 => exact HC397_0.out)
                    (case side3 => exact ca_ (Kd.C_below HR397_2.out HB.out))
                    (case side4 => exact HC397_2.out)
                    (case side5 => exact ca_ (Kd.C_below HR397_8.out HB.out))
                    (case side6 => exact HC397_8.out)
                    (case side7 => exact ca_ (Kd.C_below HR402_0.out HB.out))
                    (case side8 => exact HC402_0.out)
                    (case side9 => exact ca_ (Kd.C_below HR402_2.out HB.out))
                    (case side10 => exact HC402_2.out)
                    (case side11 => exact ca_ (Kd.C_below HR402_8.out HB.out))
                    (case side12 => exact HC402_8.out)
                    rintro e w54 ⟨rfl, hb⟩
                    refine ⟨_, rfl, ?_⟩
                    have n0_ := Aside0.mk (Kd.R_below (ra_ HO_3) hb)
                    have n1_ := Aside0.mk (Kd.R_below (ra_ HO_11) hb)
                    have n2_ := Aside0.mk (Kd.R_below (ra_ HO_59) hb)
                    have n3_ := Aside0.mk (blk_below (bk_ BK392) hb)
                    have n4_ := Aside0.mk (blk_below (g := gb398) (o := .cells #[.slice A397_0 ((rd_T126 l0_3 (rd t393 x13_1)).f0).length c397_0, .int .i64 ((rd_T126 l0_3 (rd t393 x13_1)).f1), .slice A397_2 ((rd_T126 l0_3 (rd t393 x13_1)).f2).length c397_2, .int .i64 ((rd_T126 l0_3 (rd t393 x13_1)).f3), .int .i64 ((rd_T126 l0_3 (rd t393 x13_1)).f4), .int .i64 ((rd_T126 l0_3 (rd t393 x13_1)).f5), .int .i64 ((rd_T126 l0_3 (rd t393 x13_1)).f6), .int .i64 ((rd_T126 l0_3 (rd t393 x13_1)).f7), .slice A397_8 ((rd_T126 l0_3 (rd t393 x13_1)).f8).length c397_8] 126 (0, 0)) (by (with_reducible repeat (first | refine blk_drewN ?_ _ | refine blk_drew ?_ | refine blk_alloc ?_ _)); exact BK398.out) hb)
                    have n5_ := Aside0.mk (below_step bl_ hb)
                    clear HO_3
                    clear HO_11
                    clear HO_59
                    clear BK392
                    clear BK398
                    clear HB
                    have HO_3 := n0_
                    have HO_11 := n1_
                    have HO_59 := n2_
                    have BK392 := n3_
                    have BK398 := n4_
                    have HB := n5_
                    clear n0_ n1_ n2_ n3_ n4_ n5_
                    (try clear hb)
                    (try clear hb2)
                    (try clear hk)
                    (try clear hi)
                    refine hK.out _ _ ⟨cy_ BK398 0, cy_ BK398 1, cy_ BK398 2, cy_ BK398 3, cy_ BK398 4, cy_ BK398 5, cy_ BK398 6, cy_ BK398 7, cy_ BK398 8, cy_ BK392 0, cy_ BK392 1, cy_ BK392 2, cy_ BK392 3, (kc_ HB hw402_0), (kc_ HB hw402_1), (kc_ HB hw402_2), (kc_ HB hw402_3), (kc_ HB hw402_4), (kc_ HB hw402_5), (kc_ HB hw402_6), (kc_ HB hw402_7), (kc_ HB hw402_8), (kc_ HB hw404_0), (kc_ HB hw404_1), (kc_ HB hw404_2), (kc_ HB hw404_3), (kc_ HB hw404_4), (kc_ HB hw404_5), (kc_ HB hw404_6), (kc_ HB hw404_7), (kc_ HB hw404_8)⟩ (fun hHeld => ?_)
                    clear hK K
                    refine norm_ (a' := ?_) ?_ ?_
                    rotate_left
                    ·show Act.put _ (some 71) _ = _
                     simp only [Act.put, q_]
                     rfl
                    refine pl_ HT_ 7 72 tb18_ff_11 ?_
                    refine pl_ HT_ 8 73 tb18_1ff_11 ?_
                    refine pl_ HT_ 10 75 tb18_5ff_11 ?_
                    refine pl_ HT_ 12 77 tb18_15ff_11 ?_
                    refine take_ (i := 9) (N := some 74) (v := ?_) (a' := ?_) tb18_17ff_11 rfl rfl (take_ofW HT_.out HW_.out (by kernel_rfl)) (fun _ _ _ h => h) (Or.inl ⟨by rfl, ?_⟩) hHeld ?_ ?_
                    rotate_left
                    ·rintro w' ⟨s0, s1, s2, s3, s4, s5, s6, s7, s8, s9, s10, s11, s12, s13, s14, s15, s16, s17, s18, s19, s20, s21, s22, s23, s24, s25, s26, s27, s28, s29, s30⟩
                     go_simp
                     with_reducible rfl
                    rotate_left
                    ·simp only [Act.put, q_]
                     rfl
                    refine take_ (i := 11) (N := some 76) (v := ?_) (a' := ?_) tb18_1fff_11 rfl rfl (take_ofW HT_.out HW_.out (by kernel_rfl)) (fun _ _ _ h => h) (Or.inl ⟨by rfl, ?_⟩) hHeld ?_ ?_
                    rotate_left
                    ·rintro w' ⟨s0, s1, s2, s3, s4, s5, s6, s7, s8, s9, s10, s11, s12, s13, s14, s15, s16, s17, s18, s19, s20, s21, s22, s23, s24, s25, s26, s27, s28, s29, s30⟩
                     go_simp
                     with_reducible rfl
                    rotate_left
                    ·simp only [Act.put, q_]
                     rfl
                    refine pl_ HT_ 13 78 tb18_3fff_11 ?_
                    refine pl_ HT_ 14 79 tb18_7fff_11 ?_
                    refine take_ (i := 15) (N := some 80) (v := ?_) (a' := ?_) tb18_ffff_11 rfl rfl (take_ofW HT_.out HW_.out (by kernel_rfl)) (fun _ _ _ h => h) (Or.inl ⟨by rfl, ?_⟩) hHeld ?_ ?_
                    rotate_left
                    ·rintro w' ⟨s0, s1, s2, s3, s4, s5, s6, s7, s8, s9, s10, s11, s12, s13, s14, s15, s16, s17, s18, s19, s20, s21, s22, s23, s24, s25, s26, s27, s28, s29, s30⟩
                     go_simp
                     with_reducible rfl
                    rotate_left
                    ·simp only [Act.put, q_]
                     rfl
                    refine pl_ HT_ 16 81 tb18_1ffff_11 ?_
                    refine pl_ HT_ 17 82 tb18_3ffff_11 ?_
                    refine done_ (done_of HT_.out (by kernel_rfl)) ?_
                    try go_wp2
                    go_roundg k3
                    case measure => have := HK1.out; have := HJ11.out; have := HK3.out; omega
                    case rel => exact ⟨(wrap64 (x61_3 + 1)), sp_, H', ⟨by have := HK1.out; have := HJ11.out; have := HK3.out; omega⟩, ⟨ra_ HO_3⟩, ⟨ra_ HO_11⟩, ⟨ra_ HO_59⟩, ⟨by (with_reducible repeat (first | refine blk_drewN ?_ _ | refine blk_drew ?_ | refine blk_alloc ?_ _)); exact BK392.out⟩, ⟨by (with_reducible repeat (first | refine blk_drewN ?_ _ | refine blk_drew ?_ | refine blk_alloc ?_ _)); exact BK398.out⟩, ⟨bl_⟩⟩
                  ·replace c49 := Bool.eq_false_iff.mpr c49
                   subst c49
                   replace H := in_ H
                   have H' := Aside0.mk H
                   clear H
                   have p401 : 0 ≤ (x61_3 : Int) := od_
                   have q401 : x61_3 < (t393.length : Int) := od_
                   obtain ⟨ad401, e401, hx401_0⟩ := Kd.at_int (Kd.R_reads' HO_59.out).2.2 x61_3 p401 q401
                   obtain rfl : ad396 = ad401 := (by injection e401)
                   replace p401 := eq_true p401
                   replace q401 := eq_true q401
                   try go_wp2
                   have n0_ := Aside0.mk (Kd.R_drew HO_3.out)
                   have n1_ := Aside0.mk (Kd.R_drew HO_11.out)
                   have n2_ := Aside0.mk (Kd.R_drew HO_59.out)
                   have n3_ := Aside0.mk (blk_drew BK392.out)
                   have n4_ := Aside0.mk (blk_drew BK398.out)
                   have n5_ := Aside0.mk (below_drew1 HB.out)
                   clear HO_3
                   clear HO_11
                   clear HO_59
                   clear BK392
                   clear BK398
                   clear HB
                   have HO_3 := n0_
                   have HO_11 := n1_
                   have HO_59 := n2_
                   have BK392 := n3_
                   have BK398 := n4_
                   have HB := n5_
                   clear n0_ n1_ n2_ n3_ n4_ n5_
                   have p402 : 0 ≤ ((rd t393 x61_3) : Int) := od_
                   have q402 : (rd t393 x61_3) < (l0_3.length : Int) := od_
                   obtain ⟨ad402, A402_0, c402_0, A402_2, c402_2, A402_8, c402_8, e402, hx402_0, hx402_1, hx402_2, hx402_3, hx402_4, hx402_5, hx402_6, hx402_7, hx402_8, hl402_0, hi402_0, hl402_2, hi402_2, hl402_8, hi402_8⟩ := at_T126 HR0_3.out (rd t393 x61_3) p402 q402
                   have hw402_8 := hx402_8
                   have hw402_7 := hx402_7
                   have hw402_6 := hx402_6
                   have hw402_5 := hx402_5
                   have hw402_4 := hx402_4
                   have hw402_3 := hx402_3
                   have hw402_2 := hx402_2
                   have hw402_1 := hx402_1
                   have hw402_0 := hx402_0
                   obtain rfl : ad397 = ad402 := (by injection e402)
                   replace hx402_0 := kc_ HB hx402_0
                   replace hx402_1 := kc_ HB hx402_1
                   replace hx402_2 := kc_ HB hx402_2
                   replace hx402_3 := kc_ HB hx402_3
                   replace hx402_4 := kc_ HB hx402_4
                   replace hx402_5 := kc_ HB hx402_5
                   replace hx402_6 := kc_ HB hx402_6
                   replace hx402_7 := kc_ HB hx402_7
                   replace hx402_8 := kc_ HB hx402_8
                   have HR402_0 := Aside0.mk hi402_0
                   have HC402_0 := Aside0.mk hl402_0
                   clear hi402_0 hl402_0
                   have HR402_2 := Aside0.mk hi402_2
                   have HC402_2 := Aside0.mk hl402_2
                   clear hi402_2 hl402_2
                   have HR402_8 := Aside0.mk hi402_8
                   have HC402_8 := Aside0.mk hl402_8
                   clear hi402_8 hl402_8
                   replace p402 := eq_true p402
                   replace q402 := eq_true q402
                   refine start_ (n := 18) (S := fun w' => w'.cell? ⟨gb398, 0, none⟩ = some (.slice A397_0 ((rd_T126 l0_3 (rd t393 x13_1)).f0).length c397_0) ∧ w'.cell? ⟨gb398, 1, none⟩ = some (.int .i64 ((rd_T126 l0_3 (rd t393 x13_1)).f1)) ∧ w'.cell? ⟨gb398, 2, none⟩ = some (.slice A397_2 ((rd_T126 l0_3 (rd t393 x13_1)).f2).length c397_2) ∧ w'.cell? ⟨gb398, 3, none⟩ = some (.int .i64 ((rd_T126 l0_3 (rd t393 x13_1)).f3)) ∧ w'.cell? ⟨gb398, 4, none⟩ = some (.int .i64 ((rd_T126 l0_3 (rd t393 x13_1)).f4)) ∧ w'.cell? ⟨gb398, 5, none⟩ = some (.int .i64 ((rd_T126 l0_3 (rd t393 x13_1)).f5)) ∧ w'.cell? ⟨gb398, 6, none⟩ = some (.int .i64 ((rd_T126 l0_3 (rd t393 x13_1)).f6)) ∧ w'.cell? ⟨gb398, 7, none⟩ = some (.int .i64 ((rd_T126 l0_3 (rd t393 x13_1)).f7)) ∧ w'.cell? ⟨gb398, 8, none⟩ = some (.slice A397_8 ((rd_T126 l0_3 (rd t393 x13_1)).f8).length c397_8) ∧ w'.cell? ⟨gb392, 0, none⟩ = some (.slice A0_0 l0_0.length c0_0) ∧ w'.cell? ⟨gb392, 1, none⟩ = some (.int .i64 a0_1) ∧ w'.cell? ⟨gb392, 2, none⟩ = some (.int .i64 a0_2) ∧ w'.cell? ⟨gb392, 3, none⟩ = some (.slice (some ad397) l0_3.length c0_3) ∧ w'.cell? (ad397.add (((rd t393 x61_3)).toNat * 9)) = some (.slice A402_0 ((rd_T126 l0_3 (rd t393 x61_3)).f0).length c402_0) ∧ w'.cell? ⟨(ad397.add (((rd t393 x61_3)).toNat * 9)).block, (ad397.add (((rd t393 x61_3)).toNat * 9)).off + 1, none⟩ = some (.int .i64 ((rd_T126 l0_3 (rd t393 x61_3)).f1)) ∧ w'.cell? ⟨(ad397.add (((rd t393 x61_3)).toNat * 9)).block, (ad397.add (((rd t393 x61_3)).toNat * 9)).off + 2, none⟩ = some (.slice A402_2 ((rd_T126 l0_3 (rd t393 x61_3)).f2).length c402_2) ∧ w'.cell? ⟨(ad397.add (((rd t393 x61_3)).toNat * 9)).block, (ad397.add (((rd t393 x61_3)).toNat * 9)).off + 3, none⟩ = some (.int .i64 ((rd_T126 l0_3 (rd t393 x61_3)).f3)) ∧ w'.cell? ⟨(ad397.add (((rd t393 x61_3)).toNat * 9)).block, (ad397.add (((rd t393 x61_3)).toNat * 9)).off + 4, none⟩ = some (.int .i64 ((rd_T126 l0_3 (rd t393 x61_3)).f4)) ∧ w'.cell? ⟨(ad397.add (((rd t393 x61_3)).toNat * 9)).block, (ad397.add (((rd t393 x61_3)).toNat * 9)).off + 5, none⟩ = some (.int .i64 ((rd_T126 l0_3 (rd t393 x61_3)).f5)) ∧ w'.cell? ⟨(ad397.add (((rd t393 x61_3)).toNat * 9)).block, (ad397.add (((rd t393 x61_3)).toNat * 9)).off + 6, none⟩ = some (.int .i64 ((rd_T126 l0_3 (rd t393 x61_3)).f6)) ∧ w'.cell? ⟨(ad397.add (((rd t393 x61_3)).toNat * 9)).block, (ad397.add (((rd t393 x61_3)).toNat * 9)).off + 7, none⟩ = some (.int .i64 ((rd_T126 l0_3 (rd t393 x61_3)).f7)) ∧ w'.cell? ⟨(ad397.add (((rd t393 x61_3)).toNat * 9)).block, (ad397.add (((rd t393 x61_3)).toNat * 9)).off + 8, none⟩ = some (.slice A402_8 ((rd_T126 l0_3 (rd t393 x61_3)).f8).length c402_8)) (ds := []) tb18_0_11 (by kernel_rfl) rfl rfl ⟨cy_ BK398 0, cy_ BK398 1, cy_ BK398 2, cy_ BK398 3, cy_ BK398 4, cy_ BK398 5, cy_ BK398 6, cy_ BK398 7, cy_ BK398 8, cy_ BK392 0, cy_ BK392 1, cy_ BK392 2, cy_ BK392 3, (kc_ HB hw402_0), (kc_ HB hw402_1), (kc_ HB hw402_2), (kc_ HB hw402_3), (kc_ HB hw402_4), (kc_ HB hw402_5), (kc_ HB hw402_6), (kc_ HB hw402_7), (kc_ HB hw402_8)⟩ (fun hHeld => ?_); refine with_tabW impl_InOrder.tab11 impl_InOrder.bits11 (fun HT_ HW_ => ?_)
                   generalize wr.drew = w55 at HO_3 HO_11 HO_59 BK392 BK398 HB HR402_0 HR402_2 HR402_8 hx402_0 hx402_1 hx402_2 hx402_3 hx402_4 hx402_5 hx402_6 hx402_7 hx402_8 hHeld ⊢
                   refine pl_ HT_ 1 66 tb18_2_11 ?_
                   refine pl_ HT_ 3 68 tb18_a_11 ?_
                   refine take_ (i := 0) (N := some 65) (v := ?_) (a' := ?_) tb18_b_11 rfl rfl (take_ofW HT_.out HW_.out (by kernel_rfl)) (fun _ _ _ h => h) (Or.inl ⟨by rfl, ?_⟩) hHeld ?_ ?_
                   rotate_left
                   ·rintro w' ⟨s0, s1, s2, s3, s4, s5, s6, s7, s8, s9, s10, s11, s12, s13, s14, s15, s16, s17, s18, s19, s20, s21⟩
                    go_simp
                    with_reducible rfl
                   rotate_left
                   ·simp only [Act.put, q_]
                    rfl
                   refine take_ (i := 2) (N := some 67) (v := ?_) (a' := ?_) tb18_f_11 rfl rfl (take_ofW HT_.out HW_.out (by kernel_rfl)) (fun _ _ _ h => h) (Or.inl ⟨by rfl, ?_⟩) hHeld ?_ ?_
                   rotate_left
                   ·rintro w' ⟨s0, s1, s2, s3, s4, s5, s6, s7, s8, s9, s10, s11, s12, s13, s14, s15, s16, s17, s18, s19, s20, s21⟩
                    go_simp
                    with_reducible rfl
                   rotate_left
                   ·simp only [Act.put, q_]
                    rfl
                   refine pl_ HT_ 4 69 tb18_1f_11 ?_
                   refine take_ (i := 5) (N := some 70) (v := ?_) (a' := ?_) tb18_3f_11 rfl rfl (take_ofW HT_.out HW_.out (by kernel_rfl)) (fun _ _ _ h => h) (Or.inl ⟨by rfl, ?_⟩) hHeld ?_ ?_
                   rotate_left
                   ·rintro w' ⟨s0, s1, s2, s3, s4, s5, s6, s7, s8, s9, s10, s11, s12, s13, s14, s15, s16, s17, s18, s19, s20, s21⟩
                    go_simp
                    with_reducible rfl
                   rotate_left
                   ·simp only [Act.put, q_]
                    rfl
                   refine one_ (i := 6) (N := some 71) tb18_7f_11 rfl rfl (one_of HT_.out (by kernel_rfl)) (by decide) (fun K hK => ?_)
                   refine goes_ Try.func134 (by kernel_rfl) rfl #[.agg #[.slice A397_0 ((rd_T126 l0_3 (rd t393 x13_1)).f0).length c397_0, .int .i64 ((rd_T126 l0_3 (rd t393 x13_1)).f1), .slice A397_2 ((rd_T126 l0_3 (rd t393 x13_1)).f2).length c397_2, .int .i64 ((rd_T126 l0_3 (rd t393 x13_1)).f3), .int .i64 ((rd_T126 l0_3 (rd t393 x13_1)).f4), .int .i64 ((rd_T126 l0_3 (rd t393 x13_1)).f5), .int .i64 ((rd_T126 l0_3 (rd t393 x13_1)).f6), .int .i64 ((rd_T126 l0_3 (rd t393 x13_1)).f7), .slice A397_8 ((rd_T126 l0_3 (rd t393 x13_1)).f8).length c397_8], .agg #[.slice A402_0 ((rd_T126 l0_3 (rd t393 x61_3)).f0).length c402_0, .int .i64 ((rd_T126 l0_3 (rd t393 x61_3)).f1), .slice A402_2 ((rd_T126 l0_3 (rd t393 x61_3)).f2).length c402_2, .int .i64 ((rd_T126 l0_3 (rd t393 x61_3)).f3), .int .i64 ((rd_T126 l0_3 (rd t393 x61_3)).f4), .int .i64 ((rd_T126 l0_3 (rd t393 x61_3)).f5), .int .i64 ((rd_T126 l0_3 (rd t393 x61_3)).f6), .int .i64 ((rd_T126 l0_3 (rd t393 x61_3)).f7), .slice A402_8 ((rd_T126 l0_3 (rd t393 x61_3)).f8).length c402_8]] (by rfl) rfl rfl gl_ ?_
                   with_reducible refine (impl_Before.calls _ _ ((rd_T126 l0_3 (rd t393 x13_1)).f0) ((rd_T126 l0_3 (rd t393 x13_1)).f1) _ _ ((rd_T126 l0_3 (rd t393 x13_1)).f2) ((rd_T126 l0_3 (rd t393 x13_1)).f3) ((rd_T126 l0_3 (rd t393 x13_1)).f4) ((rd_T126 l0_3 (rd t393 x13_1)).f5) ((rd_T126 l0_3 (rd t393 x13_1)).f6) ((rd_T126 l0_3 (rd t393 x13_1)).f7) _ _ ((rd_T126 l0_3 (rd t393 x13_1)).f8) _ _ ((rd_T126 l0_3 (rd t393 x61_3)).f0) ((rd_T126 l0_3 (rd t393 x61_3)).f1) _ _ ((rd_T126 l0_3 (rd t393 x61_3)).f2) ((rd_T126 l0_3 (rd t393 x61_3)).f3) ((rd_T126 l0_3 (rd t393 x61_3)).f4) ((rd_T126 l0_3 (rd t393 x61_3)).f5) ((rd_T126 l0_3 (rd t393 x61_3)).f6) ((rd_T126 l0_3 (rd t393 x61_3)).f7) _ _ ((rd_T126 l0_3 (rd t393 x61_3)).f8) false _ ?side1 ?side2 ?side3 ?side4 ?side5 ?side6 ?side7 ?side8 ?side9 ?side10 ?side11 ?side12 A48.out).mono ?_
                   (case side1 => exact ca_ (Kd.C_below HR397_0.out HB.out))
                   (case side2 => exact HC397_0.out)
                   (case side3 => exact ca_ (Kd.C_below HR397_2.out HB.out))
                   (case side4 => exact HC397_2.out)
                   (case side5 => exact ca_ (Kd.C_below HR397_8.out HB.out))
                   (case side6 => exact HC397_8.out)
                   (case side7 => exact ca_ (Kd.C_below HR402_0.out HB.out))
                   (case side8 => exact HC402_0.out)
                   (case side9 => exact ca_ (Kd.C_below HR402_2.out HB.out))
                   (case side10 => exact HC402_2.out)
                   (case side11 => exact ca_ (Kd.C_below HR402_8.out HB.out))
                   (case side12 => exact HC402_8.out)
                   rintro e w56 ⟨rfl, hb⟩
                   refine ⟨_, rfl, ?_⟩
                   have n0_ := Aside0.mk (Kd.R_below (ra_ HO_3) hb)
                   have n1_ := Aside0.mk (Kd.R_below (ra_ HO_11) hb)
                   have n2_ := Aside0.mk (Kd.R_below (ra_ HO_59) hb)
                   have n3_ := Aside0.mk (blk_below (bk_ BK392) hb)
                   have n4_ := Aside0.mk (blk_below (g := gb398) (o := .cells #[.slice A397_0 ((rd_T126 l0_3 (rd t393 x13_1)).f0).length c397_0, .int .i64 ((rd_T126 l0_3 (rd t393 x13_1)).f1), .slice A397_2 ((rd_T126 l0_3 (rd t393 x13_1)).f2).length c397_2, .int .i64 ((rd_T126 l0_3 (rd t393 x13_1)).f3), .int .i64 ((rd_T126 l0_3 (rd t393 x13_1)).f4), .int .i64 ((rd_T126 l0_3 (rd t393 x13_1)).f5), .int .i64 ((rd_T126 l0_3 (rd t393 x13_1)).f6), .int .i64 ((rd_T126 l0_3 (rd t393 x13_1)).f7), .slice A397_8 ((rd_T126 l0_3 (rd t393 x13_1)).f8).length c397_8] 126 (0, 0)) (by (with_reducible repeat (first | refine blk_drewN ?_ _ | refine blk_drew ?_ | refine blk_alloc ?_ _)); exact BK398.out) hb)
                   have n5_ := Aside0.mk (below_step bl_ hb)
                   clear HO_3
                   clear HO_11
                   clear HO_59
                   clear BK392
                   clear BK398
                   clear HB
                   have HO_3 := n0_
                   have HO_11 := n1_
                   have HO_59 := n2_
                   have BK392 := n3_
                   have BK398 := n4_
                   have HB := n5_
                   clear n0_ n1_ n2_ n3_ n4_ n5_
                   (try clear hb)
                   (try clear hb2)
                   (try clear hk)
                   (try clear hi)
                   refine hK.out _ _ ⟨cy_ BK398 0, cy_ BK398 1, cy_ BK398 2, cy_ BK398 3, cy_ BK398 4, cy_ BK398 5, cy_ BK398 6, cy_ BK398 7, cy_ BK398 8, cy_ BK392 0, cy_ BK392 1, cy_ BK392 2, cy_ BK392 3, (kc_ HB hw402_0), (kc_ HB hw402_1), (kc_ HB hw402_2), (kc_ HB hw402_3), (kc_ HB hw402_4), (kc_ HB hw402_5), (kc_ HB hw402_6), (kc_ HB hw402_7), (kc_ HB hw402_8)⟩ (fun hHeld => ?_)
                   clear hK K
                   refine norm_ (a' := ?_) ?_ ?_
                   rotate_left
                   ·show Act.put _ (some 71) _ = _
                    simp only [Act.put, q_]
                    rfl
                   refine pl_ HT_ 7 72 tb18_ff_11 ?_
                   refine pr_ HT_ 8 73 tb18_1ff_11 ?_
                   refine pr_ HT_ 9 74 tb18_3ff_11 ?_
                   refine pr_ HT_ 10 75 tb18_7ff_11 ?_
                   refine pr_ HT_ 11 76 tb18_fff_11 ?_
                   refine pr_ HT_ 12 77 tb18_1fff_11 ?_
                   refine pr_ HT_ 13 78 tb18_3fff_11 ?_
                   refine pr_ HT_ 14 79 tb18_7fff_11 ?_
                   refine pr_ HT_ 15 80 tb18_ffff_11 ?_
                   refine pr_ HT_ 16 81 tb18_1ffff_11 ?_
                   refine pl_ HT_ 17 82 tb18_3ffff_11 ?_
                   refine done_ (done_of HT_.out (by kernel_rfl)) ?_
                   try go_wp2
                   go_roundg k3
                   case measure => have := HK1.out; have := HJ11.out; have := HK3.out; omega
                   case rel => exact ⟨(wrap64 (x61_3 + 1)), sp_, H', ⟨by have := HK1.out; have := HJ11.out; have := HK3.out; omega⟩, ⟨ra_ HO_3⟩, ⟨ra_ HO_11⟩, ⟨ra_ HO_59⟩, ⟨by (with_reducible repeat (first | refine blk_drewN ?_ _ | refine blk_drew ?_ | refine blk_alloc ?_ _)); exact BK392.out⟩, ⟨by (with_reducible repeat (first | refine blk_drewN ?_ _ | refine blk_drew ?_ | refine blk_alloc ?_ _)); exact BK398.out⟩, ⟨bl_⟩⟩
                 ·rw [if_neg c47] at H
                  exact absurd H (by simp)
                ·rw [if_neg c46] at H
                 exact absurd H (by simp)
               ·rw [if_neg c45] at H
                exact absurd H (by simp)
              ·rw [if_neg c44] at H
               exact absurd H (by simp)
             ·rw [if_neg c43] at H
              have c43b0 : decide (x61_3 < (t393.length : Int)) = false := decide_eq_false c43
              clear c43
              have H' := Aside0.mk H
              clear H
              go_wp2
              go_roundg k3
              case measure => have := HK1.out; have := HJ11.out; have := HK3.out; omega
              case rel => exact ⟨(wrap64 (x13_1 + 1)), sp_, H', ⟨by have := HK1.out; have := HJ11.out; have := HK3.out; omega⟩, ⟨ra_ HO_3⟩, ⟨ra_ HO_11⟩, ⟨by (with_reducible repeat (first | refine blk_drewN ?_ _ | refine blk_drew ?_ | refine blk_alloc ?_ _)); exact BK392.out⟩, ⟨bl_⟩⟩
       ·rw [if_neg c11] at H
        exact absurd H (by simp)
      ·rw [if_neg c10] at H
       exact absurd H (by simp)
     ·rw [if_neg c9] at H
      exact absurd H (by simp)
    ·rw [if_neg c8] at H
     exact absurd H (by simp)
   ·rw [if_neg c7] at H
    have c7b0 : decide (x13_1 < (t393.length : Int)) = false := decide_eq_false c7
    clear c7
    obtain rfl := Option.some.inj H
    go_wp2
    go_ret
    exact ⟨sq_, bl_⟩
end Go.Proofs.Ytepjnalkpfnmcaa.QFnExactInOrder
