-- by my own printer (myprint.py, over the kit's print.py)
import Derived.Test.YtepjnalkpfnmcaaQFnExactAcctNewx0
import Derived.Test.YtepjnalkpfnmcaaQFnExactAcctNewx7
import Derived.Test.YtepjnalkpfnmcaaQFnExactAcctNewx8
import Derived.Test.YtepjnalkpfnmcaaQFnExactAcctNewx9
import Derived.Test.YtepjnalkpfnmcaaQFnExactAcctNewx10
namespace Go.Proofs.Ytepjnalkpfnmcaa.QFnExactAcctNew
open Go.RowKit Go.Proofs.YtepjnalkpfnmcaaW.PrintWords Go.Proofs.YtepjnalkpfnmcaaW.PrintLast Go.Proofs.YtepjnalkpfnmcaaW.PrintMore
attribute [local go_sem] max2_int min2_int max_two min_two max_three min_three max_four min_four   -- for this text's walks alone
set_option linter.unusedVariables false
set_option linter.unusedSimpArgs false
attribute [local go_sem] my_geq my_leq my_gtr
abbrev tb50_0_11 : Array Bool := #[b0, b0, b0, b0, b0, b0, b0, b0, b0, b0, b0, b0, b0, b0, b0, b0, b0, b0, b0, b0, b0, b0, b0, b0, b0, b0, b0, b0, b0, b0, b0, b0, b0, b0, b0, b0, b0, b0, b0, b0, b0, b0, b0, b0, b0, b0, b0, b0, b0, b0]
abbrev tb50_1_11 : Array Bool := #[b1, b0, b0, b0, b0, b0, b0, b0, b0, b0, b0, b0, b0, b0, b0, b0, b0, b0, b0, b0, b0, b0, b0, b0, b0, b0, b0, b0, b0, b0, b0, b0, b0, b0, b0, b0, b0, b0, b0, b0, b0, b0, b0, b0, b0, b0, b0, b0, b0, b0]
abbrev tb50_1f_11 : Array Bool := #[b1, b1, b1, b1, b1, b0, b0, b0, b0, b0, b0, b0, b0, b0, b0, b0, b0, b0, b0, b0, b0, b0, b0, b0, b0, b0, b0, b0, b0, b0, b0, b0, b0, b0, b0, b0, b0, b0, b0, b0, b0, b0, b0, b0, b0, b0, b0, b0, b0, b0]
abbrev tb50_1ff_11 : Array Bool := #[b1, b1, b1, b1, b1, b1, b1, b1, b1, b0, b0, b0, b0, b0, b0, b0, b0, b0, b0, b0, b0, b0, b0, b0, b0, b0, b0, b0, b0, b0, b0, b0, b0, b0, b0, b0, b0, b0, b0, b0, b0, b0, b0, b0, b0, b0, b0, b0, b0, b0]
abbrev tb50_1fff_11 : Array Bool := #[b1, b1, b1, b1, b1, b1, b1, b1, b1, b1, b1, b1, b1, b0, b0, b0, b0, b0, b0, b0, b0, b0, b0, b0, b0, b0, b0, b0, b0, b0, b0, b0, b0, b0, b0, b0, b0, b0, b0, b0, b0, b0, b0, b0, b0, b0, b0, b0, b0, b0]
abbrev tb50_1ffff_11 : Array Bool := #[b1, b1, b1, b1, b1, b1, b1, b1, b1, b1, b1, b1, b1, b1, b1, b1, b1, b0, b0, b0, b0, b0, b0, b0, b0, b0, b0, b0, b0, b0, b0, b0, b0, b0, b0, b0, b0, b0, b0, b0, b0, b0, b0, b0, b0, b0, b0, b0, b0, b0]
abbrev tb50_1fffff_11 : Array Bool := #[b1, b1, b1, b1, b1, b1, b1, b1, b1, b1, b1, b1, b1, b1, b1, b1, b1, b1, b1, b1, b1, b0, b0, b0, b0, b0, b0, b0, b0, b0, b0, b0, b0, b0, b0, b0, b0, b0, b0, b0, b0, b0, b0, b0, b0, b0, b0, b0, b0, b0]
abbrev tb50_1ffffff_11 : Array Bool := #[b1, b1, b1, b1, b1, b1, b1, b1, b1, b1, b1, b1, b1, b1, b1, b1, b1, b1, b1, b1, b1, b1, b1, b1, b1, b0, b0, b0, b0, b0, b0, b0, b0, b0, b0, b0, b0, b0, b0, b0, b0, b0, b0, b0, b0, b0, b0, b0, b0, b0]
abbrev tb50_1fffffff_11 : Array Bool := #[b1, b1, b1, b1, b1, b1, b1, b1, b1, b1, b1, b1, b1, b1, b1, b1, b1, b1, b1, b1, b1, b1, b1, b1, b1, b1, b1, b1, b1, b0, b0, b0, b0, b0, b0, b0, b0, b0, b0, b0, b0, b0, b0, b0, b0, b0, b0, b0, b0, b0]
abbrev tb50_1ffffffff_11 : Array Bool := #[b1, b1, b1, b1, b1, b1, b1, b1, b1, b1, b1, b1, b1, b1, b1, b1, b1, b1, b1, b1, b1, b1, b1, b1, b1, b1, b1, b1, b1, b1, b1, b1, b1, b0, b0, b0, b0, b0, b0, b0, b0, b0, b0, b0, b0, b0, b0, b0, b0, b0]
abbrev tb50_1fffffffff_11 : Array Bool := #[b1, b1, b1, b1, b1, b1, b1, b1, b1, b1, b1, b1, b1, b1, b1, b1, b1, b1, b1, b1, b1, b1, b1, b1, b1, b1, b1, b1, b1, b1, b1, b1, b1, b1, b1, b1, b1, b0, b0, b0, b0, b0, b0, b0, b0, b0, b0, b0, b0, b0]
abbrev tb50_1ffffffffff_11 : Array Bool := #[b1, b1, b1, b1, b1, b1, b1, b1, b1, b1, b1, b1, b1, b1, b1, b1, b1, b1, b1, b1, b1, b1, b1, b1, b1, b1, b1, b1, b1, b1, b1, b1, b1, b1, b1, b1, b1, b1, b1, b1, b1, b0, b0, b0, b0, b0, b0, b0, b0, b0]
abbrev tb50_1fffffffffff_11 : Array Bool := #[b1, b1, b1, b1, b1, b1, b1, b1, b1, b1, b1, b1, b1, b1, b1, b1, b1, b1, b1, b1, b1, b1, b1, b1, b1, b1, b1, b1, b1, b1, b1, b1, b1, b1, b1, b1, b1, b1, b1, b1, b1, b1, b1, b1, b1, b0, b0, b0, b0, b0]
abbrev tb50_1ffffffffffff_11 : Array Bool := #[b1, b1, b1, b1, b1, b1, b1, b1, b1, b1, b1, b1, b1, b1, b1, b1, b1, b1, b1, b1, b1, b1, b1, b1, b1, b1, b1, b1, b1, b1, b1, b1, b1, b1, b1, b1, b1, b1, b1, b1, b1, b1, b1, b1, b1, b1, b1, b1, b1, b0]
abbrev tb50_22ffffffffff_11 : Array Bool := #[b1, b1, b1, b1, b1, b1, b1, b1, b1, b1, b1, b1, b1, b1, b1, b1, b1, b1, b1, b1, b1, b1, b1, b1, b1, b1, b1, b1, b1, b1, b1, b1, b1, b1, b1, b1, b1, b1, b1, b1, b0, b1, b0, b0, b0, b1, b0, b0, b0, b0]
abbrev tb50_23ffffffffff_11 : Array Bool := #[b1, b1, b1, b1, b1, b1, b1, b1, b1, b1, b1, b1, b1, b1, b1, b1, b1, b1, b1, b1, b1, b1, b1, b1, b1, b1, b1, b1, b1, b1, b1, b1, b1, b1, b1, b1, b1, b1, b1, b1, b1, b1, b0, b0, b0, b1, b0, b0, b0, b0]
abbrev tb50_27ffffffffff_11 : Array Bool := #[b1, b1, b1, b1, b1, b1, b1, b1, b1, b1, b1, b1, b1, b1, b1, b1, b1, b1, b1, b1, b1, b1, b1, b1, b1, b1, b1, b1, b1, b1, b1, b1, b1, b1, b1, b1, b1, b1, b1, b1, b1, b1, b1, b0, b0, b1, b0, b0, b0, b0]
abbrev tb50_2ffffffffff_11 : Array Bool := #[b1, b1, b1, b1, b1, b1, b1, b1, b1, b1, b1, b1, b1, b1, b1, b1, b1, b1, b1, b1, b1, b1, b1, b1, b1, b1, b1, b1, b1, b1, b1, b1, b1, b1, b1, b1, b1, b1, b1, b1, b0, b1, b0, b0, b0, b0, b0, b0, b0, b0]
abbrev tb50_3_11 : Array Bool := #[b1, b1, b0, b0, b0, b0, b0, b0, b0, b0, b0, b0, b0, b0, b0, b0, b0, b0, b0, b0, b0, b0, b0, b0, b0, b0, b0, b0, b0, b0, b0, b0, b0, b0, b0, b0, b0, b0, b0, b0, b0, b0, b0, b0, b0, b0, b0, b0, b0, b0]
abbrev tb50_3f_11 : Array Bool := #[b1, b1, b1, b1, b1, b1, b0, b0, b0, b0, b0, b0, b0, b0, b0, b0, b0, b0, b0, b0, b0, b0, b0, b0, b0, b0, b0, b0, b0, b0, b0, b0, b0, b0, b0, b0, b0, b0, b0, b0, b0, b0, b0, b0, b0, b0, b0, b0, b0, b0]
abbrev tb50_3ff_11 : Array Bool := #[b1, b1, b1, b1, b1, b1, b1, b1, b1, b1, b0, b0, b0, b0, b0, b0, b0, b0, b0, b0, b0, b0, b0, b0, b0, b0, b0, b0, b0, b0, b0, b0, b0, b0, b0, b0, b0, b0, b0, b0, b0, b0, b0, b0, b0, b0, b0, b0, b0, b0]
abbrev tb50_3fff_11 : Array Bool := #[b1, b1, b1, b1, b1, b1, b1, b1, b1, b1, b1, b1, b1, b1, b0, b0, b0, b0, b0, b0, b0, b0, b0, b0, b0, b0, b0, b0, b0, b0, b0, b0, b0, b0, b0, b0, b0, b0, b0, b0, b0, b0, b0, b0, b0, b0, b0, b0, b0, b0]
abbrev tb50_3ffff_11 : Array Bool := #[b1, b1, b1, b1, b1, b1, b1, b1, b1, b1, b1, b1, b1, b1, b1, b1, b1, b1, b0, b0, b0, b0, b0, b0, b0, b0, b0, b0, b0, b0, b0, b0, b0, b0, b0, b0, b0, b0, b0, b0, b0, b0, b0, b0, b0, b0, b0, b0, b0, b0]
abbrev tb50_3fffff_11 : Array Bool := #[b1, b1, b1, b1, b1, b1, b1, b1, b1, b1, b1, b1, b1, b1, b1, b1, b1, b1, b1, b1, b1, b1, b0, b0, b0, b0, b0, b0, b0, b0, b0, b0, b0, b0, b0, b0, b0, b0, b0, b0, b0, b0, b0, b0, b0, b0, b0, b0, b0, b0]
abbrev tb50_3ffffff_11 : Array Bool := #[b1, b1, b1, b1, b1, b1, b1, b1, b1, b1, b1, b1, b1, b1, b1, b1, b1, b1, b1, b1, b1, b1, b1, b1, b1, b1, b0, b0, b0, b0, b0, b0, b0, b0, b0, b0, b0, b0, b0, b0, b0, b0, b0, b0, b0, b0, b0, b0, b0, b0]
abbrev tb50_3fffffff_11 : Array Bool := #[b1, b1, b1, b1, b1, b1, b1, b1, b1, b1, b1, b1, b1, b1, b1, b1, b1, b1, b1, b1, b1, b1, b1, b1, b1, b1, b1, b1, b1, b1, b0, b0, b0, b0, b0, b0, b0, b0, b0, b0, b0, b0, b0, b0, b0, b0, b0, b0, b0, b0]
abbrev tb50_3ffffffff_11 : Array Bool := #[b1, b1, b1, b1, b1, b1, b1, b1, b1, b1, b1, b1, b1, b1, b1, b1, b1, b1, b1, b1, b1, b1, b1, b1, b1, b1, b1, b1, b1, b1, b1, b1, b1, b1, b0, b0, b0, b0, b0, b0, b0, b0, b0, b0, b0, b0, b0, b0, b0, b0]
abbrev tb50_3fffffffff_11 : Array Bool := #[b1, b1, b1, b1, b1, b1, b1, b1, b1, b1, b1, b1, b1, b1, b1, b1, b1, b1, b1, b1, b1, b1, b1, b1, b1, b1, b1, b1, b1, b1, b1, b1, b1, b1, b1, b1, b1, b1, b0, b0, b0, b0, b0, b0, b0, b0, b0, b0, b0, b0]
abbrev tb50_3ffffffffff_11 : Array Bool := #[b1, b1, b1, b1, b1, b1, b1, b1, b1, b1, b1, b1, b1, b1, b1, b1, b1, b1, b1, b1, b1, b1, b1, b1, b1, b1, b1, b1, b1, b1, b1, b1, b1, b1, b1, b1, b1, b1, b1, b1, b1, b1, b0, b0, b0, b0, b0, b0, b0, b0]
abbrev tb50_3fffffffffff_11 : Array Bool := #[b1, b1, b1, b1, b1, b1, b1, b1, b1, b1, b1, b1, b1, b1, b1, b1, b1, b1, b1, b1, b1, b1, b1, b1, b1, b1, b1, b1, b1, b1, b1, b1, b1, b1, b1, b1, b1, b1, b1, b1, b1, b1, b1, b1, b1, b1, b0, b0, b0, b0]
abbrev tb50_3ffffffffffff_11 : Array Bool := #[b1, b1, b1, b1, b1, b1, b1, b1, b1, b1, b1, b1, b1, b1, b1, b1, b1, b1, b1, b1, b1, b1, b1, b1, b1, b1, b1, b1, b1, b1, b1, b1, b1, b1, b1, b1, b1, b1, b1, b1, b1, b1, b1, b1, b1, b1, b1, b1, b1, b1]
abbrev tb50_67ffffffffff_11 : Array Bool := #[b1, b1, b1, b1, b1, b1, b1, b1, b1, b1, b1, b1, b1, b1, b1, b1, b1, b1, b1, b1, b1, b1, b1, b1, b1, b1, b1, b1, b1, b1, b1, b1, b1, b1, b1, b1, b1, b1, b1, b1, b1, b1, b1, b0, b0, b1, b1, b0, b0, b0]
abbrev tb50_6fffffffffff_11 : Array Bool := #[b1, b1, b1, b1, b1, b1, b1, b1, b1, b1, b1, b1, b1, b1, b1, b1, b1, b1, b1, b1, b1, b1, b1, b1, b1, b1, b1, b1, b1, b1, b1, b1, b1, b1, b1, b1, b1, b1, b1, b1, b1, b1, b1, b1, b0, b1, b1, b0, b0, b0]
abbrev tb50_7_11 : Array Bool := #[b1, b1, b1, b0, b0, b0, b0, b0, b0, b0, b0, b0, b0, b0, b0, b0, b0, b0, b0, b0, b0, b0, b0, b0, b0, b0, b0, b0, b0, b0, b0, b0, b0, b0, b0, b0, b0, b0, b0, b0, b0, b0, b0, b0, b0, b0, b0, b0, b0, b0]
abbrev tb50_7f_11 : Array Bool := #[b1, b1, b1, b1, b1, b1, b1, b0, b0, b0, b0, b0, b0, b0, b0, b0, b0, b0, b0, b0, b0, b0, b0, b0, b0, b0, b0, b0, b0, b0, b0, b0, b0, b0, b0, b0, b0, b0, b0, b0, b0, b0, b0, b0, b0, b0, b0, b0, b0, b0]
abbrev tb50_7ff_11 : Array Bool := #[b1, b1, b1, b1, b1, b1, b1, b1, b1, b1, b1, b0, b0, b0, b0, b0, b0, b0, b0, b0, b0, b0, b0, b0, b0, b0, b0, b0, b0, b0, b0, b0, b0, b0, b0, b0, b0, b0, b0, b0, b0, b0, b0, b0, b0, b0, b0, b0, b0, b0]
abbrev tb50_7fff_11 : Array Bool := #[b1, b1, b1, b1, b1, b1, b1, b1, b1, b1, b1, b1, b1, b1, b1, b0, b0, b0, b0, b0, b0, b0, b0, b0, b0, b0, b0, b0, b0, b0, b0, b0, b0, b0, b0, b0, b0, b0, b0, b0, b0, b0, b0, b0, b0, b0, b0, b0, b0, b0]
abbrev tb50_7ffff_11 : Array Bool := #[b1, b1, b1, b1, b1, b1, b1, b1, b1, b1, b1, b1, b1, b1, b1, b1, b1, b1, b1, b0, b0, b0, b0, b0, b0, b0, b0, b0, b0, b0, b0, b0, b0, b0, b0, b0, b0, b0, b0, b0, b0, b0, b0, b0, b0, b0, b0, b0, b0, b0]
abbrev tb50_7fffff_11 : Array Bool := #[b1, b1, b1, b1, b1, b1, b1, b1, b1, b1, b1, b1, b1, b1, b1, b1, b1, b1, b1, b1, b1, b1, b1, b0, b0, b0, b0, b0, b0, b0, b0, b0, b0, b0, b0, b0, b0, b0, b0, b0, b0, b0, b0, b0, b0, b0, b0, b0, b0, b0]
abbrev tb50_7ffffff_11 : Array Bool := #[b1, b1, b1, b1, b1, b1, b1, b1, b1, b1, b1, b1, b1, b1, b1, b1, b1, b1, b1, b1, b1, b1, b1, b1, b1, b1, b1, b0, b0, b0, b0, b0, b0, b0, b0, b0, b0, b0, b0, b0, b0, b0, b0, b0, b0, b0, b0, b0, b0, b0]
abbrev tb50_7fffffff_11 : Array Bool := #[b1, b1, b1, b1, b1, b1, b1, b1, b1, b1, b1, b1, b1, b1, b1, b1, b1, b1, b1, b1, b1, b1, b1, b1, b1, b1, b1, b1, b1, b1, b1, b0, b0, b0, b0, b0, b0, b0, b0, b0, b0, b0, b0, b0, b0, b0, b0, b0, b0, b0]
abbrev tb50_7ffffffff_11 : Array Bool := #[b1, b1, b1, b1, b1, b1, b1, b1, b1, b1, b1, b1, b1, b1, b1, b1, b1, b1, b1, b1, b1, b1, b1, b1, b1, b1, b1, b1, b1, b1, b1, b1, b1, b1, b1, b0, b0, b0, b0, b0, b0, b0, b0, b0, b0, b0, b0, b0, b0, b0]
abbrev tb50_7fffffffff_11 : Array Bool := #[b1, b1, b1, b1, b1, b1, b1, b1, b1, b1, b1, b1, b1, b1, b1, b1, b1, b1, b1, b1, b1, b1, b1, b1, b1, b1, b1, b1, b1, b1, b1, b1, b1, b1, b1, b1, b1, b1, b1, b0, b0, b0, b0, b0, b0, b0, b0, b0, b0, b0]
abbrev tb50_7ffffffffff_11 : Array Bool := #[b1, b1, b1, b1, b1, b1, b1, b1, b1, b1, b1, b1, b1, b1, b1, b1, b1, b1, b1, b1, b1, b1, b1, b1, b1, b1, b1, b1, b1, b1, b1, b1, b1, b1, b1, b1, b1, b1, b1, b1, b1, b1, b1, b0, b0, b0, b0, b0, b0, b0]
abbrev tb50_7fffffffffff_11 : Array Bool := #[b1, b1, b1, b1, b1, b1, b1, b1, b1, b1, b1, b1, b1, b1, b1, b1, b1, b1, b1, b1, b1, b1, b1, b1, b1, b1, b1, b1, b1, b1, b1, b1, b1, b1, b1, b1, b1, b1, b1, b1, b1, b1, b1, b1, b1, b1, b1, b0, b0, b0]
abbrev tb50_f_11 : Array Bool := #[b1, b1, b1, b1, b0, b0, b0, b0, b0, b0, b0, b0, b0, b0, b0, b0, b0, b0, b0, b0, b0, b0, b0, b0, b0, b0, b0, b0, b0, b0, b0, b0, b0, b0, b0, b0, b0, b0, b0, b0, b0, b0, b0, b0, b0, b0, b0, b0, b0, b0]
abbrev tb50_ff_11 : Array Bool := #[b1, b1, b1, b1, b1, b1, b1, b1, b0, b0, b0, b0, b0, b0, b0, b0, b0, b0, b0, b0, b0, b0, b0, b0, b0, b0, b0, b0, b0, b0, b0, b0, b0, b0, b0, b0, b0, b0, b0, b0, b0, b0, b0, b0, b0, b0, b0, b0, b0, b0]
abbrev tb50_fff_11 : Array Bool := #[b1, b1, b1, b1, b1, b1, b1, b1, b1, b1, b1, b1, b0, b0, b0, b0, b0, b0, b0, b0, b0, b0, b0, b0, b0, b0, b0, b0, b0, b0, b0, b0, b0, b0, b0, b0, b0, b0, b0, b0, b0, b0, b0, b0, b0, b0, b0, b0, b0, b0]
abbrev tb50_ffff_11 : Array Bool := #[b1, b1, b1, b1, b1, b1, b1, b1, b1, b1, b1, b1, b1, b1, b1, b1, b0, b0, b0, b0, b0, b0, b0, b0, b0, b0, b0, b0, b0, b0, b0, b0, b0, b0, b0, b0, b0, b0, b0, b0, b0, b0, b0, b0, b0, b0, b0, b0, b0, b0]
abbrev tb50_fffff_11 : Array Bool := #[b1, b1, b1, b1, b1, b1, b1, b1, b1, b1, b1, b1, b1, b1, b1, b1, b1, b1, b1, b1, b0, b0, b0, b0, b0, b0, b0, b0, b0, b0, b0, b0, b0, b0, b0, b0, b0, b0, b0, b0, b0, b0, b0, b0, b0, b0, b0, b0, b0, b0]
abbrev tb50_ffffff_11 : Array Bool := #[b1, b1, b1, b1, b1, b1, b1, b1, b1, b1, b1, b1, b1, b1, b1, b1, b1, b1, b1, b1, b1, b1, b1, b1, b0, b0, b0, b0, b0, b0, b0, b0, b0, b0, b0, b0, b0, b0, b0, b0, b0, b0, b0, b0, b0, b0, b0, b0, b0, b0]
abbrev tb50_fffffff_11 : Array Bool := #[b1, b1, b1, b1, b1, b1, b1, b1, b1, b1, b1, b1, b1, b1, b1, b1, b1, b1, b1, b1, b1, b1, b1, b1, b1, b1, b1, b1, b0, b0, b0, b0, b0, b0, b0, b0, b0, b0, b0, b0, b0, b0, b0, b0, b0, b0, b0, b0, b0, b0]
abbrev tb50_ffffffff_11 : Array Bool := #[b1, b1, b1, b1, b1, b1, b1, b1, b1, b1, b1, b1, b1, b1, b1, b1, b1, b1, b1, b1, b1, b1, b1, b1, b1, b1, b1, b1, b1, b1, b1, b1, b0, b0, b0, b0, b0, b0, b0, b0, b0, b0, b0, b0, b0, b0, b0, b0, b0, b0]
abbrev tb50_fffffffff_11 : Array Bool := #[b1, b1, b1, b1, b1, b1, b1, b1, b1, b1, b1, b1, b1, b1, b1, b1, b1, b1, b1, b1, b1, b1, b1, b1, b1, b1, b1, b1, b1, b1, b1, b1, b1, b1, b1, b1, b0, b0, b0, b0, b0, b0, b0, b0, b0, b0, b0, b0, b0, b0]
abbrev tb50_ffffffffff_11 : Array Bool := #[b1, b1, b1, b1, b1, b1, b1, b1, b1, b1, b1, b1, b1, b1, b1, b1, b1, b1, b1, b1, b1, b1, b1, b1, b1, b1, b1, b1, b1, b1, b1, b1, b1, b1, b1, b1, b1, b1, b1, b1, b0, b0, b0, b0, b0, b0, b0, b0, b0, b0]
abbrev tb50_fffffffffff_11 : Array Bool := #[b1, b1, b1, b1, b1, b1, b1, b1, b1, b1, b1, b1, b1, b1, b1, b1, b1, b1, b1, b1, b1, b1, b1, b1, b1, b1, b1, b1, b1, b1, b1, b1, b1, b1, b1, b1, b1, b1, b1, b1, b1, b1, b1, b1, b0, b0, b0, b0, b0, b0]
abbrev tb50_ffffffffffff_11 : Array Bool := #[b1, b1, b1, b1, b1, b1, b1, b1, b1, b1, b1, b1, b1, b1, b1, b1, b1, b1, b1, b1, b1, b1, b1, b1, b1, b1, b1, b1, b1, b1, b1, b1, b1, b1, b1, b1, b1, b1, b1, b1, b1, b1, b1, b1, b1, b1, b1, b1, b0, b0]
/-! ### impl_AcctOk: function 91 -/
def impl_AcctOk.f (k : Nat) (a0_0 : ByteArray) (a0_1 : Int) (a0_2 : Int) (a0_3 : Int) (a0_4 : Int) (l0_5 : List (S93)) (a0_6 : Int) (a0_7 : Int) (l0_8 : List Int) (l0_9 : List Int) (l0_10 : List (S74)) : Option (Bool) := (impl_AcctIdOk.f k a0_0).bind fun t257 => (if t257 = true then ((impl_within.f a0_1 0 9007199254740992).bind fun t258 => (if t258 = true then ((impl_within.f a0_3 0 1000).bind fun t259 => (if t259 = true then ((impl_within.f a0_4 0 9007199254740992).bind fun t260 => (if t260 = true then ((impl_isMoney.f a0_2).bind fun t261 => (if t261 = true then ((impl_HoldsOk.f k l0_5).bind fun t262 => (if t262 = true then ((impl_RingOk.f k a0_6 a0_7 l0_8 l0_9).bind fun t263 => (if t263 = true then ((impl_SlotsOk.f k l0_10).bind fun t264 => (if t264 = true then ((impl_Stored.f k l0_5).bind fun t265 => ((impl_AddSat.f a0_2 t265).bind fun t266 => (some (decide (t266 ≤ a0_1))))) else (some false))) else (some false))) else (some false))) else (some false))) else (some false))) else (some false))) else (some false))) else (some false))
def impl_AcctOk.T1 : Bool × List (List Nat × List Nat) := (true, [([], []), ([0], [0]), ([1], [1]), ([2, 2], [2]), ([3], [3]), ([4, 3], [3, 4]), ([5, 3, 3], [3, 5]), ([3, 6], [3, 6]), ([7, 6], [7]), ([8], [8]), ([9, 8], [8, 9]), ([10, 8, 8], [8, 10]), ([8, 11], [8, 11]), ([12, 11], [12]), ([13], [13]), ([14, 13], [13, 14]), ([15, 13, 13], [13, 15]), ([13, 16], [13, 16]), ([17, 16], [17]), ([18], [18]), ([19, 18], [18, 19]), ([20, 18, 18], [18, 20]), ([18, 21], [18, 21]), ([22, 21], [22]), ([23], [23]), ([24, 23], [23, 24]), ([25, 23, 23], [23, 25]), ([23, 26], [23, 26]), ([27, 26], [27]), ([28], [28]), ([29, 28], [28, 29]), ([30, 28, 28], [28, 30]), ([28, 31], [28, 31]), ([32, 31], [32]), ([33], [33]), ([34, 33], [33, 34]), ([35, 33, 33], [33, 35]), ([33, 36], [33, 36]), ([37, 36], [37]), ([38], [38]), ([39, 38], [38, 39]), ([38], [38]), ([41, 38], [38, 41]), ([42, 38, 38], [38, 42]), ([40, 43, 43, 38], [38, 40, 43]), ([38], [38]), ([45, 38], [38, 45]), ([44, 46, 38], [38, 44, 46]), ([38, 47], [38, 47]), ([48, 44, 0, 1, 2, 3, 4, 5, 6, 7, 8, 9, 10, 11, 12, 13, 14, 15, 16, 17, 18, 19, 20, 21, 22, 23, 24, 25, 26, 27, 28, 29, 30, 31, 32, 33, 34, 35, 36, 37, 38, 39, 40, 41, 42, 43, 44, 45, 46, 47, 48], [48])])
def impl_AcctOk.B1 : List Nat := [0, 1, 3, 7, 15, 31, 63, 127, 255, 511, 1023, 2047, 4095, 8191, 16383, 32767, 65535, 131071, 262143, 524287, 1048575, 2097151, 4194303, 8388607, 16777215, 33554431, 67108863, 134217727, 268435455, 536870911, 1073741823, 2147483647, 4294967295, 8589934591, 17179869183, 34359738367, 68719476735, 137438953471, 274877906943, 549755813887, 1099511627775, 549755813887, 2748779069439, 7146825580543, 17592186044415, 549755813887, 35734127902719, 140737488355327, 281474976710655, 562949953421311]
theorem impl_AcctOk.tab1 : rtab .any (opsOf Try.f91 1) = impl_AcctOk.T1 := by kernel_rfl
theorem impl_AcctOk.bits1 : waitsOk impl_AcctOk.T1.2 impl_AcctOk.B1 = true := by kernel_rfl
set_option maxHeartbeats 8000000 in
set_option maxRecDepth 100000 in
theorem impl_AcctOk.calls (k : Nat) (a0_0 : ByteArray) (a0_1 : Int) (a0_2 : Int) (a0_3 : Int) (a0_4 : Int) (A0_5 : Option Addr) (c0_5 : Nat) (l0_5 : List (S93)) (a0_6 : Int) (a0_7 : Int) (A0_8 : Option Addr) (c0_8 : Nat) (l0_8 : List Int) (A0_9 : Option Addr) (c0_9 : Nat) (l0_9 : List Int) (A0_10 : Option Addr) (c0_10 : Nat) (l0_10 : List (S74)) (r : Bool) (w : World) (hr0_5 : Kd.C k93 w A0_5 l0_5.length l0_5) (hc0_5 : l0_5.length ≤ c0_5) (hr0_8 : Kd.C (Kd.int .i64) w A0_8 l0_8.length l0_8) (hc0_8 : l0_8.length ≤ c0_8) (hr0_9 : Kd.C (Kd.int .i64) w A0_9 l0_9.length l0_9) (hc0_9 : l0_9.length ≤ c0_9) (hr0_10 : Kd.C k74 w A0_10 l0_10.length l0_10) (hc0_10 : l0_10.length ≤ c0_10) (h : impl_AcctOk.f k a0_0 a0_1 a0_2 a0_3 a0_4 l0_5 a0_6 a0_7 l0_8 l0_9 l0_10 = some r) :
  Calls Try.prog 91 #[.agg #[.string a0_0, .int .i64 a0_1, .int .i64 a0_2, .int .i64 a0_3, .int .i64 a0_4, .slice A0_5 l0_5.length c0_5, .int .i64 a0_6, .int .i64 a0_7, .slice A0_8 l0_8.length c0_8, .slice A0_9 l0_9.length c0_9, .slice A0_10 l0_10.length c0_10]] w fun e w' => e = .returned (.bool r) ∧ Below w.heap.size w w' := by
 have hu43 := Try.underlying43
 have hu40 := Try.underlying40
 have HR0_5 := Aside0.mk hr0_5
 have HC0_5 := Aside0.mk hc0_5
 clear hr0_5 hc0_5
 have HR0_8 := Aside0.mk hr0_8
 have HC0_8 := Aside0.mk hc0_8
 clear hr0_8 hc0_8
 have HR0_9 := Aside0.mk hr0_9
 have HC0_9 := Aside0.mk hc0_9
 clear hr0_9 hc0_9
 have HR0_10 := Aside0.mk hr0_10
 have HC0_10 := Aside0.mk hc0_10
 clear hr0_10 hc0_10
 have HB := Aside0.mk (Below.refl w.heap.size w)
 have H : ((impl_AcctIdOk.f k a0_0).bind fun t257 => (if t257 = true then ((impl_within.f a0_1 0 9007199254740992).bind fun t258 => (if t258 = true then ((impl_within.f a0_3 0 1000).bind fun t259 => (if t259 = true then ((impl_within.f a0_4 0 9007199254740992).bind fun t260 => (if t260 = true then ((impl_isMoney.f a0_2).bind fun t261 => (if t261 = true then ((impl_HoldsOk.f k l0_5).bind fun t262 => (if t262 = true then ((impl_RingOk.f k a0_6 a0_7 l0_8 l0_9).bind fun t263 => (if t263 = true then ((impl_SlotsOk.f k l0_10).bind fun t264 => (if t264 = true then ((impl_Stored.f k l0_5).bind fun t265 => ((impl_AddSat.f a0_2 t265).bind fun t266 => (some (decide (t266 ≤ a0_1))))) else (some false))) else (some false))) else (some false))) else (some false))) else (some false))) else (some false))) else (some false))) else (some false))) = some r := h
 clear h
 obtain ⟨t257, A2, H⟩ := ob_ H
 by_cases c3 : t257 = true
 ·subst c3
  replace H := ip_ H
  obtain ⟨t258, A4, H⟩ := ob_ H
  by_cases c5 : t258 = true
  ·subst c5
   replace H := ip_ H
   obtain ⟨t259, A6, H⟩ := ob_ H
   by_cases c7 : t259 = true
   ·subst c7
    replace H := ip_ H
    obtain ⟨t260, A8, H⟩ := ob_ H
    by_cases c9 : t260 = true
    ·subst c9
     replace H := ip_ H
     obtain ⟨t261, A10, H⟩ := ob_ H
     by_cases c11 : t261 = true
     ·subst c11
      replace H := ip_ H
      obtain ⟨t262, A12, H⟩ := ob_ H
      by_cases c13 : t262 = true
      ·subst c13
       replace H := ip_ H
       obtain ⟨t263, A14, H⟩ := ob_ H
       by_cases c15 : t263 = true
       ·subst c15
        replace H := ip_ H
        obtain ⟨t264, A16, H⟩ := ob_ H
        by_cases c17 : t264 = true
        ·subst c17
         replace H := ip_ H
         obtain ⟨t265, A18, H⟩ := ob_ H
         obtain ⟨t266, A19, H⟩ := ob_ H
         obtain rfl := Option.some.inj H
         go_enter Try.func91, Try.ntmps91
         try go_wp2_with (first | ((with_reducible refine gate_dst (N := 1) rfl ?_); refine be_ (N := 1) (cs := #[.string a0_0, .int .i64 a0_1, .int .i64 a0_2, .int .i64 a0_3, .int .i64 a0_4, .slice A0_5 l0_5.length c0_5, .int .i64 a0_6, .int .i64 a0_7, .slice A0_8 l0_8.length c0_8, .slice A0_9 l0_9.length c0_9, .slice A0_10 l0_10.length c0_10]) (t := 43) ?_; intro gb256 hg w20 hbox hb; have BK256 := Aside0.mk (hbox); have GW256 := gw_ (w := w) hg; have GE256 := gw_ (w := w) hg; replace HB := Aside0.mk (below_step bl_ hb); clear hb hbox hg))
         have n0_ := Aside0.mk (blk_drew BK256.out)
         have n1_ := Aside0.mk (below_drew1 HB.out)
         clear BK256
         clear HB
         have BK256 := n0_
         have HB := n1_
         clear n0_ n1_
         refine start_ (n := 50) (S := fun w' => w'.cell? ⟨gb256, 0, none⟩ = some (.string a0_0) ∧ w'.cell? ⟨gb256, 1, none⟩ = some (.int .i64 a0_1) ∧ w'.cell? ⟨gb256, 2, none⟩ = some (.int .i64 a0_2) ∧ w'.cell? ⟨gb256, 3, none⟩ = some (.int .i64 a0_3) ∧ w'.cell? ⟨gb256, 4, none⟩ = some (.int .i64 a0_4) ∧ w'.cell? ⟨gb256, 5, none⟩ = some (.slice A0_5 l0_5.length c0_5) ∧ w'.cell? ⟨gb256, 6, none⟩ = some (.int .i64 a0_6) ∧ w'.cell? ⟨gb256, 7, none⟩ = some (.int .i64 a0_7) ∧ w'.cell? ⟨gb256, 8, none⟩ = some (.slice A0_8 l0_8.length c0_8) ∧ w'.cell? ⟨gb256, 9, none⟩ = some (.slice A0_9 l0_9.length c0_9) ∧ w'.cell? ⟨gb256, 10, none⟩ = some (.slice A0_10 l0_10.length c0_10)) (ds := []) tb50_0_11 (by kernel_rfl) rfl rfl ⟨cy_ BK256 0, cy_ BK256 1, cy_ BK256 2, cy_ BK256 3, cy_ BK256 4, cy_ BK256 5, cy_ BK256 6, cy_ BK256 7, cy_ BK256 8, cy_ BK256 9, cy_ BK256 10⟩ (fun hHeld => ?_); refine with_tabW impl_AcctOk.tab1 impl_AcctOk.bits1 (fun HT_ HW_ => ?_)
         generalize w20.drew = w21 at BK256 HB hHeld ⊢
         refine pl_ HT_ 0 3 tb50_1_11 ?_
         refine pt_ HT_ HW_ hHeld 1 4 tb50_3_11 ?_
         refine one_ (i := 2) (N := some 5) tb50_7_11 rfl rfl (one_of HT_.out (by kernel_rfl)) (by decide) (fun K hK => ?_)
         refine goes_ Try.func144 (by kernel_rfl) rfl #[.string a0_0] (by rfl) rfl rfl gl_ ?_
         with_reducible refine (impl_AcctIdOk.calls k a0_0 true _ A2.out).mono ?_
         rintro e w' ⟨rfl, ⟨nd, rfl⟩⟩
         refine ⟨_, rfl, ?_⟩
         refine hK.out _ _ ⟨cy_ BK256 0, cy_ BK256 1, cy_ BK256 2, cy_ BK256 3, cy_ BK256 4, cy_ BK256 5, cy_ BK256 6, cy_ BK256 7, cy_ BK256 8, cy_ BK256 9, cy_ BK256 10⟩ (fun hHeld => ?_)
         clear hK K
         refine norm_ (a' := ?_) ?_ ?_
         rotate_left
         ·show Act.put _ (some 5) _ = _
          simp only [Act.put, q_]
          rfl
         refine pl_ HT_ 3 6 tb50_f_11 ?_
         refine pl_ HT_ 4 7 tb50_1f_11 ?_
         refine pt_ HT_ HW_ hHeld 5 8 tb50_3f_11 ?_
         refine one_ (i := 6) (N := some 9) tb50_7f_11 rfl rfl (one_of HT_.out (by kernel_rfl)) (by decide) (fun K hK => ?_)
         refine goes_ Try.func145 (by kernel_rfl) rfl #[.int .i64 a0_1, .int .i64 0, .int .i64 9007199254740992] (by rfl) rfl rfl gl_ ?_
         with_reducible refine (impl_within.calls a0_1 0 9007199254740992 true _ A4.out).mono ?_
         rintro e w' ⟨rfl, ⟨nd, rfl⟩⟩
         refine ⟨_, rfl, ?_⟩
         refine hK.out _ _ ⟨cy_ BK256 0, cy_ BK256 1, cy_ BK256 2, cy_ BK256 3, cy_ BK256 4, cy_ BK256 5, cy_ BK256 6, cy_ BK256 7, cy_ BK256 8, cy_ BK256 9, cy_ BK256 10⟩ (fun hHeld => ?_)
         clear hK K
         refine norm_ (a' := ?_) ?_ ?_
         rotate_left
         ·show Act.put _ (some 9) _ = _
          simp only [Act.put, q_]
          rfl
         refine pl_ HT_ 7 10 tb50_ff_11 ?_
         refine pl_ HT_ 8 11 tb50_1ff_11 ?_
         refine pl_ HT_ 9 12 tb50_3ff_11 ?_
         refine pt_ HT_ HW_ hHeld 10 13 tb50_7ff_11 ?_
         refine one_ (i := 11) (N := some 14) tb50_fff_11 rfl rfl (one_of HT_.out (by kernel_rfl)) (by decide) (fun K hK => ?_)
         refine goes_ Try.func145 (by kernel_rfl) rfl #[.int .i64 a0_3, .int .i64 0, .int .i64 1000] (by rfl) rfl rfl gl_ ?_
         with_reducible refine (impl_within.calls a0_3 0 1000 true _ A6.out).mono ?_
         rintro e w' ⟨rfl, ⟨nd, rfl⟩⟩
         refine ⟨_, rfl, ?_⟩
         refine hK.out _ _ ⟨cy_ BK256 0, cy_ BK256 1, cy_ BK256 2, cy_ BK256 3, cy_ BK256 4, cy_ BK256 5, cy_ BK256 6, cy_ BK256 7, cy_ BK256 8, cy_ BK256 9, cy_ BK256 10⟩ (fun hHeld => ?_)
         clear hK K
         refine norm_ (a' := ?_) ?_ ?_
         rotate_left
         ·show Act.put _ (some 14) _ = _
          simp only [Act.put, q_]
          rfl
         refine pl_ HT_ 12 15 tb50_1fff_11 ?_
         refine pl_ HT_ 13 16 tb50_3fff_11 ?_
         refine pl_ HT_ 14 17 tb50_7fff_11 ?_
         refine pt_ HT_ HW_ hHeld 15 18 tb50_ffff_11 ?_
         refine one_ (i := 16) (N := some 19) tb50_1ffff_11 rfl rfl (one_of HT_.out (by kernel_rfl)) (by decide) (fun K hK => ?_)
         refine goes_ Try.func145 (by kernel_rfl) rfl #[.int .i64 a0_4, .int .i64 0, .int .i64 9007199254740992] (by rfl) rfl rfl gl_ ?_
         with_reducible refine (impl_within.calls a0_4 0 9007199254740992 true _ A8.out).mono ?_
         rintro e w' ⟨rfl, ⟨nd, rfl⟩⟩
         refine ⟨_, rfl, ?_⟩
         refine hK.out _ _ ⟨cy_ BK256 0, cy_ BK256 1, cy_ BK256 2, cy_ BK256 3, cy_ BK256 4, cy_ BK256 5, cy_ BK256 6, cy_ BK256 7, cy_ BK256 8, cy_ BK256 9, cy_ BK256 10⟩ (fun hHeld => ?_)
         clear hK K
         refine norm_ (a' := ?_) ?_ ?_
         rotate_left
         ·show Act.put _ (some 19) _ = _
          simp only [Act.put, q_]
          rfl
         refine pl_ HT_ 17 20 tb50_3ffff_11 ?_
         refine pl_ HT_ 18 21 tb50_7ffff_11 ?_
         refine pl_ HT_ 19 22 tb50_fffff_11 ?_
         refine pt_ HT_ HW_ hHeld 20 23 tb50_1fffff_11 ?_
         refine one_ (i := 21) (N := some 24) tb50_3fffff_11 rfl rfl (one_of HT_.out (by kernel_rfl)) (by decide) (fun K hK => ?_)
         refine goes_ Try.func146 (by kernel_rfl) rfl #[.int .i64 a0_2] (by rfl) rfl rfl gl_ ?_
         with_reducible refine (impl_isMoney.calls a0_2 true _ A10.out).mono ?_
         rintro e w' ⟨rfl, ⟨nd, rfl⟩⟩
         refine ⟨_, rfl, ?_⟩
         refine hK.out _ _ ⟨cy_ BK256 0, cy_ BK256 1, cy_ BK256 2, cy_ BK256 3, cy_ BK256 4, cy_ BK256 5, cy_ BK256 6, cy_ BK256 7, cy_ BK256 8, cy_ BK256 9, cy_ BK256 10⟩ (fun hHeld => ?_)
         clear hK K
         refine norm_ (a' := ?_) ?_ ?_
         rotate_left
         ·show Act.put _ (some 24) _ = _
          simp only [Act.put, q_]
          rfl
         refine pl_ HT_ 22 25 tb50_7fffff_11 ?_
         refine pl_ HT_ 23 26 tb50_ffffff_11 ?_
         refine pl_ HT_ 24 27 tb50_1ffffff_11 ?_
         refine pt_ HT_ HW_ hHeld 25 28 tb50_3ffffff_11 ?_
         refine one_ (i := 26) (N := some 29) tb50_7ffffff_11 rfl rfl (one_of HT_.out (by kernel_rfl)) (by decide) (fun K hK => ?_)
         refine goes_ Try.func125 (by kernel_rfl) rfl #[.slice A0_5 l0_5.length c0_5] (by rfl) rfl rfl gl_ ?_
         with_reducible refine (impl_HoldsOk.calls k _ _ l0_5 true _ ?side1 ?side2 A12.out).mono ?_
         (case side1 => exact ca_ (Kd.C_below HR0_5.out bl_))
         (case side2 => exact HC0_5.out)
         rintro e w22 ⟨rfl, hb⟩
         refine ⟨_, rfl, ?_⟩
         have n0_ := Aside0.mk (blk_below (bk_ BK256) hb)
         have n1_ := Aside0.mk (below_step bl_ hb)
         clear BK256
         clear HB
         have BK256 := n0_
         have HB := n1_
         clear n0_ n1_
         (try clear hb)
         (try clear hb2)
         (try clear hk)
         (try clear hi)
         refine hK.out _ _ ⟨cy_ BK256 0, cy_ BK256 1, cy_ BK256 2, cy_ BK256 3, cy_ BK256 4, cy_ BK256 5, cy_ BK256 6, cy_ BK256 7, cy_ BK256 8, cy_ BK256 9, cy_ BK256 10⟩ (fun hHeld => ?_)
         clear hK K
         refine norm_ (a' := ?_) ?_ ?_
         rotate_left
         ·show Act.put _ (some 29) _ = _
          simp only [Act.put, q_]
          rfl
         refine pl_ HT_ 27 30 tb50_fffffff_11 ?_
         refine pl_ HT_ 28 31 tb50_1fffffff_11 ?_
         refine pl_ HT_ 29 32 tb50_3fffffff_11 ?_
         refine pt_ HT_ HW_ hHeld 30 33 tb50_7fffffff_11 ?_
         refine one_ (i := 31) (N := some 34) tb50_ffffffff_11 rfl rfl (one_of HT_.out (by kernel_rfl)) (by decide) (fun K hK => ?_)
         refine goes_ Try.func147 (by kernel_rfl) rfl #[.agg #[.int .i64 a0_6, .int .i64 a0_7, .slice A0_8 l0_8.length c0_8, .slice A0_9 l0_9.length c0_9]] (by rfl) rfl rfl gl_ ?_
         with_reducible refine (impl_RingOk.calls k a0_6 a0_7 (fun k_ => k_ < w.heap.size) _ _ l0_8 (fun k_ => k_ < w.heap.size) _ _ l0_9 true _ ?side1 ?side2 A14.out).mono ?_
         (case side1 => exact Kd.V_mk HC0_8.out (Kd.F_below (Kd.C_F (Kd.heap_int .i64) HR0_8.out) bl_))
         (case side2 => exact Kd.V_mk HC0_9.out (Kd.F_below (Kd.C_F (Kd.heap_int .i64) HR0_9.out) bl_))
         rintro e w23 ⟨rfl, hb⟩
         refine ⟨_, rfl, ?_⟩
         have n0_ := Aside0.mk (blk_below (bk_ BK256) hb)
         have n1_ := Aside0.mk (below_step bl_ hb)
         clear BK256
         clear HB
         have BK256 := n0_
         have HB := n1_
         clear n0_ n1_
         (try clear hb)
         (try clear hb2)
         (try clear hk)
         (try clear hi)
         refine hK.out _ _ ⟨cy_ BK256 0, cy_ BK256 1, cy_ BK256 2, cy_ BK256 3, cy_ BK256 4, cy_ BK256 5, cy_ BK256 6, cy_ BK256 7, cy_ BK256 8, cy_ BK256 9, cy_ BK256 10⟩ (fun hHeld => ?_)
         clear hK K
         refine norm_ (a' := ?_) ?_ ?_
         rotate_left
         ·show Act.put _ (some 34) _ = _
          simp only [Act.put, q_]
          rfl
         refine pl_ HT_ 32 35 tb50_1ffffffff_11 ?_
         refine pl_ HT_ 33 36 tb50_3ffffffff_11 ?_
         refine pl_ HT_ 34 37 tb50_7ffffffff_11 ?_
         refine pt_ HT_ HW_ hHeld 35 38 tb50_fffffffff_11 ?_
         refine one_ (i := 36) (N := some 39) tb50_1fffffffff_11 rfl rfl (one_of HT_.out (by kernel_rfl)) (by decide) (fun K hK => ?_)
         refine goes_ Try.func116 (by kernel_rfl) rfl #[.slice A0_10 l0_10.length c0_10] (by rfl) rfl rfl gl_ ?_
         with_reducible refine (impl_SlotsOk.calls k _ _ l0_10 true _ ?side1 ?side2 A16.out).mono ?_
         (case side1 => exact ca_ (Kd.C_below HR0_10.out HB.out))
         (case side2 => exact HC0_10.out)
         rintro e w24 ⟨rfl, hb⟩
         refine ⟨_, rfl, ?_⟩
         have n0_ := Aside0.mk (blk_below (bk_ BK256) hb)
         have n1_ := Aside0.mk (below_step bl_ hb)
         clear BK256
         clear HB
         have BK256 := n0_
         have HB := n1_
         clear n0_ n1_
         (try clear hb)
         (try clear hb2)
         (try clear hk)
         (try clear hi)
         refine hK.out _ _ ⟨cy_ BK256 0, cy_ BK256 1, cy_ BK256 2, cy_ BK256 3, cy_ BK256 4, cy_ BK256 5, cy_ BK256 6, cy_ BK256 7, cy_ BK256 8, cy_ BK256 9, cy_ BK256 10⟩ (fun hHeld => ?_)
         clear hK K
         refine norm_ (a' := ?_) ?_ ?_
         rotate_left
         ·show Act.put _ (some 39) _ = _
          simp only [Act.put, q_]
          rfl
         refine pl_ HT_ 37 40 tb50_3fffffffff_11 ?_
         refine pl_ HT_ 38 41 tb50_7fffffffff_11 ?_
         refine pl_ HT_ 39 42 tb50_ffffffffff_11 ?_
         refine pl_ HT_ 41 44 tb50_2ffffffffff_11 ?_
         refine pl_ HT_ 45 48 tb50_22ffffffffff_11 ?_
         refine pt_ HT_ HW_ hHeld 40 43 tb50_23ffffffffff_11 ?_
         refine pt_ HT_ HW_ hHeld 42 45 tb50_27ffffffffff_11 ?_
         refine pt_ HT_ HW_ hHeld 46 49 tb50_67ffffffffff_11 ?_
         refine one_ (i := 43) (N := some 46) tb50_6fffffffffff_11 rfl rfl (one_of HT_.out (by kernel_rfl)) (by decide) (fun K hK => ?_)
         refine goes_ Try.func86 (by kernel_rfl) rfl #[.slice A0_5 l0_5.length c0_5] (by rfl) rfl rfl gl_ ?_
         with_reducible refine (impl_Stored.calls k _ _ l0_5 t265 _ ?side1 ?side2 A18.out).mono ?_
         (case side1 => exact ca_ (Kd.C_below HR0_5.out HB.out))
         (case side2 => exact HC0_5.out)
         rintro e w25 ⟨rfl, hb⟩
         refine ⟨_, rfl, ?_⟩
         have n0_ := Aside0.mk (blk_below (bk_ BK256) hb)
         have n1_ := Aside0.mk (below_step bl_ hb)
         clear BK256
         clear HB
         have BK256 := n0_
         have HB := n1_
         clear n0_ n1_
         (try clear hb)
         (try clear hb2)
         (try clear hk)
         (try clear hi)
         refine hK.out _ _ ⟨cy_ BK256 0, cy_ BK256 1, cy_ BK256 2, cy_ BK256 3, cy_ BK256 4, cy_ BK256 5, cy_ BK256 6, cy_ BK256 7, cy_ BK256 8, cy_ BK256 9, cy_ BK256 10⟩ (fun hHeld => ?_)
         clear hK K
         refine norm_ (a' := ?_) ?_ ?_
         rotate_left
         ·show Act.put _ (some 46) _ = _
          simp only [Act.put, q_]
          rfl
         refine one_ (i := 44) (N := some 47) tb50_7fffffffffff_11 rfl rfl (one_of HT_.out (by kernel_rfl)) (by decide) (fun K hK => ?_)
         refine goes_ Try.func137 (by kernel_rfl) rfl #[.int .i64 a0_2, .int .i64 t265] (by rfl) rfl rfl gl_ ?_
         with_reducible refine (impl_AddSat.calls a0_2 t265 t266 _ A19.out).mono ?_
         rintro e w26 ⟨rfl, hb⟩
         refine ⟨_, rfl, ?_⟩
         have n0_ := Aside0.mk (blk_below (bk_ BK256) hb)
         have n1_ := Aside0.mk (below_step bl_ hb)
         clear BK256
         clear HB
         have BK256 := n0_
         have HB := n1_
         clear n0_ n1_
         (try clear hb)
         (try clear hb2)
         (try clear hk)
         (try clear hi)
         refine hK.out _ _ ⟨cy_ BK256 0, cy_ BK256 1, cy_ BK256 2, cy_ BK256 3, cy_ BK256 4, cy_ BK256 5, cy_ BK256 6, cy_ BK256 7, cy_ BK256 8, cy_ BK256 9, cy_ BK256 10⟩ (fun hHeld => ?_)
         clear hK K
         refine norm_ (a' := ?_) ?_ ?_
         rotate_left
         ·show Act.put _ (some 47) _ = _
          simp only [Act.put, q_]
          rfl
         refine pl_ HT_ 47 50 tb50_ffffffffffff_11 ?_
         refine pl_ HT_ 48 51 tb50_1ffffffffffff_11 ?_
         refine pl_ HT_ 49 2 tb50_3ffffffffffff_11 ?_
         refine done_ (done_of HT_.out (by kernel_rfl)) ?_
         try go_wp2
         go_ret
         exact ⟨sq_, bl_⟩
        ·replace c17 := Bool.eq_false_iff.mpr c17
         subst c17
         replace H := in_ H
         obtain rfl := Option.some.inj H
         go_enter Try.func91, Try.ntmps91
         try go_wp2_with (first | ((with_reducible refine gate_dst (N := 1) rfl ?_); refine be_ (N := 1) (cs := #[.string a0_0, .int .i64 a0_1, .int .i64 a0_2, .int .i64 a0_3, .int .i64 a0_4, .slice A0_5 l0_5.length c0_5, .int .i64 a0_6, .int .i64 a0_7, .slice A0_8 l0_8.length c0_8, .slice A0_9 l0_9.length c0_9, .slice A0_10 l0_10.length c0_10]) (t := 43) ?_; intro gb256 hg w27 hbox hb; have BK256 := Aside0.mk (hbox); have GW256 := gw_ (w := w) hg; have GE256 := gw_ (w := w) hg; replace HB := Aside0.mk (below_step bl_ hb); clear hb hbox hg))
         have n0_ := Aside0.mk (blk_drew BK256.out)
         have n1_ := Aside0.mk (below_drew1 HB.out)
         clear BK256
         clear HB
         have BK256 := n0_
         have HB := n1_
         clear n0_ n1_
         refine start_ (n := 50) (S := fun w' => w'.cell? ⟨gb256, 0, none⟩ = some (.string a0_0) ∧ w'.cell? ⟨gb256, 1, none⟩ = some (.int .i64 a0_1) ∧ w'.cell? ⟨gb256, 2, none⟩ = some (.int .i64 a0_2) ∧ w'.cell? ⟨gb256, 3, none⟩ = some (.int .i64 a0_3) ∧ w'.cell? ⟨gb256, 4, none⟩ = some (.int .i64 a0_4) ∧ w'.cell? ⟨gb256, 5, none⟩ = some (.slice A0_5 l0_5.length c0_5) ∧ w'.cell? ⟨gb256, 6, none⟩ = some (.int .i64 a0_6) ∧ w'.cell? ⟨gb256, 7, none⟩ = some (.int .i64 a0_7) ∧ w'.cell? ⟨gb256, 8, none⟩ = some (.slice A0_8 l0_8.length c0_8) ∧ w'.cell? ⟨gb256, 9, none⟩ = some (.slice A0_9 l0_9.length c0_9) ∧ w'.cell? ⟨gb256, 10, none⟩ = some (.slice A0_10 l0_10.length c0_10)) (ds := []) tb50_0_11 (by kernel_rfl) rfl rfl ⟨cy_ BK256 0, cy_ BK256 1, cy_ BK256 2, cy_ BK256 3, cy_ BK256 4, cy_ BK256 5, cy_ BK256 6, cy_ BK256 7, cy_ BK256 8, cy_ BK256 9, cy_ BK256 10⟩ (fun hHeld => ?_); refine with_tabW impl_AcctOk.tab1 impl_AcctOk.bits1 (fun HT_ HW_ => ?_)
         generalize w27.drew = w28 at BK256 HB hHeld ⊢
         refine pl_ HT_ 0 3 tb50_1_11 ?_
         refine pt_ HT_ HW_ hHeld 1 4 tb50_3_11 ?_
         refine one_ (i := 2) (N := some 5) tb50_7_11 rfl rfl (one_of HT_.out (by kernel_rfl)) (by decide) (fun K hK => ?_)
         refine goes_ Try.func144 (by kernel_rfl) rfl #[.string a0_0] (by rfl) rfl rfl gl_ ?_
         with_reducible refine (impl_AcctIdOk.calls k a0_0 true _ A2.out).mono ?_
         rintro e w' ⟨rfl, ⟨nd, rfl⟩⟩
         refine ⟨_, rfl, ?_⟩
         refine hK.out _ _ ⟨cy_ BK256 0, cy_ BK256 1, cy_ BK256 2, cy_ BK256 3, cy_ BK256 4, cy_ BK256 5, cy_ BK256 6, cy_ BK256 7, cy_ BK256 8, cy_ BK256 9, cy_ BK256 10⟩ (fun hHeld => ?_)
         clear hK K
         refine norm_ (a' := ?_) ?_ ?_
         rotate_left
         ·show Act.put _ (some 5) _ = _
          simp only [Act.put, q_]
          rfl
         refine pl_ HT_ 3 6 tb50_f_11 ?_
         refine pl_ HT_ 4 7 tb50_1f_11 ?_
         refine pt_ HT_ HW_ hHeld 5 8 tb50_3f_11 ?_
         refine one_ (i := 6) (N := some 9) tb50_7f_11 rfl rfl (one_of HT_.out (by kernel_rfl)) (by decide) (fun K hK => ?_)
         refine goes_ Try.func145 (by kernel_rfl) rfl #[.int .i64 a0_1, .int .i64 0, .int .i64 9007199254740992] (by rfl) rfl rfl gl_ ?_
         with_reducible refine (impl_within.calls a0_1 0 9007199254740992 true _ A4.out).mono ?_
         rintro e w' ⟨rfl, ⟨nd, rfl⟩⟩
         refine ⟨_, rfl, ?_⟩
         refine hK.out _ _ ⟨cy_ BK256 0, cy_ BK256 1, cy_ BK256 2, cy_ BK256 3, cy_ BK256 4, cy_ BK256 5, cy_ BK256 6, cy_ BK256 7, cy_ BK256 8, cy_ BK256 9, cy_ BK256 10⟩ (fun hHeld => ?_)
         clear hK K
         refine norm_ (a' := ?_) ?_ ?_
         rotate_left
         ·show Act.put _ (some 9) _ = _
          simp only [Act.put, q_]
          rfl
         refine pl_ HT_ 7 10 tb50_ff_11 ?_
         refine pl_ HT_ 8 11 tb50_1ff_11 ?_
         refine pl_ HT_ 9 12 tb50_3ff_11 ?_
         refine pt_ HT_ HW_ hHeld 10 13 tb50_7ff_11 ?_
         refine one_ (i := 11) (N := some 14) tb50_fff_11 rfl rfl (one_of HT_.out (by kernel_rfl)) (by decide) (fun K hK => ?_)
         refine goes_ Try.func145 (by kernel_rfl) rfl #[.int .i64 a0_3, .int .i64 0, .int .i64 1000] (by rfl) rfl rfl gl_ ?_
         with_reducible refine (impl_within.calls a0_3 0 1000 true _ A6.out).mono ?_
         rintro e w' ⟨rfl, ⟨nd, rfl⟩⟩
         refine ⟨_, rfl, ?_⟩
         refine hK.out _ _ ⟨cy_ BK256 0, cy_ BK256 1, cy_ BK256 2, cy_ BK256 3, cy_ BK256 4, cy_ BK256 5, cy_ BK256 6, cy_ BK256 7, cy_ BK256 8, cy_ BK256 9, cy_ BK256 10⟩ (fun hHeld => ?_)
         clear hK K
         refine norm_ (a' := ?_) ?_ ?_
         rotate_left
         ·show Act.put _ (some 14) _ = _
          simp only [Act.put, q_]
          rfl
         refine pl_ HT_ 12 15 tb50_1fff_11 ?_
         refine pl_ HT_ 13 16 tb50_3fff_11 ?_
         refine pl_ HT_ 14 17 tb50_7fff_11 ?_
         refine pt_ HT_ HW_ hHeld 15 18 tb50_ffff_11 ?_
         refine one_ (i := 16) (N := some 19) tb50_1ffff_11 rfl rfl (one_of HT_.out (by kernel_rfl)) (by decide) (fun K hK => ?_)
         refine goes_ Try.func145 (by kernel_rfl) rfl #[.int .i64 a0_4, .int .i64 0, .int .i64 9007199254740992] (by rfl) rfl rfl gl_ ?_
         with_reducible refine (impl_within.calls a0_4 0 9007199254740992 true _ A8.out).mono ?_
         rintro e w' ⟨rfl, ⟨nd, rfl⟩⟩
         refine ⟨_, rfl, ?_⟩
         refine hK.out _ _ ⟨cy_ BK256 0, cy_ BK256 1, cy_ BK256 2, cy_ BK256 3, cy_ BK256 4, cy_ BK256 5, cy_ BK256 6, cy_ BK256 7, cy_ BK256 8, cy_ BK256 9, cy_ BK256 10⟩ (fun hHeld => ?_)
         clear hK K
         refine norm_ (a' := ?_) ?_ ?_
         rotate_left
         ·show Act.put _ (some 19) _ = _
          simp only [Act.put, q_]
          rfl
         refine pl_ HT_ 17 20 tb50_3ffff_11 ?_
         refine pl_ HT_ 18 21 tb50_7ffff_11 ?_
         refine pl_ HT_ 19 22 tb50_fffff_11 ?_
         refine pt_ HT_ HW_ hHeld 20 23 tb50_1fffff_11 ?_
         refine one_ (i := 21) (N := some 24) tb50_3fffff_11 rfl rfl (one_of HT_.out (by kernel_rfl)) (by decide) (fun K hK => ?_)
         refine goes_ Try.func146 (by kernel_rfl) rfl #[.int .i64 a0_2] (by rfl) rfl rfl gl_ ?_
         with_reducible refine (impl_isMoney.calls a0_2 true _ A10.out).mono ?_
         rintro e w' ⟨rfl, ⟨nd, rfl⟩⟩
         refine ⟨_, rfl, ?_⟩
         refine hK.out _ _ ⟨cy_ BK256 0, cy_ BK256 1, cy_ BK256 2, cy_ BK256 3, cy_ BK256 4, cy_ BK256 5, cy_ BK256 6, cy_ BK256 7, cy_ BK256 8, cy_ BK256 9, cy_ BK256 10⟩ (fun hHeld => ?_)
         clear hK K
         refine norm_ (a' := ?_) ?_ ?_
         rotate_left
         ·show Act.put _ (some 24) _ = _
          simp only [Act.put, q_]
          rfl
         refine pl_ HT_ 22 25 tb50_7fffff_11 ?_
         refine pl_ HT_ 23 26 tb50_ffffff_11 ?_
         refine pl_ HT_ 24 27 tb50_1ffffff_11 ?_
         refine pt_ HT_ HW_ hHeld 25 28 tb50_3ffffff_11 ?_
         refine one_ (i := 26) (N := some 29) tb50_7ffffff_11 rfl rfl (one_of HT_.out (by kernel_rfl)) (by decide) (fun K hK => ?_)
         refine goes_ Try.func125 (by kernel_rfl) rfl #[.slice A0_5 l0_5.length c0_5] (by rfl) rfl rfl gl_ ?_
         with_reducible refine (impl_HoldsOk.calls k _ _ l0_5 true _ ?side1 ?side2 A12.out).mono ?_
         (case side1 => exact ca_ (Kd.C_below HR0_5.out bl_))
         (case side2 => exact HC0_5.out)
         rintro e w29 ⟨rfl, hb⟩
         refine ⟨_, rfl, ?_⟩
         have n0_ := Aside0.mk (blk_below (bk_ BK256) hb)
         have n1_ := Aside0.mk (below_step bl_ hb)
         clear BK256
         clear HB
         have BK256 := n0_
         have HB := n1_
         clear n0_ n1_
         (try clear hb)
         (try clear hb2)
         (try clear hk)
         (try clear hi)
         refine hK.out _ _ ⟨cy_ BK256 0, cy_ BK256 1, cy_ BK256 2, cy_ BK256 3, cy_ BK256 4, cy_ BK256 5, cy_ BK256 6, cy_ BK256 7, cy_ BK256 8, cy_ BK256 9, cy_ BK256 10⟩ (fun hHeld => ?_)
         clear hK K
         refine norm_ (a' := ?_) ?_ ?_
         rotate_left
         ·show Act.put _ (some 29) _ = _
          simp only [Act.put, q_]
          rfl
         refine pl_ HT_ 27 30 tb50_fffffff_11 ?_
         refine pl_ HT_ 28 31 tb50_1fffffff_11 ?_
         refine pl_ HT_ 29 32 tb50_3fffffff_11 ?_
         refine pt_ HT_ HW_ hHeld 30 33 tb50_7fffffff_11 ?_
         refine one_ (i := 31) (N := some 34) tb50_ffffffff_11 rfl rfl (one_of HT_.out (by kernel_rfl)) (by decide) (fun K hK => ?_)
         refine goes_ Try.func147 (by kernel_rfl) rfl #[.agg #[.int .i64 a0_6, .int .i64 a0_7, .slice A0_8 l0_8.length c0_8, .slice A0_9 l0_9.length c0_9]] (by rfl) rfl rfl gl_ ?_
         with_reducible refine (impl_RingOk.calls k a0_6 a0_7 (fun k_ => k_ < w.heap.size) _ _ l0_8 (fun k_ => k_ < w.heap.size) _ _ l0_9 true _ ?side1 ?side2 A14.out).mono ?_
         (case side1 => exact Kd.V_mk HC0_8.out (Kd.F_below (Kd.C_F (Kd.heap_int .i64) HR0_8.out) bl_))
         (case side2 => exact Kd.V_mk HC0_9.out (Kd.F_below (Kd.C_F (Kd.heap_int .i64) HR0_9.out) bl_))
         rintro e w30 ⟨rfl, hb⟩
         refine ⟨_, rfl, ?_⟩
         have n0_ := Aside0.mk (blk_below (bk_ BK256) hb)
         have n1_ := Aside0.mk (below_step bl_ hb)
         clear BK256
         clear HB
         have BK256 := n0_
         have HB := n1_
         clear n0_ n1_
         (try clear hb)
         (try clear hb2)
         (try clear hk)
         (try clear hi)
         refine hK.out _ _ ⟨cy_ BK256 0, cy_ BK256 1, cy_ BK256 2, cy_ BK256 3, cy_ BK256 4, cy_ BK256 5, cy_ BK256 6, cy_ BK256 7, cy_ BK256 8, cy_ BK256 9, cy_ BK256 10⟩ (fun hHeld => ?_)
         clear hK K
         refine norm_ (a' := ?_) ?_ ?_
         rotate_left
         ·show Act.put _ (some 34) _ = _
          simp only [Act.put, q_]
          rfl
         refine pl_ HT_ 32 35 tb50_1ffffffff_11 ?_
         refine pl_ HT_ 33 36 tb50_3ffffffff_11 ?_
         refine pl_ HT_ 34 37 tb50_7ffffffff_11 ?_
         refine pt_ HT_ HW_ hHeld 35 38 tb50_fffffffff_11 ?_
         refine one_ (i := 36) (N := some 39) tb50_1fffffffff_11 rfl rfl (one_of HT_.out (by kernel_rfl)) (by decide) (fun K hK => ?_)
         refine goes_ Try.func116 (by kernel_rfl) rfl #[.slice A0_10 l0_10.length c0_10] (by rfl) rfl rfl gl_ ?_
         with_reducible refine (impl_SlotsOk.calls k _ _ l0_10 false _ ?side1 ?side2 A16.out).mono ?_
         (case side1 => exact ca_ (Kd.C_below HR0_10.out HB.out))
         (case side2 => exact HC0_10.out)
         rintro e w31 ⟨rfl, hb⟩
         refine ⟨_, rfl, ?_⟩
         have n0_ := Aside0.mk (blk_below (bk_ BK256) hb)
         have n1_ := Aside0.mk (below_step bl_ hb)
         clear BK256
         clear HB
         have BK256 := n0_
         have HB := n1_
         clear n0_ n1_
         (try clear hb)
         (try clear hb2)
         (try clear hk)
         (try clear hi)
         refine hK.out _ _ ⟨cy_ BK256 0, cy_ BK256 1, cy_ BK256 2, cy_ BK256 3, cy_ BK256 4, cy_ BK256 5, cy_ BK256 6, cy_ BK256 7, cy_ BK256 8, cy_ BK256 9, cy_ BK256 10⟩ (fun hHeld => ?_)
         clear hK K
         refine norm_ (a' := ?_) ?_ ?_
         rotate_left
         ·show Act.put _ (some 39) _ = _
          simp only [Act.put, q_]
          rfl
         refine pl_ HT_ 37 40 tb50_3fffffffff_11 ?_
         refine pl_ HT_ 38 41 tb50_7fffffffff_11 ?_
         refine pr_ HT_ 39 42 tb50_ffffffffff_11 ?_
         refine pr_ HT_ 40 43 tb50_1ffffffffff_11 ?_
         refine pr_ HT_ 41 44 tb50_3ffffffffff_11 ?_
         refine pr_ HT_ 42 45 tb50_7ffffffffff_11 ?_
         refine pr_ HT_ 43 46 tb50_fffffffffff_11 ?_
         refine pr_ HT_ 44 47 tb50_1fffffffffff_11 ?_
         refine pr_ HT_ 45 48 tb50_3fffffffffff_11 ?_
         refine pr_ HT_ 46 49 tb50_7fffffffffff_11 ?_
         refine pr_ HT_ 47 50 tb50_ffffffffffff_11 ?_
         refine pl_ HT_ 48 51 tb50_1ffffffffffff_11 ?_
         refine pl_ HT_ 49 2 tb50_3ffffffffffff_11 ?_
         refine done_ (done_of HT_.out (by kernel_rfl)) ?_
         try go_wp2
         go_ret
         exact ⟨sq_, bl_⟩
       ·replace c15 := Bool.eq_false_iff.mpr c15
        subst c15
        replace H := in_ H
        obtain rfl := Option.some.inj H
        go_enter Try.func91, Try.ntmps91
        try go_wp2_with (first | ((with_reducible refine gate_dst (N := 1) rfl ?_); refine be_ (N := 1) (cs := #[.string a0_0, .int .i64 a0_1, .int .i64 a0_2, .int .i64 a0_3, .int .i64 a0_4, .slice A0_5 l0_5.length c0_5, .int .i64 a0_6, .int .i64 a0_7, .slice A0_8 l0_8.length c0_8, .slice A0_9 l0_9.length c0_9, .slice A0_10 l0_10.length c0_10]) (t := 43) ?_; intro gb256 hg w32 hbox hb; have BK256 := Aside0.mk (hbox); have GW256 := gw_ (w := w) hg; have GE256 := gw_ (w := w) hg; replace HB := Aside0.mk (below_step bl_ hb); clear hb hbox hg))
        have n0_ := Aside0.mk (blk_drew BK256.out)
        have n1_ := Aside0.mk (below_drew1 HB.out)
        clear BK256
        clear HB
        have BK256 := n0_
        have HB := n1_
        clear n0_ n1_
        refine start_ (n := 50) (S := fun w' => w'.cell? ⟨gb256, 0, none⟩ = some (.string a0_0) ∧ w'.cell? ⟨gb256, 1, none⟩ = some (.int .i64 a0_1) ∧ w'.cell? ⟨gb256, 2, none⟩ = some (.int .i64 a0_2) ∧ w'.cell? ⟨gb256, 3, none⟩ = some (.int .i64 a0_3) ∧ w'.cell? ⟨gb256, 4, none⟩ = some (.int .i64 a0_4) ∧ w'.cell? ⟨gb256, 5, none⟩ = some (.slice A0_5 l0_5.length c0_5) ∧ w'.cell? ⟨gb256, 6, none⟩ = some (.int .i64 a0_6) ∧ w'.cell? ⟨gb256, 7, none⟩ = some (.int .i64 a0_7) ∧ w'.cell? ⟨gb256, 8, none⟩ = some (.slice A0_8 l0_8.length c0_8) ∧ w'.cell? ⟨gb256, 9, none⟩ = some (.slice A0_9 l0_9.length c0_9) ∧ w'.cell? ⟨gb256, 10, none⟩ = some (.slice A0_10 l0_10.length c0_10)) (ds := []) tb50_0_11 (by kernel_rfl) rfl rfl ⟨cy_ BK256 0, cy_ BK256 1, cy_ BK256 2, cy_ BK256 3, cy_ BK256 4, cy_ BK256 5, cy_ BK256 6, cy_ BK256 7, cy_ BK256 8, cy_ BK256 9, cy_ BK256 10⟩ (fun hHeld => ?_); refine with_tabW impl_AcctOk.tab1 impl_AcctOk.bits1 (fun HT_ HW_ => ?_)
        generalize w32.drew = w33 at BK256 HB hHeld ⊢
        refine pl_ HT_ 0 3 tb50_1_11 ?_
        refine pt_ HT_ HW_ hHeld 1 4 tb50_3_11 ?_
        refine one_ (i := 2) (N := some 5) tb50_7_11 rfl rfl (one_of HT_.out (by kernel_rfl)) (by decide) (fun K hK => ?_)
        refine goes_ Try.func144 (by kernel_rfl) rfl #[.string a0_0] (by rfl) rfl rfl gl_ ?_
        with_reducible refine (impl_AcctIdOk.calls k a0_0 true _ A2.out).mono ?_
        rintro e w' ⟨rfl, ⟨nd, rfl⟩⟩
        refine ⟨_, rfl, ?_⟩
        refine hK.out _ _ ⟨cy_ BK256 0, cy_ BK256 1, cy_ BK256 2, cy_ BK256 3, cy_ BK256 4, cy_ BK256 5, cy_ BK256 6, cy_ BK256 7, cy_ BK256 8, cy_ BK256 9, cy_ BK256 10⟩ (fun hHeld => ?_)
        clear hK K
        refine norm_ (a' := ?_) ?_ ?_
        rotate_left
        ·show Act.put _ (some 5) _ = _
         simp only [Act.put, q_]
         rfl
        refine pl_ HT_ 3 6 tb50_f_11 ?_
        refine pl_ HT_ 4 7 tb50_1f_11 ?_
        refine pt_ HT_ HW_ hHeld 5 8 tb50_3f_11 ?_
        refine one_ (i := 6) (N := some 9) tb50_7f_11 rfl rfl (one_of HT_.out (by kernel_rfl)) (by decide) (fun K hK => ?_)
        refine goes_ Try.func145 (by kernel_rfl) rfl #[.int .i64 a0_1, .int .i64 0, .int .i64 9007199254740992] (by rfl) rfl rfl gl_ ?_
        with_reducible refine (impl_within.calls a0_1 0 9007199254740992 true _ A4.out).mono ?_
        rintro e w' ⟨rfl, ⟨nd, rfl⟩⟩
        refine ⟨_, rfl, ?_⟩
        refine hK.out _ _ ⟨cy_ BK256 0, cy_ BK256 1, cy_ BK256 2, cy_ BK256 3, cy_ BK256 4, cy_ BK256 5, cy_ BK256 6, cy_ BK256 7, cy_ BK256 8, cy_ BK256 9, cy_ BK256 10⟩ (fun hHeld => ?_)
        clear hK K
        refine norm_ (a' := ?_) ?_ ?_
        rotate_left
        ·show Act.put _ (some 9) _ = _
         simp only [Act.put, q_]
         rfl
        refine pl_ HT_ 7 10 tb50_ff_11 ?_
        refine pl_ HT_ 8 11 tb50_1ff_11 ?_
        refine pl_ HT_ 9 12 tb50_3ff_11 ?_
        refine pt_ HT_ HW_ hHeld 10 13 tb50_7ff_11 ?_
        refine one_ (i := 11) (N := some 14) tb50_fff_11 rfl rfl (one_of HT_.out (by kernel_rfl)) (by decide) (fun K hK => ?_)
        refine goes_ Try.func145 (by kernel_rfl) rfl #[.int .i64 a0_3, .int .i64 0, .int .i64 1000] (by rfl) rfl rfl gl_ ?_
        with_reducible refine (impl_within.calls a0_3 0 1000 true _ A6.out).mono ?_
        rintro e w' ⟨rfl, ⟨nd, rfl⟩⟩
        refine ⟨_, rfl, ?_⟩
        refine hK.out _ _ ⟨cy_ BK256 0, cy_ BK256 1, cy_ BK256 2, cy_ BK256 3, cy_ BK256 4, cy_ BK256 5, cy_ BK256 6, cy_ BK256 7, cy_ BK256 8, cy_ BK256 9, cy_ BK256 10⟩ (fun hHeld => ?_)
        clear hK K
        refine norm_ (a' := ?_) ?_ ?_
        rotate_left
        ·show Act.put _ (some 14) _ = _
         simp only [Act.put, q_]
         rfl
        refine pl_ HT_ 12 15 tb50_1fff_11 ?_
        refine pl_ HT_ 13 16 tb50_3fff_11 ?_
        refine pl_ HT_ 14 17 tb50_7fff_11 ?_
        refine pt_ HT_ HW_ hHeld 15 18 tb50_ffff_11 ?_
        refine one_ (i := 16) (N := some 19) tb50_1ffff_11 rfl rfl (one_of HT_.out (by kernel_rfl)) (by decide) (fun K hK => ?_)
        refine goes_ Try.func145 (by kernel_rfl) rfl #[.int .i64 a0_4, .int .i64 0, .int .i64 9007199254740992] (by rfl) rfl rfl gl_ ?_
        with_reducible refine (impl_within.calls a0_4 0 9007199254740992 true _ A8.out).mono ?_
        rintro e w' ⟨rfl, ⟨nd, rfl⟩⟩
        refine ⟨_, rfl, ?_⟩
        refine hK.out _ _ ⟨cy_ BK256 0, cy_ BK256 1, cy_ BK256 2, cy_ BK256 3, cy_ BK256 4, cy_ BK256 5, cy_ BK256 6, cy_ BK256 7, cy_ BK256 8, cy_ BK256 9, cy_ BK256 10⟩ (fun hHeld => ?_)
        clear hK K
        refine norm_ (a' := ?_) ?_ ?_
        rotate_left
        ·show Act.put _ (some 19) _ = _
         simp only [Act.put, q_]
         rfl
        refine pl_ HT_ 17 20 tb50_3ffff_11 ?_
        refine pl_ HT_ 18 21 tb50_7ffff_11 ?_
        refine pl_ HT_ 19 22 tb50_fffff_11 ?_
        refine pt_ HT_ HW_ hHeld 20 23 tb50_1fffff_11 ?_
        refine one_ (i := 21) (N := some 24) tb50_3fffff_11 rfl rfl (one_of HT_.out (by kernel_rfl)) (by decide) (fun K hK => ?_)
        refine goes_ Try.func146 (by kernel_rfl) rfl #[.int .i64 a0_2] (by rfl) rfl rfl gl_ ?_
        with_reducible refine (impl_isMoney.calls a0_2 true _ A10.out).mono ?_
        rintro e w' ⟨rfl, ⟨nd, rfl⟩⟩
        refine ⟨_, rfl, ?_⟩
        refine hK.out _ _ ⟨cy_ BK256 0, cy_ BK256 1, cy_ BK256 2, cy_ BK256 3, cy_ BK256 4, cy_ BK256 5, cy_ BK256 6, cy_ BK256 7, cy_ BK256 8, cy_ BK256 9, cy_ BK256 10⟩ (fun hHeld => ?_)
        clear hK K
        refine norm_ (a' := ?_) ?_ ?_
        rotate_left
        ·show Act.put _ (some 24) _ = _
         simp only [Act.put, q_]
         rfl
        refine pl_ HT_ 22 25 tb50_7fffff_11 ?_
        refine pl_ HT_ 23 26 tb50_ffffff_11 ?_
        refine pl_ HT_ 24 27 tb50_1ffffff_11 ?_
        refine pt_ HT_ HW_ hHeld 25 28 tb50_3ffffff_11 ?_
        refine one_ (i := 26) (N := some 29) tb50_7ffffff_11 rfl rfl (one_of HT_.out (by kernel_rfl)) (by decide) (fun K hK => ?_)
        refine goes_ Try.func125 (by kernel_rfl) rfl #[.slice A0_5 l0_5.length c0_5] (by rfl) rfl rfl gl_ ?_
        with_reducible refine (impl_HoldsOk.calls k _ _ l0_5 true _ ?side1 ?side2 A12.out).mono ?_
        (case side1 => exact ca_ (Kd.C_below HR0_5.out bl_))
        (case side2 => exact HC0_5.out)
        rintro e w34 ⟨rfl, hb⟩
        refine ⟨_, rfl, ?_⟩
        have n0_ := Aside0.mk (blk_below (bk_ BK256) hb)
        have n1_ := Aside0.mk (below_step bl_ hb)
        clear BK256
        clear HB
        have BK256 := n0_
        have HB := n1_
        clear n0_ n1_
        (try clear hb)
        (try clear hb2)
        (try clear hk)
        (try clear hi)
        refine hK.out _ _ ⟨cy_ BK256 0, cy_ BK256 1, cy_ BK256 2, cy_ BK256 3, cy_ BK256 4, cy_ BK256 5, cy_ BK256 6, cy_ BK256 7, cy_ BK256 8, cy_ BK256 9, cy_ BK256 10⟩ (fun hHeld => ?_)
        clear hK K
        refine norm_ (a' := ?_) ?_ ?_
        rotate_left
        ·show Act.put _ (some 29) _ = _
         simp only [Act.put, q_]
         rfl
        refine pl_ HT_ 27 30 tb50_fffffff_11 ?_
        refine pl_ HT_ 28 31 tb50_1fffffff_11 ?_
        refine pl_ HT_ 29 32 tb50_3fffffff_11 ?_
        refine pt_ HT_ HW_ hHeld 30 33 tb50_7fffffff_11 ?_
        refine one_ (i := 31) (N := some 34) tb50_ffffffff_11 rfl rfl (one_of HT_.out (by kernel_rfl)) (by decide) (fun K hK => ?_)
        refine goes_ Try.func147 (by kernel_rfl) rfl #[.agg #[.int .i64 a0_6, .int .i64 a0_7, .slice A0_8 l0_8.length c0_8, .slice A0_9 l0_9.length c0_9]] (by rfl) rfl rfl gl_ ?_
        with_reducible refine (impl_RingOk.calls k a0_6 a0_7 (fun k_ => k_ < w.heap.size) _ _ l0_8 (fun k_ => k_ < w.heap.size) _ _ l0_9 false _ ?side1 ?side2 A14.out).mono ?_
        (case side1 => exact Kd.V_mk HC0_8.out (Kd.F_below (Kd.C_F (Kd.heap_int .i64) HR0_8.out) bl_))
        (case side2 => exact Kd.V_mk HC0_9.out (Kd.F_below (Kd.C_F (Kd.heap_int .i64) HR0_9.out) bl_))
        rintro e w35 ⟨rfl, hb⟩
        refine ⟨_, rfl, ?_⟩
        have n0_ := Aside0.mk (blk_below (bk_ BK256) hb)
        have n1_ := Aside0.mk (below_step bl_ hb)
        clear BK256
        clear HB
        have BK256 := n0_
        have HB := n1_
        clear n0_ n1_
        (try clear hb)
        (try clear hb2)
        (try clear hk)
        (try clear hi)
        refine hK.out _ _ ⟨cy_ BK256 0, cy_ BK256 1, cy_ BK256 2, cy_ BK256 3, cy_ BK256 4, cy_ BK256 5, cy_ BK256 6, cy_ BK256 7, cy_ BK256 8, cy_ BK256 9, cy_ BK256 10⟩ (fun hHeld => ?_)
        clear hK K
        refine norm_ (a' := ?_) ?_ ?_
        rotate_left
        ·show Act.put _ (some 34) _ = _
         simp only [Act.put, q_]
         rfl
        refine pl_ HT_ 32 35 tb50_1ffffffff_11 ?_
        refine pl_ HT_ 33 36 tb50_3ffffffff_11 ?_
        refine pr_ HT_ 34 37 tb50_7ffffffff_11 ?_
        refine pr_ HT_ 35 38 tb50_fffffffff_11 ?_
        refine pr_ HT_ 36 39 tb50_1fffffffff_11 ?_
        refine pl_ HT_ 37 40 tb50_3fffffffff_11 ?_
        refine pl_ HT_ 38 41 tb50_7fffffffff_11 ?_
        refine pr_ HT_ 39 42 tb50_ffffffffff_11 ?_
        refine pr_ HT_ 40 43 tb50_1ffffffffff_11 ?_
        refine pr_ HT_ 41 44 tb50_3ffffffffff_11 ?_
        refine pr_ HT_ 42 45 tb50_7ffffffffff_11 ?_
        refine pr_ HT_ 43 46 tb50_fffffffffff_11 ?_
        refine pr_ HT_ 44 47 tb50_1fffffffffff_11 ?_
        refine pr_ HT_ 45 48 tb50_3fffffffffff_11 ?_
        refine pr_ HT_ 46 49 tb50_7fffffffffff_11 ?_
        refine pr_ HT_ 47 50 tb50_ffffffffffff_11 ?_
        refine pl_ HT_ 48 51 tb50_1ffffffffffff_11 ?_
        refine pl_ HT_ 49 2 tb50_3ffffffffffff_11 ?_
        refine done_ (done_of HT_.out (by kernel_rfl)) ?_
        try go_wp2
        go_ret
        exact ⟨sq_, bl_⟩
      ·replace c13 := Bool.eq_false_iff.mpr c13
       subst c13
       replace H := in_ H
       obtain rfl := Option.some.inj H
       go_enter Try.func91, Try.ntmps91
       try go_wp2_with (first | ((with_reducible refine gate_dst (N := 1) rfl ?_); refine be_ (N := 1) (cs := #[.string a0_0, .int .i64 a0_1, .int .i64 a0_2, .int .i64 a0_3, .int .i64 a0_4, .slice A0_5 l0_5.length c0_5, .int .i64 a0_6, .int .i64 a0_7, .slice A0_8 l0_8.length c0_8, .slice A0_9 l0_9.length c0_9, .slice A0_10 l0_10.length c0_10]) (t := 43) ?_; intro gb256 hg w36 hbox hb; have BK256 := Aside0.mk (hbox); have GW256 := gw_ (w := w) hg; have GE256 := gw_ (w := w) hg; replace HB := Aside0.mk (below_step bl_ hb); clear hb hbox hg))
       have n0_ := Aside0.mk (blk_drew BK256.out)
       have n1_ := Aside0.mk (below_drew1 HB.out)
       clear BK256
       clear HB
       have BK256 := n0_
       have HB := n1_
       clear n0_ n1_
       refine start_ (n := 50) (S := fun w' => w'.cell? ⟨gb256, 0, none⟩ = some (.string a0_0) ∧ w'.cell? ⟨gb256, 1, none⟩ = some (.int .i64 a0_1) ∧ w'.cell? ⟨gb256, 2, none⟩ = some (.int .i64 a0_2) ∧ w'.cell? ⟨gb256, 3, none⟩ = some (.int .i64 a0_3) ∧ w'.cell? ⟨gb256, 4, none⟩ = some (.int .i64 a0_4) ∧ w'.cell? ⟨gb256, 5, none⟩ = some (.slice A0_5 l0_5.length c0_5) ∧ w'.cell? ⟨gb256, 6, none⟩ = some (.int .i64 a0_6) ∧ w'.cell? ⟨gb256, 7, none⟩ = some (.int .i64 a0_7) ∧ w'.cell? ⟨gb256, 8, none⟩ = some (.slice A0_8 l0_8.length c0_8) ∧ w'.cell? ⟨gb256, 9, none⟩ = some (.slice A0_9 l0_9.length c0_9) ∧ w'.cell? ⟨gb256, 10, none⟩ = some (.slice A0_10 l0_10.length c0_10)) (ds := []) tb50_0_11 (by kernel_rfl) rfl rfl ⟨cy_ BK256 0, cy_ BK256 1, cy_ BK256 2, cy_ BK256 3, cy_ BK256 4, cy_ BK256 5, cy_ BK256 6, cy_ BK256 7, cy_ BK256 8, cy_ BK256 9, cy_ BK256 10⟩ (fun hHeld => ?_); refine with_tabW impl_AcctOk.tab1 impl_AcctOk.bits1 (fun HT_ HW_ => ?_)
       generalize w36.drew = w37 at BK256 HB hHeld ⊢
       refine pl_ HT_ 0 3 tb50_1_11 ?_
       refine pt_ HT_ HW_ hHeld 1 4 tb50_3_11 ?_
       refine one_ (i := 2) (N := some 5) tb50_7_11 rfl rfl (one_of HT_.out (by kernel_rfl)) (by decide) (fun K hK => ?_)
       refine goes_ Try.func144 (by kernel_rfl) rfl #[.string a0_0] (by rfl) rfl rfl gl_ ?_
       with_reducible refine (impl_AcctIdOk.calls k a0_0 true _ A2.out).mono ?_
       rintro e w' ⟨rfl, ⟨nd, rfl⟩⟩
       refine ⟨_, rfl, ?_⟩
       refine hK.out _ _ ⟨cy_ BK256 0, cy_ BK256 1, cy_ BK256 2, cy_ BK256 3, cy_ BK256 4, cy_ BK256 5, cy_ BK256 6, cy_ BK256 7, cy_ BK256 8, cy_ BK256 9, cy_ BK256 10⟩ (fun hHeld => ?_)
       clear hK K
       refine norm_ (a' := ?_) ?_ ?_
       rotate_left
       ·show Act.put _ (some 5) _ = _
        simp only [Act.put, q_]
        rfl
       refine pl_ HT_ 3 6 tb50_f_11 ?_
       refine pl_ HT_ 4 7 tb50_1f_11 ?_
       refine pt_ HT_ HW_ hHeld 5 8 tb50_3f_11 ?_
       refine one_ (i := 6) (N := some 9) tb50_7f_11 rfl rfl (one_of HT_.out (by kernel_rfl)) (by decide) (fun K hK => ?_)
       refine goes_ Try.func145 (by kernel_rfl) rfl #[.int .i64 a0_1, .int .i64 0, .int .i64 9007199254740992] (by rfl) rfl rfl gl_ ?_
       with_reducible refine (impl_within.calls a0_1 0 9007199254740992 true _ A4.out).mono ?_
       rintro e w' ⟨rfl, ⟨nd, rfl⟩⟩
       refine ⟨_, rfl, ?_⟩
       refine hK.out _ _ ⟨cy_ BK256 0, cy_ BK256 1, cy_ BK256 2, cy_ BK256 3, cy_ BK256 4, cy_ BK256 5, cy_ BK256 6, cy_ BK256 7, cy_ BK256 8, cy_ BK256 9, cy_ BK256 10⟩ (fun hHeld => ?_)
       clear hK K
       refine norm_ (a' := ?_) ?_ ?_
       rotate_left
       ·show Act.put _ (some 9) _ = _
        simp only [Act.put, q_]
        rfl
       refine pl_ HT_ 7 10 tb50_ff_11 ?_
       refine pl_ HT_ 8 11 tb50_1ff_11 ?_
       refine pl_ HT_ 9 12 tb50_3ff_11 ?_
       refine pt_ HT_ HW_ hHeld 10 13 tb50_7ff_11 ?_
       refine one_ (i := 11) (N := some 14) tb50_fff_11 rfl rfl (one_of HT_.out (by kernel_rfl)) (by decide) (fun K hK => ?_)
       refine goes_ Try.func145 (by kernel_rfl) rfl #[.int .i64 a0_3, .int .i64 0, .int .i64 1000] (by rfl) rfl rfl gl_ ?_
       with_reducible refine (impl_within.calls a0_3 0 1000 true _ A6.out).mono ?_
       rintro e w' ⟨rfl, ⟨nd, rfl⟩⟩
       refine ⟨_, rfl, ?_⟩
       refine hK.out _ _ ⟨cy_ BK256 0, cy_ BK256 1, cy_ BK256 2, cy_ BK256 3, cy_ BK256 4, cy_ BK256 5, cy_ BK256 6, cy_ BK256 7, cy_ BK256 8, cy_ BK256 9, cy_ BK256 10⟩ (fun hHeld => ?_)
       clear hK K
       refine norm_ (a' := ?_) ?_ ?_
       rotate_left
       ·show Act.put _ (some 14) _ = _
        simp only [Act.put, q_]
        rfl
       refine pl_ HT_ 12 15 tb50_1fff_11 ?_
       refine pl_ HT_ 13 16 tb50_3fff_11 ?_
       refine pl_ HT_ 14 17 tb50_7fff_11 ?_
       refine pt_ HT_ HW_ hHeld 15 18 tb50_ffff_11 ?_
       refine one_ (i := 16) (N := some 19) tb50_1ffff_11 rfl rfl (one_of HT_.out (by kernel_rfl)) (by decide) (fun K hK => ?_)
       refine goes_ Try.func145 (by kernel_rfl) rfl #[.int .i64 a0_4, .int .i64 0, .int .i64 9007199254740992] (by rfl) rfl rfl gl_ ?_
       with_reducible refine (impl_within.calls a0_4 0 9007199254740992 true _ A8.out).mono ?_
       rintro e w' ⟨rfl, ⟨nd, rfl⟩⟩
       refine ⟨_, rfl, ?_⟩
       refine hK.out _ _ ⟨cy_ BK256 0, cy_ BK256 1, cy_ BK256 2, cy_ BK256 3, cy_ BK256 4, cy_ BK256 5, cy_ BK256 6, cy_ BK256 7, cy_ BK256 8, cy_ BK256 9, cy_ BK256 10⟩ (fun hHeld => ?_)
       clear hK K
       refine norm_ (a' := ?_) ?_ ?_
       rotate_left
       ·show Act.put _ (some 19) _ = _
        simp only [Act.put, q_]
        rfl
       refine pl_ HT_ 17 20 tb50_3ffff_11 ?_
       refine pl_ HT_ 18 21 tb50_7ffff_11 ?_
       refine pl_ HT_ 19 22 tb50_fffff_11 ?_
       refine pt_ HT_ HW_ hHeld 20 23 tb50_1fffff_11 ?_
       refine one_ (i := 21) (N := some 24) tb50_3fffff_11 rfl rfl (one_of HT_.out (by kernel_rfl)) (by decide) (fun K hK => ?_)
       refine goes_ Try.func146 (by kernel_rfl) rfl #[.int .i64 a0_2] (by rfl) rfl rfl gl_ ?_
       with_reducible refine (impl_isMoney.calls a0_2 true _ A10.out).mono ?_
       rintro e w' ⟨rfl, ⟨nd, rfl⟩⟩
       refine ⟨_, rfl, ?_⟩
       refine hK.out _ _ ⟨cy_ BK256 0, cy_ BK256 1, cy_ BK256 2, cy_ BK256 3, cy_ BK256 4, cy_ BK256 5, cy_ BK256 6, cy_ BK256 7, cy_ BK256 8, cy_ BK256 9, cy_ BK256 10⟩ (fun hHeld => ?_)
       clear hK K
       refine norm_ (a' := ?_) ?_ ?_
       rotate_left
       ·show Act.put _ (some 24) _ = _
        simp only [Act.put, q_]
        rfl
       refine pl_ HT_ 22 25 tb50_7fffff_11 ?_
       refine pl_ HT_ 23 26 tb50_ffffff_11 ?_
       refine pl_ HT_ 24 27 tb50_1ffffff_11 ?_
       refine pt_ HT_ HW_ hHeld 25 28 tb50_3ffffff_11 ?_
       refine one_ (i := 26) (N := some 29) tb50_7ffffff_11 rfl rfl (one_of HT_.out (by kernel_rfl)) (by decide) (fun K hK => ?_)
       refine goes_ Try.func125 (by kernel_rfl) rfl #[.slice A0_5 l0_5.length c0_5] (by rfl) rfl rfl gl_ ?_
       with_reducible refine (impl_HoldsOk.calls k _ _ l0_5 false _ ?side1 ?side2 A12.out).mono ?_
       (case side1 => exact ca_ (Kd.C_below HR0_5.out bl_))
       (case side2 => exact HC0_5.out)
       rintro e w38 ⟨rfl, hb⟩
       refine ⟨_, rfl, ?_⟩
       have n0_ := Aside0.mk (blk_below (bk_ BK256) hb)
       have n1_ := Aside0.mk (below_step bl_ hb)
       clear BK256
       clear HB
       have BK256 := n0_
       have HB := n1_
       clear n0_ n1_
       (try clear hb)
       (try clear hb2)
       (try clear hk)
       (try clear hi)
       refine hK.out _ _ ⟨cy_ BK256 0, cy_ BK256 1, cy_ BK256 2, cy_ BK256 3, cy_ BK256 4, cy_ BK256 5, cy_ BK256 6, cy_ BK256 7, cy_ BK256 8, cy_ BK256 9, cy_ BK256 10⟩ (fun hHeld => ?_)
       clear hK K
       refine norm_ (a' := ?_) ?_ ?_
       rotate_left
       ·show Act.put _ (some 29) _ = _
        simp only [Act.put, q_]
        rfl
       refine pl_ HT_ 27 30 tb50_fffffff_11 ?_
       refine pl_ HT_ 28 31 tb50_1fffffff_11 ?_
       refine pr_ HT_ 29 32 tb50_3fffffff_11 ?_
       refine pr_ HT_ 30 33 tb50_7fffffff_11 ?_
       refine pr_ HT_ 31 34 tb50_ffffffff_11 ?_
       refine pl_ HT_ 32 35 tb50_1ffffffff_11 ?_
       refine pl_ HT_ 33 36 tb50_3ffffffff_11 ?_
       refine pr_ HT_ 34 37 tb50_7ffffffff_11 ?_
       refine pr_ HT_ 35 38 tb50_fffffffff_11 ?_
       refine pr_ HT_ 36 39 tb50_1fffffffff_11 ?_
       refine pl_ HT_ 37 40 tb50_3fffffffff_11 ?_
       refine pl_ HT_ 38 41 tb50_7fffffffff_11 ?_
       refine pr_ HT_ 39 42 tb50_ffffffffff_11 ?_
       refine pr_ HT_ 40 43 tb50_1ffffffffff_11 ?_
       refine pr_ HT_ 41 44 tb50_3ffffffffff_11 ?_
       refine pr_ HT_ 42 45 tb50_7ffffffffff_11 ?_
       refine pr_ HT_ 43 46 tb50_fffffffffff_11 ?_
       refine pr_ HT_ 44 47 tb50_1fffffffffff_11 ?_
       refine pr_ HT_ 45 48 tb50_3fffffffffff_11 ?_
       refine pr_ HT_ 46 49 tb50_7fffffffffff_11 ?_
       refine pr_ HT_ 47 50 tb50_ffffffffffff_11 ?_
       refine pl_ HT_ 48 51 tb50_1ffffffffffff_11 ?_
       refine pl_ HT_ 49 2 tb50_3ffffffffffff_11 ?_
       refine done_ (done_of HT_.out (by kernel_rfl)) ?_
       try go_wp2
       go_ret
       exact ⟨sq_, bl_⟩
     ·replace c11 := Bool.eq_false_iff.mpr c11
      subst c11
      replace H := in_ H
      obtain rfl := Option.some.inj H
      go_enter Try.func91, Try.ntmps91
      try go_wp2_with (first | ((with_reducible refine gate_dst (N := 1) rfl ?_); refine be_ (N := 1) (cs := #[.string a0_0, .int .i64 a0_1, .int .i64 a0_2, .int .i64 a0_3, .int .i64 a0_4, .slice A0_5 l0_5.length c0_5, .int .i64 a0_6, .int .i64 a0_7, .slice A0_8 l0_8.length c0_8, .slice A0_9 l0_9.length c0_9, .slice A0_10 l0_10.length c0_10]) (t := 43) ?_; intro gb256 hg w39 hbox hb; have BK256 := Aside0.mk (hbox); have GW256 := gw_ (w := w) hg; have GE256 := gw_ (w := w) hg; replace HB := Aside0.mk (below_step bl_ hb); clear hb hbox hg))
      have n0_ := Aside0.mk (blk_drew BK256.out)
      have n1_ := Aside0.mk (below_drew1 HB.out)
      clear BK256
      clear HB
      have BK256 := n0_
      have HB := n1_
      clear n0_ n1_
      refine start_ (n := 50) (S := fun w' => w'.cell? ⟨gb256, 0, none⟩ = some (.string a0_0) ∧ w'.cell? ⟨gb256, 1, none⟩ = some (.int .i64 a0_1) ∧ w'.cell? ⟨gb256, 2, none⟩ = some (.int .i64 a0_2) ∧ w'.cell? ⟨gb256, 3, none⟩ = some (.int .i64 a0_3) ∧ w'.cell? ⟨gb256, 4, none⟩ = some (.int .i64 a0_4) ∧ w'.cell? ⟨gb256, 5, none⟩ = some (.slice A0_5 l0_5.length c0_5) ∧ w'.cell? ⟨gb256, 6, none⟩ = some (.int .i64 a0_6) ∧ w'.cell? ⟨gb256, 7, none⟩ = some (.int .i64 a0_7) ∧ w'.cell? ⟨gb256, 8, none⟩ = some (.slice A0_8 l0_8.length c0_8) ∧ w'.cell? ⟨gb256, 9, none⟩ = some (.slice A0_9 l0_9.length c0_9) ∧ w'.cell? ⟨gb256, 10, none⟩ = some (.slice A0_10 l0_10.length c0_10)) (ds := []) tb50_0_11 (by kernel_rfl) rfl rfl ⟨cy_ BK256 0, cy_ BK256 1, cy_ BK256 2, cy_ BK256 3, cy_ BK256 4, cy_ BK256 5, cy_ BK256 6, cy_ BK256 7, cy_ BK256 8, cy_ BK256 9, cy_ BK256 10⟩ (fun hHeld => ?_); refine with_tabW impl_AcctOk.tab1 impl_AcctOk.bits1 (fun HT_ HW_ => ?_)
      generalize w39.drew = w40 at BK256 HB hHeld ⊢
      refine pl_ HT_ 0 3 tb50_1_11 ?_
      refine pt_ HT_ HW_ hHeld 1 4 tb50_3_11 ?_
      refine one_ (i := 2) (N := some 5) tb50_7_11 rfl rfl (one_of HT_.out (by kernel_rfl)) (by decide) (fun K hK => ?_)
      refine goes_ Try.func144 (by kernel_rfl) rfl #[.string a0_0] (by rfl) rfl rfl gl_ ?_
      with_reducible refine (impl_AcctIdOk.calls k a0_0 true _ A2.out).mono ?_
      rintro e w' ⟨rfl, ⟨nd, rfl⟩⟩
      refine ⟨_, rfl, ?_⟩
      refine hK.out _ _ ⟨cy_ BK256 0, cy_ BK256 1, cy_ BK256 2, cy_ BK256 3, cy_ BK256 4, cy_ BK256 5, cy_ BK256 6, cy_ BK256 7, cy_ BK256 8, cy_ BK256 9, cy_ BK256 10⟩ (fun hHeld => ?_)
      clear hK K
      refine norm_ (a' := ?_) ?_ ?_
      rotate_left
      ·show Act.put _ (some 5) _ = _
       simp only [Act.put, q_]
       rfl
      refine pl_ HT_ 3 6 tb50_f_11 ?_
      refine pl_ HT_ 4 7 tb50_1f_11 ?_
      refine pt_ HT_ HW_ hHeld 5 8 tb50_3f_11 ?_
      refine one_ (i := 6) (N := some 9) tb50_7f_11 rfl rfl (one_of HT_.out (by kernel_rfl)) (by decide) (fun K hK => ?_)
      refine goes_ Try.func145 (by kernel_rfl) rfl #[.int .i64 a0_1, .int .i64 0, .int .i64 9007199254740992] (by rfl) rfl rfl gl_ ?_
      with_reducible refine (impl_within.calls a0_1 0 9007199254740992 true _ A4.out).mono ?_
      rintro e w' ⟨rfl, ⟨nd, rfl⟩⟩
      refine ⟨_, rfl, ?_⟩
      refine hK.out _ _ ⟨cy_ BK256 0, cy_ BK256 1, cy_ BK256 2, cy_ BK256 3, cy_ BK256 4, cy_ BK256 5, cy_ BK256 6, cy_ BK256 7, cy_ BK256 8, cy_ BK256 9, cy_ BK256 10⟩ (fun hHeld => ?_)
      clear hK K
      refine norm_ (a' := ?_) ?_ ?_
      rotate_left
      ·show Act.put _ (some 9) _ = _
       simp only [Act.put, q_]
       rfl
      refine pl_ HT_ 7 10 tb50_ff_11 ?_
      refine pl_ HT_ 8 11 tb50_1ff_11 ?_
      refine pl_ HT_ 9 12 tb50_3ff_11 ?_
      refine pt_ HT_ HW_ hHeld 10 13 tb50_7ff_11 ?_
      refine one_ (i := 11) (N := some 14) tb50_fff_11 rfl rfl (one_of HT_.out (by kernel_rfl)) (by decide) (fun K hK => ?_)
      refine goes_ Try.func145 (by kernel_rfl) rfl #[.int .i64 a0_3, .int .i64 0, .int .i64 1000] (by rfl) rfl rfl gl_ ?_
      with_reducible refine (impl_within.calls a0_3 0 1000 true _ A6.out).mono ?_
      rintro e w' ⟨rfl, ⟨nd, rfl⟩⟩
      refine ⟨_, rfl, ?_⟩
      refine hK.out _ _ ⟨cy_ BK256 0, cy_ BK256 1, cy_ BK256 2, cy_ BK256 3, cy_ BK256 4, cy_ BK256 5, cy_ BK256 6, cy_ BK256 7, cy_ BK256 8, cy_ BK256 9, cy_ BK256 10⟩ (fun hHeld => ?_)
      clear hK K
      refine norm_ (a' := ?_) ?_ ?_
      rotate_left
      ·show Act.put _ (some 14) _ = _
       simp only [Act.put, q_]
       rfl
      refine pl_ HT_ 12 15 tb50_1fff_11 ?_
      refine pl_ HT_ 13 16 tb50_3fff_11 ?_
      refine pl_ HT_ 14 17 tb50_7fff_11 ?_
      refine pt_ HT_ HW_ hHeld 15 18 tb50_ffff_11 ?_
      refine one_ (i := 16) (N := some 19) tb50_1ffff_11 rfl rfl (one_of HT_.out (by kernel_rfl)) (by decide) (fun K hK => ?_)
      refine goes_ Try.func145 (by kernel_rfl) rfl #[.int .i64 a0_4, .int .i64 0, .int .i64 9007199254740992] (by rfl) rfl rfl gl_ ?_
      with_reducible refine (impl_within.calls a0_4 0 9007199254740992 true _ A8.out).mono ?_
      rintro e w' ⟨rfl, ⟨nd, rfl⟩⟩
      refine ⟨_, rfl, ?_⟩
      refine hK.out _ _ ⟨cy_ BK256 0, cy_ BK256 1, cy_ BK256 2, cy_ BK256 3, cy_ BK256 4, cy_ BK256 5, cy_ BK256 6, cy_ BK256 7, cy_ BK256 8, cy_ BK256 9, cy_ BK256 10⟩ (fun hHeld => ?_)
      clear hK K
      refine norm_ (a' := ?_) ?_ ?_
      rotate_left
      ·show Act.put _ (some 19) _ = _
       simp only [Act.put, q_]
       rfl
      refine pl_ HT_ 17 20 tb50_3ffff_11 ?_
      refine pl_ HT_ 18 21 tb50_7ffff_11 ?_
      refine pl_ HT_ 19 22 tb50_fffff_11 ?_
      refine pt_ HT_ HW_ hHeld 20 23 tb50_1fffff_11 ?_
      refine one_ (i := 21) (N := some 24) tb50_3fffff_11 rfl rfl (one_of HT_.out (by kernel_rfl)) (by decide) (fun K hK => ?_)
      refine goes_ Try.func146 (by kernel_rfl) rfl #[.int .i64 a0_2] (by rfl) rfl rfl gl_ ?_
      with_reducible refine (impl_isMoney.calls a0_2 false _ A10.out).mono ?_
      rintro e w' ⟨rfl, ⟨nd, rfl⟩⟩
      refine ⟨_, rfl, ?_⟩
      refine hK.out _ _ ⟨cy_ BK256 0, cy_ BK256 1, cy_ BK256 2, cy_ BK256 3, cy_ BK256 4, cy_ BK256 5, cy_ BK256 6, cy_ BK256 7, cy_ BK256 8, cy_ BK256 9, cy_ BK256 10⟩ (fun hHeld => ?_)
      clear hK K
      refine norm_ (a' := ?_) ?_ ?_
      rotate_left
      ·show Act.put _ (some 24) _ = _
       simp only [Act.put, q_]
       rfl
      refine pl_ HT_ 22 25 tb50_7fffff_11 ?_
      refine pl_ HT_ 23 26 tb50_ffffff_11 ?_
      refine pr_ HT_ 24 27 tb50_1ffffff_11 ?_
      refine pr_ HT_ 25 28 tb50_3ffffff_11 ?_
      refine pr_ HT_ 26 29 tb50_7ffffff_11 ?_
      refine pl_ HT_ 27 30 tb50_fffffff_11 ?_
      refine pl_ HT_ 28 31 tb50_1fffffff_11 ?_
      refine pr_ HT_ 29 32 tb50_3fffffff_11 ?_
      refine pr_ HT_ 30 33 tb50_7fffffff_11 ?_
      refine pr_ HT_ 31 34 tb50_ffffffff_11 ?_
      refine pl_ HT_ 32 35 tb50_1ffffffff_11 ?_
      refine pl_ HT_ 33 36 tb50_3ffffffff_11 ?_
      refine pr_ HT_ 34 37 tb50_7ffffffff_11 ?_
      refine pr_ HT_ 35 38 tb50_fffffffff_11 ?_
      refine pr_ HT_ 36 39 tb50_1fffffffff_11 ?_
      refine pl_ HT_ 37 40 tb50_3fffffffff_11 ?_
      refine pl_ HT_ 38 41 tb50_7fffffffff_11 ?_
      refine pr_ HT_ 39 42 tb50_ffffffffff_11 ?_
      refine pr_ HT_ 40 43 tb50_1ffffffffff_11 ?_
      refine pr_ HT_ 41 44 tb50_3ffffffffff_11 ?_
      refine pr_ HT_ 42 45 tb50_7ffffffffff_11 ?_
      refine pr_ HT_ 43 46 tb50_fffffffffff_11 ?_
      refine pr_ HT_ 44 47 tb50_1fffffffffff_11 ?_
      refine pr_ HT_ 45 48 tb50_3fffffffffff_11 ?_
      refine pr_ HT_ 46 49 tb50_7fffffffffff_11 ?_
      refine pr_ HT_ 47 50 tb50_ffffffffffff_11 ?_
      refine pl_ HT_ 48 51 tb50_1ffffffffffff_11 ?_
      refine pl_ HT_ 49 2 tb50_3ffffffffffff_11 ?_
      refine done_ (done_of HT_.out (by kernel_rfl)) ?_
      try go_wp2
      go_ret
      exact ⟨sq_, bl_⟩
    ·replace c9 := Bool.eq_false_iff.mpr c9
     subst c9
     replace H := in_ H
     obtain rfl := Option.some.inj H
     go_enter Try.func91, Try.ntmps91
     try go_wp2_with (first | ((with_reducible refine gate_dst (N := 1) rfl ?_); refine be_ (N := 1) (cs := #[.string a0_0, .int .i64 a0_1, .int .i64 a0_2, .int .i64 a0_3, .int .i64 a0_4, .slice A0_5 l0_5.length c0_5, .int .i64 a0_6, .int .i64 a0_7, .slice A0_8 l0_8.length c0_8, .slice A0_9 l0_9.length c0_9, .slice A0_10 l0_10.length c0_10]) (t := 43) ?_; intro gb256 hg w41 hbox hb; have BK256 := Aside0.mk (hbox); have GW256 := gw_ (w := w) hg; have GE256 := gw_ (w := w) hg; replace HB := Aside0.mk (below_step bl_ hb); clear hb hbox hg))
     have n0_ := Aside0.mk (blk_drew BK256.out)
     have n1_ := Aside0.mk (below_drew1 HB.out)
     clear BK256
     clear HB
     have BK256 := n0_
     have HB := n1_
     clear n0_ n1_
     refine start_ (n := 50) (S := fun w' => w'.cell? ⟨gb256, 0, none⟩ = some (.string a0_0) ∧ w'.cell? ⟨gb256, 1, none⟩ = some (.int .i64 a0_1) ∧ w'.cell? ⟨gb256, 2, none⟩ = some (.int .i64 a0_2) ∧ w'.cell? ⟨gb256, 3, none⟩ = some (.int .i64 a0_3) ∧ w'.cell? ⟨gb256, 4, none⟩ = some (.int .i64 a0_4) ∧ w'.cell? ⟨gb256, 5, none⟩ = some (.slice A0_5 l0_5.length c0_5) ∧ w'.cell? ⟨gb256, 6, none⟩ = some (.int .i64 a0_6) ∧ w'.cell? ⟨gb256, 7, none⟩ = some (.int .i64 a0_7) ∧ w'.cell? ⟨gb256, 8, none⟩ = some (.slice A0_8 l0_8.length c0_8) ∧ w'.cell? ⟨gb256, 9, none⟩ = some (.slice A0_9 l0_9.length c0_9) ∧ w'.cell? ⟨gb256, 10, none⟩ = some (.slice A0_10 l0_10.length c0_10)) (ds := []) tb50_0_11 (by kernel_rfl) rfl rfl ⟨cy_ BK256 0, cy_ BK256 1, cy_ BK256 2, cy_ BK256 3, cy_ BK256 4, cy_ BK256 5, cy_ BK256 6, cy_ BK256 7, cy_ BK256 8, cy_ BK256 9, cy_ BK256 10⟩ (fun hHeld => ?_); refine with_tabW impl_AcctOk.tab1 impl_AcctOk.bits1 (fun HT_ HW_ => ?_)
     generalize w41.drew = w42 at BK256 HB hHeld ⊢
     refine pl_ HT_ 0 3 tb50_1_11 ?_
     refine pt_ HT_ HW_ hHeld 1 4 tb50_3_11 ?_
     refine one_ (i := 2) (N := some 5) tb50_7_11 rfl rfl (one_of HT_.out (by kernel_rfl)) (by decide) (fun K hK => ?_)
     refine goes_ Try.func144 (by kernel_rfl) rfl #[.string a0_0] (by rfl) rfl rfl gl_ ?_
     with_reducible refine (impl_AcctIdOk.calls k a0_0 true _ A2.out).mono ?_
     rintro e w' ⟨rfl, ⟨nd, rfl⟩⟩
     refine ⟨_, rfl, ?_⟩
     refine hK.out _ _ ⟨cy_ BK256 0, cy_ BK256 1, cy_ BK256 2, cy_ BK256 3, cy_ BK256 4, cy_ BK256 5, cy_ BK256 6, cy_ BK256 7, cy_ BK256 8, cy_ BK256 9, cy_ BK256 10⟩ (fun hHeld => ?_)
     clear hK K
     refine norm_ (a' := ?_) ?_ ?_
     rotate_left
     ·show Act.put _ (some 5) _ = _
      simp only [Act.put, q_]
      rfl
     refine pl_ HT_ 3 6 tb50_f_11 ?_
     refine pl_ HT_ 4 7 tb50_1f_11 ?_
     refine pt_ HT_ HW_ hHeld 5 8 tb50_3f_11 ?_
     refine one_ (i := 6) (N := some 9) tb50_7f_11 rfl rfl (one_of HT_.out (by kernel_rfl)) (by decide) (fun K hK => ?_)
     refine goes_ Try.func145 (by kernel_rfl) rfl #[.int .i64 a0_1, .int .i64 0, .int .i64 9007199254740992] (by rfl) rfl rfl gl_ ?_
     with_reducible refine (impl_within.calls a0_1 0 9007199254740992 true _ A4.out).mono ?_
     rintro e w' ⟨rfl, ⟨nd, rfl⟩⟩
     refine ⟨_, rfl, ?_⟩
     refine hK.out _ _ ⟨cy_ BK256 0, cy_ BK256 1, cy_ BK256 2, cy_ BK256 3, cy_ BK256 4, cy_ BK256 5, cy_ BK256 6, cy_ BK256 7, cy_ BK256 8, cy_ BK256 9, cy_ BK256 10⟩ (fun hHeld => ?_)
     clear hK K
     refine norm_ (a' := ?_) ?_ ?_
     rotate_left
     ·show Act.put _ (some 9) _ = _
      simp only [Act.put, q_]
      rfl
     refine pl_ HT_ 7 10 tb50_ff_11 ?_
     refine pl_ HT_ 8 11 tb50_1ff_11 ?_
     refine pl_ HT_ 9 12 tb50_3ff_11 ?_
     refine pt_ HT_ HW_ hHeld 10 13 tb50_7ff_11 ?_
     refine one_ (i := 11) (N := some 14) tb50_fff_11 rfl rfl (one_of HT_.out (by kernel_rfl)) (by decide) (fun K hK => ?_)
     refine goes_ Try.func145 (by kernel_rfl) rfl #[.int .i64 a0_3, .int .i64 0, .int .i64 1000] (by rfl) rfl rfl gl_ ?_
     with_reducible refine (impl_within.calls a0_3 0 1000 true _ A6.out).mono ?_
     rintro e w' ⟨rfl, ⟨nd, rfl⟩⟩
     refine ⟨_, rfl, ?_⟩
     refine hK.out _ _ ⟨cy_ BK256 0, cy_ BK256 1, cy_ BK256 2, cy_ BK256 3, cy_ BK256 4, cy_ BK256 5, cy_ BK256 6, cy_ BK256 7, cy_ BK256 8, cy_ BK256 9, cy_ BK256 10⟩ (fun hHeld => ?_)
     clear hK K
     refine norm_ (a' := ?_) ?_ ?_
     rotate_left
     ·show Act.put _ (some 14) _ = _
      simp only [Act.put, q_]
      rfl
     refine pl_ HT_ 12 15 tb50_1fff_11 ?_
     refine pl_ HT_ 13 16 tb50_3fff_11 ?_
     refine pl_ HT_ 14 17 tb50_7fff_11 ?_
     refine pt_ HT_ HW_ hHeld 15 18 tb50_ffff_11 ?_
     refine one_ (i := 16) (N := some 19) tb50_1ffff_11 rfl rfl (one_of HT_.out (by kernel_rfl)) (by decide) (fun K hK => ?_)
     refine goes_ Try.func145 (by kernel_rfl) rfl #[.int .i64 a0_4, .int .i64 0, .int .i64 9007199254740992] (by rfl) rfl rfl gl_ ?_
     with_reducible refine (impl_within.calls a0_4 0 9007199254740992 false _ A8.out).mono ?_
     rintro e w' ⟨rfl, ⟨nd, rfl⟩⟩
     refine ⟨_, rfl, ?_⟩
     refine hK.out _ _ ⟨cy_ BK256 0, cy_ BK256 1, cy_ BK256 2, cy_ BK256 3, cy_ BK256 4, cy_ BK256 5, cy_ BK256 6, cy_ BK256 7, cy_ BK256 8, cy_ BK256 9, cy_ BK256 10⟩ (fun hHeld => ?_)
     clear hK K
     refine norm_ (a' := ?_) ?_ ?_
     rotate_left
     ·show Act.put _ (some 19) _ = _
      simp only [Act.put, q_]
      rfl
     refine pl_ HT_ 17 20 tb50_3ffff_11 ?_
     refine pl_ HT_ 18 21 tb50_7ffff_11 ?_
     refine pr_ HT_ 19 22 tb50_fffff_11 ?_
     refine pr_ HT_ 20 23 tb50_1fffff_11 ?_
     refine pr_ HT_ 21 24 tb50_3fffff_11 ?_
     refine pl_ HT_ 22 25 tb50_7fffff_11 ?_
     refine pl_ HT_ 23 26 tb50_ffffff_11 ?_
     refine pr_ HT_ 24 27 tb50_1ffffff_11 ?_
     refine pr_ HT_ 25 28 tb50_3ffffff_11 ?_
     refine pr_ HT_ 26 29 tb50_7ffffff_11 ?_
     refine pl_ HT_ 27 30 tb50_fffffff_11 ?_
     refine pl_ HT_ 28 31 tb50_1fffffff_11 ?_
     refine pr_ HT_ 29 32 tb50_3fffffff_11 ?_
     refine pr_ HT_ 30 33 tb50_7fffffff_11 ?_
     refine pr_ HT_ 31 34 tb50_ffffffff_11 ?_
     refine pl_ HT_ 32 35 tb50_1ffffffff_11 ?_
     refine pl_ HT_ 33 36 tb50_3ffffffff_11 ?_
     refine pr_ HT_ 34 37 tb50_7ffffffff_11 ?_
     refine pr_ HT_ 35 38 tb50_fffffffff_11 ?_
     refine pr_ HT_ 36 39 tb50_1fffffffff_11 ?_
     refine pl_ HT_ 37 40 tb50_3fffffffff_11 ?_
     refine pl_ HT_ 38 41 tb50_7fffffffff_11 ?_
     refine pr_ HT_ 39 42 tb50_ffffffffff_11 ?_
     refine pr_ HT_ 40 43 tb50_1ffffffffff_11 ?_
     refine pr_ HT_ 41 44 tb50_3ffffffffff_11 ?_
     refine pr_ HT_ 42 45 tb50_7ffffffffff_11 ?_
     refine pr_ HT_ 43 46 tb50_fffffffffff_11 ?_
     refine pr_ HT_ 44 47 tb50_1fffffffffff_11 ?_
     refine pr_ HT_ 45 48 tb50_3fffffffffff_11 ?_
     refine pr_ HT_ 46 49 tb50_7fffffffffff_11 ?_
     refine pr_ HT_ 47 50 tb50_ffffffffffff_11 ?_
     refine pl_ HT_ 48 51 tb50_1ffffffffffff_11 ?_
     refine pl_ HT_ 49 2 tb50_3ffffffffffff_11 ?_
     refine done_ (done_of HT_.out (by kernel_rfl)) ?_
     try go_wp2
     go_ret
     exact ⟨sq_, bl_⟩
   ·replace c7 := Bool.eq_false_iff.mpr c7
    subst c7
    replace H := in_ H
    obtain rfl := Option.some.inj H
    go_enter Try.func91, Try.ntmps91
    try go_wp2_with (first | ((with_reducible refine gate_dst (N := 1) rfl ?_); refine be_ (N := 1) (cs := #[.string a0_0, .int .i64 a0_1, .int .i64 a0_2, .int .i64 a0_3, .int .i64 a0_4, .slice A0_5 l0_5.length c0_5, .int .i64 a0_6, .int .i64 a0_7, .slice A0_8 l0_8.length c0_8, .slice A0_9 l0_9.length c0_9, .slice A0_10 l0_10.length c0_10]) (t := 43) ?_; intro gb256 hg w43 hbox hb; have BK256 := Aside0.mk (hbox); have GW256 := gw_ (w := w) hg; have GE256 := gw_ (w := w) hg; replace HB := Aside0.mk (below_step bl_ hb); clear hb hbox hg))
    have n0_ := Aside0.mk (blk_drew BK256.out)
    have n1_ := Aside0.mk (below_drew1 HB.out)
    clear BK256
    clear HB
    have BK256 := n0_
    have HB := n1_
    clear n0_ n1_
    refine start_ (n := 50) (S := fun w' => w'.cell? ⟨gb256, 0, none⟩ = some (.string a0_0) ∧ w'.cell? ⟨gb256, 1, none⟩ = some (.int .i64 a0_1) ∧ w'.cell? ⟨gb256, 2, none⟩ = some (.int .i64 a0_2) ∧ w'.cell? ⟨gb256, 3, none⟩ = some (.int .i64 a0_3) ∧ w'.cell? ⟨gb256, 4, none⟩ = some (.int .i64 a0_4) ∧ w'.cell? ⟨gb256, 5, none⟩ = some (.slice A0_5 l0_5.length c0_5) ∧ w'.cell? ⟨gb256, 6, none⟩ = some (.int .i64 a0_6) ∧ w'.cell? ⟨gb256, 7, none⟩ = some (.int .i64 a0_7) ∧ w'.cell? ⟨gb256, 8, none⟩ = some (.slice A0_8 l0_8.length c0_8) ∧ w'.cell? ⟨gb256, 9, none⟩ = some (.slice A0_9 l0_9.length c0_9) ∧ w'.cell? ⟨gb256, 10, none⟩ = some (.slice A0_10 l0_10.length c0_10)) (ds := []) tb50_0_11 (by kernel_rfl) rfl rfl ⟨cy_ BK256 0, cy_ BK256 1, cy_ BK256 2, cy_ BK256 3, cy_ BK256 4, cy_ BK256 5, cy_ BK256 6, cy_ BK256 7, cy_ BK256 8, cy_ BK256 9, cy_ BK256 10⟩ (fun hHeld => ?_); refine with_tabW impl_AcctOk.tab1 impl_AcctOk.bits1 (fun HT_ HW_ => ?_)
    generalize w43.drew = w44 at BK256 HB hHeld ⊢
    refine pl_ HT_ 0 3 tb50_1_11 ?_
    refine pt_ HT_ HW_ hHeld 1 4 tb50_3_11 ?_
    refine one_ (i := 2) (N := some 5) tb50_7_11 rfl rfl (one_of HT_.out (by kernel_rfl)) (by decide) (fun K hK => ?_)
    refine goes_ Try.func144 (by kernel_rfl) rfl #[.string a0_0] (by rfl) rfl rfl gl_ ?_
    with_reducible refine (impl_AcctIdOk.calls k a0_0 true _ A2.out).mono ?_
    rintro e w' ⟨rfl, ⟨nd, rfl⟩⟩
    refine ⟨_, rfl, ?_⟩
    refine hK.out _ _ ⟨cy_ BK256 0, cy_ BK256 1, cy_ BK256 2, cy_ BK256 3, cy_ BK256 4, cy_ BK256 5, cy_ BK256 6, cy_ BK256 7, cy_ BK256 8, cy_ BK256 9, cy_ BK256 10⟩ (fun hHeld => ?_)
    clear hK K
    refine norm_ (a' := ?_) ?_ ?_
    rotate_left
    ·show Act.put _ (some 5) _ = _
     simp only [Act.put, q_]
     rfl
    refine pl_ HT_ 3 6 tb50_f_11 ?_
    refine pl_ HT_ 4 7 tb50_1f_11 ?_
    refine pt_ HT_ HW_ hHeld 5 8 tb50_3f_11 ?_
    refine one_ (i := 6) (N := some 9) tb50_7f_11 rfl rfl (one_of HT_.out (by kernel_rfl)) (by decide) (fun K hK => ?_)
    refine goes_ Try.func145 (by kernel_rfl) rfl #[.int .i64 a0_1, .int .i64 0, .int .i64 9007199254740992] (by rfl) rfl rfl gl_ ?_
    with_reducible refine (impl_within.calls a0_1 0 9007199254740992 true _ A4.out).mono ?_
    rintro e w' ⟨rfl, ⟨nd, rfl⟩⟩
    refine ⟨_, rfl, ?_⟩
    refine hK.out _ _ ⟨cy_ BK256 0, cy_ BK256 1, cy_ BK256 2, cy_ BK256 3, cy_ BK256 4, cy_ BK256 5, cy_ BK256 6, cy_ BK256 7, cy_ BK256 8, cy_ BK256 9, cy_ BK256 10⟩ (fun hHeld => ?_)
    clear hK K
    refine norm_ (a' := ?_) ?_ ?_
    rotate_left
    ·show Act.put _ (some 9) _ = _
     simp only [Act.put, q_]
     rfl
    refine pl_ HT_ 7 10 tb50_ff_11 ?_
    refine pl_ HT_ 8 11 tb50_1ff_11 ?_
    refine pl_ HT_ 9 12 tb50_3ff_11 ?_
    refine pt_ HT_ HW_ hHeld 10 13 tb50_7ff_11 ?_
    refine one_ (i := 11) (N := some 14) tb50_fff_11 rfl rfl (one_of HT_.out (by kernel_rfl)) (by decide) (fun K hK => ?_)
    refine goes_ Try.func145 (by kernel_rfl) rfl #[.int .i64 a0_3, .int .i64 0, .int .i64 1000] (by rfl) rfl rfl gl_ ?_
    with_reducible refine (impl_within.calls a0_3 0 1000 false _ A6.out).mono ?_
    rintro e w' ⟨rfl, ⟨nd, rfl⟩⟩
    refine ⟨_, rfl, ?_⟩
    refine hK.out _ _ ⟨cy_ BK256 0, cy_ BK256 1, cy_ BK256 2, cy_ BK256 3, cy_ BK256 4, cy_ BK256 5, cy_ BK256 6, cy_ BK256 7, cy_ BK256 8, cy_ BK256 9, cy_ BK256 10⟩ (fun hHeld => ?_)
    clear hK K
    refine norm_ (a' := ?_) ?_ ?_
    rotate_left
    ·show Act.put _ (some 14) _ = _
     simp only [Act.put, q_]
     rfl
    refine pl_ HT_ 12 15 tb50_1fff_11 ?_
    refine pl_ HT_ 13 16 tb50_3fff_11 ?_
    refine pr_ HT_ 14 17 tb50_7fff_11 ?_
    refine pr_ HT_ 15 18 tb50_ffff_11 ?_
    refine pr_ HT_ 16 19 tb50_1ffff_11 ?_
    refine pl_ HT_ 17 20 tb50_3ffff_11 ?_
    refine pl_ HT_ 18 21 tb50_7ffff_11 ?_
    refine pr_ HT_ 19 22 tb50_fffff_11 ?_
    refine pr_ HT_ 20 23 tb50_1fffff_11 ?_
    refine pr_ HT_ 21 24 tb50_3fffff_11 ?_
    refine pl_ HT_ 22 25 tb50_7fffff_11 ?_
    refine pl_ HT_ 23 26 tb50_ffffff_11 ?_
    refine pr_ HT_ 24 27 tb50_1ffffff_11 ?_
    refine pr_ HT_ 25 28 tb50_3ffffff_11 ?_
    refine pr_ HT_ 26 29 tb50_7ffffff_11 ?_
    refine pl_ HT_ 27 30 tb50_fffffff_11 ?_
    refine pl_ HT_ 28 31 tb50_1fffffff_11 ?_
    refine pr_ HT_ 29 32 tb50_3fffffff_11 ?_
    refine pr_ HT_ 30 33 tb50_7fffffff_11 ?_
    refine pr_ HT_ 31 34 tb50_ffffffff_11 ?_
    refine pl_ HT_ 32 35 tb50_1ffffffff_11 ?_
    refine pl_ HT_ 33 36 tb50_3ffffffff_11 ?_
    refine pr_ HT_ 34 37 tb50_7ffffffff_11 ?_
    refine pr_ HT_ 35 38 tb50_fffffffff_11 ?_
    refine pr_ HT_ 36 39 tb50_1fffffffff_11 ?_
    refine pl_ HT_ 37 40 tb50_3fffffffff_11 ?_
    refine pl_ HT_ 38 41 tb50_7fffffffff_11 ?_
    refine pr_ HT_ 39 42 tb50_ffffffffff_11 ?_
    refine pr_ HT_ 40 43 tb50_1ffffffffff_11 ?_
    refine pr_ HT_ 41 44 tb50_3ffffffffff_11 ?_
    refine pr_ HT_ 42 45 tb50_7ffffffffff_11 ?_
    refine pr_ HT_ 43 46 tb50_fffffffffff_11 ?_
    refine pr_ HT_ 44 47 tb50_1fffffffffff_11 ?_
    refine pr_ HT_ 45 48 tb50_3fffffffffff_11 ?_
    refine pr_ HT_ 46 49 tb50_7fffffffffff_11 ?_
    refine pr_ HT_ 47 50 tb50_ffffffffffff_11 ?_
    refine pl_ HT_ 48 51 tb50_1ffffffffffff_11 ?_
    refine pl_ HT_ 49 2 tb50_3ffffffffffff_11 ?_
    refine done_ (done_of HT_.out (by kernel_rfl)) ?_
    try go_wp2
    go_ret
    exact ⟨sq_, bl_⟩
  ·replace c5 := Bool.eq_false_iff.mpr c5
   subst c5
   replace H := in_ H
   obtain rfl := Option.some.inj H
   go_enter Try.func91, Try.ntmps91
   try go_wp2_with (first | ((with_reducible refine gate_dst (N := 1) rfl ?_); refine be_ (N := 1) (cs := #[.string a0_0, .int .i64 a0_1, .int .i64 a0_2, .int .i64 a0_3, .int .i64 a0_4, .slice A0_5 l0_5.length c0_5, .int .i64 a0_6, .int .i64 a0_7, .slice A0_8 l0_8.length c0_8, .slice A0_9 l0_9.length c0_9, .slice A0_10 l0_10.length c0_10]) (t := 43) ?_; intro gb256 hg w45 hbox hb; have BK256 := Aside0.mk (hbox); have GW256 := gw_ (w := w) hg; have GE256 := gw_ (w := w) hg; replace HB := Aside0.mk (below_step bl_ hb); clear hb hbox hg))
   have n0_ := Aside0.mk (blk_drew BK256.out)
   have n1_ := Aside0.mk (below_drew1 HB.out)
   clear BK256
   clear HB
   have BK256 := n0_
   have HB := n1_
   clear n0_ n1_
   refine start_ (n := 50) (S := fun w' => w'.cell? ⟨gb256, 0, none⟩ = some (.string a0_0) ∧ w'.cell? ⟨gb256, 1, none⟩ = some (.int .i64 a0_1) ∧ w'.cell? ⟨gb256, 2, none⟩ = some (.int .i64 a0_2) ∧ w'.cell? ⟨gb256, 3, none⟩ = some (.int .i64 a0_3) ∧ w'.cell? ⟨gb256, 4, none⟩ = some (.int .i64 a0_4) ∧ w'.cell? ⟨gb256, 5, none⟩ = some (.slice A0_5 l0_5.length c0_5) ∧ w'.cell? ⟨gb256, 6, none⟩ = some (.int .i64 a0_6) ∧ w'.cell? ⟨gb256, 7, none⟩ = some (.int .i64 a0_7) ∧ w'.cell? ⟨gb256, 8, none⟩ = some (.slice A0_8 l0_8.length c0_8) ∧ w'.cell? ⟨gb256, 9, none⟩ = some (.slice A0_9 l0_9.length c0_9) ∧ w'.cell? ⟨gb256, 10, none⟩ = some (.slice A0_10 l0_10.length c0_10)) (ds := []) tb50_0_11 (by kernel_rfl) rfl rfl ⟨cy_ BK256 0, cy_ BK256 1, cy_ BK256 2, cy_ BK256 3, cy_ BK256 4, cy_ BK256 5, cy_ BK256 6, cy_ BK256 7, cy_ BK256 8, cy_ BK256 9, cy_ BK256 10⟩ (fun hHeld => ?_); refine with_tabW impl_AcctOk.tab1 impl_AcctOk.bits1 (fun HT_ HW_ => ?_)
   generalize w45.drew = w46 at BK256 HB hHeld ⊢
   refine pl_ HT_ 0 3 tb50_1_11 ?_
   refine pt_ HT_ HW_ hHeld 1 4 tb50_3_11 ?_
   refine one_ (i := 2) (N := some 5) tb50_7_11 rfl rfl (one_of HT_.out (by kernel_rfl)) (by decide) (fun K hK => ?_)
   refine goes_ Try.func144 (by kernel_rfl) rfl #[.string a0_0] (by rfl) rfl rfl gl_ ?_
   with_reducible refine (impl_AcctIdOk.calls k a0_0 true _ A2.out).mono ?_
   rintro e w' ⟨rfl, ⟨nd, rfl⟩⟩
   refine ⟨_, rfl, ?_⟩
   refine hK.out _ _ ⟨cy_ BK256 0, cy_ BK256 1, cy_ BK256 2, cy_ BK256 3, cy_ BK256 4, cy_ BK256 5, cy_ BK256 6, cy_ BK256 7, cy_ BK256 8, cy_ BK256 9, cy_ BK256 10⟩ (fun hHeld => ?_)
   clear hK K
   refine norm_ (a' := ?_) ?_ ?_
   rotate_left
   ·show Act.put _ (some 5) _ = _
    simp only [Act.put, q_]
    rfl
   refine pl_ HT_ 3 6 tb50_f_11 ?_
   refine pl_ HT_ 4 7 tb50_1f_11 ?_
   refine pt_ HT_ HW_ hHeld 5 8 tb50_3f_11 ?_
   refine one_ (i := 6) (N := some 9) tb50_7f_11 rfl rfl (one_of HT_.out (by kernel_rfl)) (by decide) (fun K hK => ?_)
   refine goes_ Try.func145 (by kernel_rfl) rfl #[.int .i64 a0_1, .int .i64 0, .int .i64 9007199254740992] (by rfl) rfl rfl gl_ ?_
   with_reducible refine (impl_within.calls a0_1 0 9007199254740992 false _ A4.out).mono ?_
   rintro e w' ⟨rfl, ⟨nd, rfl⟩⟩
   refine ⟨_, rfl, ?_⟩
   refine hK.out _ _ ⟨cy_ BK256 0, cy_ BK256 1, cy_ BK256 2, cy_ BK256 3, cy_ BK256 4, cy_ BK256 5, cy_ BK256 6, cy_ BK256 7, cy_ BK256 8, cy_ BK256 9, cy_ BK256 10⟩ (fun hHeld => ?_)
   clear hK K
   refine norm_ (a' := ?_) ?_ ?_
   rotate_left
   ·show Act.put _ (some 9) _ = _
    simp only [Act.put, q_]
    rfl
   refine pl_ HT_ 7 10 tb50_ff_11 ?_
   refine pl_ HT_ 8 11 tb50_1ff_11 ?_
   refine pr_ HT_ 9 12 tb50_3ff_11 ?_
   refine pr_ HT_ 10 13 tb50_7ff_11 ?_
   refine pr_ HT_ 11 14 tb50_fff_11 ?_
   refine pl_ HT_ 12 15 tb50_1fff_11 ?_
   refine pl_ HT_ 13 16 tb50_3fff_11 ?_
   refine pr_ HT_ 14 17 tb50_7fff_11 ?_
   refine pr_ HT_ 15 18 tb50_ffff_11 ?_
   refine pr_ HT_ 16 19 tb50_1ffff_11 ?_
   refine pl_ HT_ 17 20 tb50_3ffff_11 ?_
   refine pl_ HT_ 18 21 tb50_7ffff_11 ?_
   refine pr_ HT_ 19 22 tb50_fffff_11 ?_
   refine pr_ HT_ 20 23 tb50_1fffff_11 ?_
   refine pr_ HT_ 21 24 tb50_3fffff_11 ?_
   refine pl_ HT_ 22 25 tb50_7fffff_11 ?_
   refine pl_ HT_ 23 26 tb50_ffffff_11 ?_
   refine pr_ HT_ 24 27 tb50_1ffffff_11 ?_
   refine pr_ HT_ 25 28 tb50_3ffffff_11 ?_
   refine pr_ HT_ 26 29 tb50_7ffffff_11 ?_
   refine pl_ HT_ 27 30 tb50_fffffff_11 ?_
   refine pl_ HT_ 28 31 tb50_1fffffff_11 ?_
   refine pr_ HT_ 29 32 tb50_3fffffff_11 ?_
   refine pr_ HT_ 30 33 tb50_7fffffff_11 ?_
   refine pr_ HT_ 31 34 tb50_ffffffff_11 ?_
   refine pl_ HT_ 32 35 tb50_1ffffffff_11 ?_
   refine pl_ HT_ 33 36 tb50_3ffffffff_11 ?_
   refine pr_ HT_ 34 37 tb50_7ffffffff_11 ?_
   refine pr_ HT_ 35 38 tb50_fffffffff_11 ?_
   refine pr_ HT_ 36 39 tb50_1fffffffff_11 ?_
   refine pl_ HT_ 37 40 tb50_3fffffffff_11 ?_
   refine pl_ HT_ 38 41 tb50_7fffffffff_11 ?_
   refine pr_ HT_ 39 42 tb50_ffffffffff_11 ?_
   refine pr_ HT_ 40 43 tb50_1ffffffffff_11 ?_
   refine pr_ HT_ 41 44 tb50_3ffffffffff_11 ?_
   refine pr_ HT_ 42 45 tb50_7ffffffffff_11 ?_
   refine pr_ HT_ 43 46 tb50_fffffffffff_11 ?_
   refine pr_ HT_ 44 47 tb50_1fffffffffff_11 ?_
   refine pr_ HT_ 45 48 tb50_3fffffffffff_11 ?_
   refine pr_ HT_ 46 49 tb50_7fffffffffff_11 ?_
   refine pr_ HT_ 47 50 tb50_ffffffffffff_11 ?_
   refine pl_ HT_ 48 51 tb50_1ffffffffffff_11 ?_
   refine pl_ HT_ 49 2 tb50_3ffffffffffff_11 ?_
   refine done_ (done_of HT_.out (by kernel_rfl)) ?_
   try go_wp2
   go_ret
   exact ⟨sq_, bl_⟩
 ·replace c3 := Bool.eq_false_iff.mpr c3
  subst c3
  replace H := in_ H
  obtain rfl := Option.some.inj H
  go_enter Try.func91, Try.ntmps91
  try go_wp2_with (first | ((with_reducible refine gate_dst (N := 1) rfl ?_); refine be_ (N := 1) (cs := #[.string a0_0, .int .i64 a0_1, .int .i64 a0_2, .int .i64 a0_3, .int .i64 a0_4, .slice A0_5 l0_5.length c0_5, .int .i64 a0_6, .int .i64 a0_7, .slice A0_8 l0_8.length c0_8, .slice A0_9 l0_9.length c0_9, .slice A0_10 l0_10.length c0_10]) (t := 43) ?_; intro gb256 hg w47 hbox hb; have BK256 := Aside0.mk (hbox); have GW256 := gw_ (w := w) hg; have GE256 := gw_ (w := w) hg; replace HB := Aside0.mk (below_step bl_ hb); clear hb hbox hg))
  have n0_ := Aside0.mk (blk_drew BK256.out)
  have n1_ := Aside0.mk (below_drew1 HB.out)
  clear BK256
  clear HB
  have BK256 := n0_
  have HB := n1_
  clear n0_ n1_
  refine start_ (n := 50) (S := fun w' => w'.cell? ⟨gb256, 0, none⟩ = some (.string a0_0) ∧ w'.cell? ⟨gb256, 1, none⟩ = some (.int .i64 a0_1) ∧ w'.cell? ⟨gb256, 2, none⟩ = some (.int .i64 a0_2) ∧ w'.cell? ⟨gb256, 3, none⟩ = some (.int .i64 a0_3) ∧ w'.cell? ⟨gb256, 4, none⟩ = some (.int .i64 a0_4) ∧ w'.cell? ⟨gb256, 5, none⟩ = some (.slice A0_5 l0_5.length c0_5) ∧ w'.cell? ⟨gb256, 6, none⟩ = some (.int .i64 a0_6) ∧ w'.cell? ⟨gb256, 7, none⟩ = some (.int .i64 a0_7) ∧ w'.cell? ⟨gb256, 8, none⟩ = some (.slice A0_8 l0_8.length c0_8) ∧ w'.cell? ⟨gb256, 9, none⟩ = some (.slice A0_9 l0_9.length c0_9) ∧ w'.cell? ⟨gb256, 10, none⟩ = some (.slice A0_10 l0_10.length c0_10)) (ds := []) tb50_0_11 (by kernel_rfl) rfl rfl ⟨cy_ BK256 0, cy_ BK256 1, cy_ BK256 2, cy_ BK256 3, cy_ BK256 4, cy_ BK256 5, cy_ BK256 6, cy_ BK256 7, cy_ BK256 8, cy_ BK256 9, cy_ BK256 10⟩ (fun hHeld => ?_); refine with_tabW impl_AcctOk.tab1 impl_AcctOk.bits1 (fun HT_ HW_ => ?_)
  generalize w47.drew = w48 at BK256 HB hHeld ⊢
  refine pl_ HT_ 0 3 tb50_1_11 ?_
  refine pt_ HT_ HW_ hHeld 1 4 tb50_3_11 ?_
  refine one_ (i := 2) (N := some 5) tb50_7_11 rfl rfl (one_of HT_.out (by kernel_rfl)) (by decide) (fun K hK => ?_)
  refine goes_ Try.func144 (by kernel_rfl) rfl #[.string a0_0] (by rfl) rfl rfl gl_ ?_
  with_reducible refine (impl_AcctIdOk.calls k a0_0 false _ A2.out).mono ?_
  rintro e w' ⟨rfl, ⟨nd, rfl⟩⟩
  refine ⟨_, rfl, ?_⟩
  refine hK.out _ _ ⟨cy_ BK256 0, cy_ BK256 1, cy_ BK256 2, cy_ BK256 3, cy_ BK256 4, cy_ BK256 5, cy_ BK256 6, cy_ BK256 7, cy_ BK256 8, cy_ BK256 9, cy_ BK256 10⟩ (fun hHeld => ?_)
  clear hK K
  refine norm_ (a' := ?_) ?_ ?_
  rotate_left
  ·show Act.put _ (some 5) _ = _
   simp only [Act.put, q_]
   rfl
  refine pl_ HT_ 3 6 tb50_f_11 ?_
  refine pr_ HT_ 4 7 tb50_1f_11 ?_
  refine pr_ HT_ 5 8 tb50_3f_11 ?_
  refine pr_ HT_ 6 9 tb50_7f_11 ?_
  refine pl_ HT_ 7 10 tb50_ff_11 ?_
  refine pl_ HT_ 8 11 tb50_1ff_11 ?_
  refine pr_ HT_ 9 12 tb50_3ff_11 ?_
  refine pr_ HT_ 10 13 tb50_7ff_11 ?_
  refine pr_ HT_ 11 14 tb50_fff_11 ?_
  refine pl_ HT_ 12 15 tb50_1fff_11 ?_
  refine pl_ HT_ 13 16 tb50_3fff_11 ?_
  refine pr_ HT_ 14 17 tb50_7fff_11 ?_
  refine pr_ HT_ 15 18 tb50_ffff_11 ?_
  refine pr_ HT_ 16 19 tb50_1ffff_11 ?_
  refine pl_ HT_ 17 20 tb50_3ffff_11 ?_
  refine pl_ HT_ 18 21 tb50_7ffff_11 ?_
  refine pr_ HT_ 19 22 tb50_fffff_11 ?_
  refine pr_ HT_ 20 23 tb50_1fffff_11 ?_
  refine pr_ HT_ 21 24 tb50_3fffff_11 ?_
  refine pl_ HT_ 22 25 tb50_7fffff_11 ?_
  refine pl_ HT_ 23 26 tb50_ffffff_11 ?_
  refine pr_ HT_ 24 27 tb50_1ffffff_11 ?_
  refine pr_ HT_ 25 28 tb50_3ffffff_11 ?_
  refine pr_ HT_ 26 29 tb50_7ffffff_11 ?_
  refine pl_ HT_ 27 30 tb50_fffffff_11 ?_
  refine pl_ HT_ 28 31 tb50_1fffffff_11 ?_
  refine pr_ HT_ 29 32 tb50_3fffffff_11 ?_
  refine pr_ HT_ 30 33 tb50_7fffffff_11 ?_
  refine pr_ HT_ 31 34 tb50_ffffffff_11 ?_
  refine pl_ HT_ 32 35 tb50_1ffffffff_11 ?_
  refine pl_ HT_ 33 36 tb50_3ffffffff_11 ?_
  refine pr_ HT_ 34 37 tb50_7ffffffff_11 ?_
  refine pr_ HT_ 35 38 tb50_fffffffff_11 ?_
  refine pr_ HT_ 36 39 tb50_1fffffffff_11 ?_
  refine pl_ HT_ 37 40 tb50_3fffffffff_11 ?_
  refine pl_ HT_ 38 41 tb50_7fffffffff_11 ?_
  refine pr_ HT_ 39 42 tb50_ffffffffff_11 ?_
  refine pr_ HT_ 40 43 tb50_1ffffffffff_11 ?_
  refine pr_ HT_ 41 44 tb50_3ffffffffff_11 ?_
  refine pr_ HT_ 42 45 tb50_7ffffffffff_11 ?_
  refine pr_ HT_ 43 46 tb50_fffffffffff_11 ?_
  refine pr_ HT_ 44 47 tb50_1fffffffffff_11 ?_
  refine pr_ HT_ 45 48 tb50_3fffffffffff_11 ?_
  refine pr_ HT_ 46 49 tb50_7fffffffffff_11 ?_
  refine pr_ HT_ 47 50 tb50_ffffffffffff_11 ?_
  refine pl_ HT_ 48 51 tb50_1ffffffffffff_11 ?_
  refine pl_ HT_ 49 2 tb50_3ffffffffffff_11 ?_
  refine done_ (done_of HT_.out (by kernel_rfl)) ?_
  try go_wp2
  go_ret
  exact ⟨sq_, bl_⟩
end Go.Proofs.Ytepjnalkpfnmcaa.QFnExactAcctNew
