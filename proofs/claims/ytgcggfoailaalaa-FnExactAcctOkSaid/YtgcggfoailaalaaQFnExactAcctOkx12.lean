-- by my own printer (myprint.py, over the kit's print.py)
import Derived.Test.YtgcggfoailaalaaQFnExactAcctOkx0
import Derived.Test.YtgcggfoailaalaaQFnExactAcctOkx8
import Derived.Test.YtgcggfoailaalaaQFnExactAcctOkx9
import Derived.Test.YtgcggfoailaalaaQFnExactAcctOkx10
import Derived.Test.YtgcggfoailaalaaQFnExactAcctOkx11
namespace Go.Proofs.Ytgcggfoailaalaa.QFnExactAcctOk
open Go.RowKit Go.Proofs.YtgcggfoailaalaaW.PrintWords Go.Proofs.YtgcggfoailaalaaW.PrintLast Go.Proofs.YtgcggfoailaalaaW.PrintMore
attribute [local go_sem] max2_int min2_int max_two min_two max_three min_three max_four min_four   -- for this text's walks alone
set_option linter.unusedVariables false
set_option linter.unusedSimpArgs false

attribute [local go_sem] my_geq my_leq my_gtr
abbrev tb50_0_12 : Array Bool := #[false, false, false, false, false, false, false, false, false, false, false, false, false, false, false, false, false, false, false, false, false, false, false, false, false, false, false, false, false, false, false, false, false, false, false, false, false, false, false, false, false, false, false, false, false, false, false, false, false, false]
abbrev tb50_1_12 : Array Bool := #[true, false, false, false, false, false, false, false, false, false, false, false, false, false, false, false, false, false, false, false, false, false, false, false, false, false, false, false, false, false, false, false, false, false, false, false, false, false, false, false, false, false, false, false, false, false, false, false, false, false]
abbrev tb50_1f_12 : Array Bool := #[true, true, true, true, true, false, false, false, false, false, false, false, false, false, false, false, false, false, false, false, false, false, false, false, false, false, false, false, false, false, false, false, false, false, false, false, false, false, false, false, false, false, false, false, false, false, false, false, false, false]
abbrev tb50_1ff_12 : Array Bool := #[true, true, true, true, true, true, true, true, true, false, false, false, false, false, false, false, false, false, false, false, false, false, false, false, false, false, false, false, false, false, false, false, false, false, false, false, false, false, false, false, false, false, false, false, false, false, false, false, false, false]
abbrev tb50_1fff_12 : Array Bool := #[true, true, true, true, true, true, true, true, true, true, true, true, true, false, false, false, false, false, false, false, false, false, false, false, false, false, false, false, false, false, false, false, false, false, false, false, false, false, false, false, false, false, false, false, false, false, false, false, false, false]
abbrev tb50_1ffff_12 : Array Bool := #[true, true, true, true, true, true, true, true, true, true, true, true, true, true, true, true, true, false, false, false, false, false, false, false, false, false, false, false, false, false, false, false, false, false, false, false, false, false, false, false, false, false, false, false, false, false, false, false, false, false]
abbrev tb50_1fffff_12 : Array Bool := #[true, true, true, true, true, true, true, true, true, true, true, true, true, true, true, true, true, true, true, true, true, false, false, false, false, false, false, false, false, false, false, false, false, false, false, false, false, false, false, false, false, false, false, false, false, false, false, false, false, false]
abbrev tb50_1ffffff_12 : Array Bool := #[true, true, true, true, true, true, true, true, true, true, true, true, true, true, true, true, true, true, true, true, true, true, true, true, true, false, false, false, false, false, false, false, false, false, false, false, false, false, false, false, false, false, false, false, false, false, false, false, false, false]
abbrev tb50_1fffffff_12 : Array Bool := #[true, true, true, true, true, true, true, true, true, true, true, true, true, true, true, true, true, true, true, true, true, true, true, true, true, true, true, true, true, false, false, false, false, false, false, false, false, false, false, false, false, false, false, false, false, false, false, false, false, false]
abbrev tb50_1ffffffff_12 : Array Bool := #[true, true, true, true, true, true, true, true, true, true, true, true, true, true, true, true, true, true, true, true, true, true, true, true, true, true, true, true, true, true, true, true, true, false, false, false, false, false, false, false, false, false, false, false, false, false, false, false, false, false]
abbrev tb50_1fffffffff_12 : Array Bool := #[true, true, true, true, true, true, true, true, true, true, true, true, true, true, true, true, true, true, true, true, true, true, true, true, true, true, true, true, true, true, true, true, true, true, true, true, true, false, false, false, false, false, false, false, false, false, false, false, false, false]
abbrev tb50_1ffffffffff_12 : Array Bool := #[true, true, true, true, true, true, true, true, true, true, true, true, true, true, true, true, true, true, true, true, true, true, true, true, true, true, true, true, true, true, true, true, true, true, true, true, true, true, true, true, true, false, false, false, false, false, false, false, false, false]
abbrev tb50_1fffffffffff_12 : Array Bool := #[true, true, true, true, true, true, true, true, true, true, true, true, true, true, true, true, true, true, true, true, true, true, true, true, true, true, true, true, true, true, true, true, true, true, true, true, true, true, true, true, true, true, true, true, true, false, false, false, false, false]
abbrev tb50_1ffffffffffff_12 : Array Bool := #[true, true, true, true, true, true, true, true, true, true, true, true, true, true, true, true, true, true, true, true, true, true, true, true, true, true, true, true, true, true, true, true, true, true, true, true, true, true, true, true, true, true, true, true, true, true, true, true, true, false]
abbrev tb50_22ffffffffff_12 : Array Bool := #[true, true, true, true, true, true, true, true, true, true, true, true, true, true, true, true, true, true, true, true, true, true, true, true, true, true, true, true, true, true, true, true, true, true, true, true, true, true, true, true, false, true, false, false, false, true, false, false, false, false]
abbrev tb50_23ffffffffff_12 : Array Bool := #[true, true, true, true, true, true, true, true, true, true, true, true, true, true, true, true, true, true, true, true, true, true, true, true, true, true, true, true, true, true, true, true, true, true, true, true, true, true, true, true, true, true, false, false, false, true, false, false, false, false]
abbrev tb50_27ffffffffff_12 : Array Bool := #[true, true, true, true, true, true, true, true, true, true, true, true, true, true, true, true, true, true, true, true, true, true, true, true, true, true, true, true, true, true, true, true, true, true, true, true, true, true, true, true, true, true, true, false, false, true, false, false, false, false]
abbrev tb50_2ffffffffff_12 : Array Bool := #[true, true, true, true, true, true, true, true, true, true, true, true, true, true, true, true, true, true, true, true, true, true, true, true, true, true, true, true, true, true, true, true, true, true, true, true, true, true, true, true, false, true, false, false, false, false, false, false, false, false]
abbrev tb50_3_12 : Array Bool := #[true, true, false, false, false, false, false, false, false, false, false, false, false, false, false, false, false, false, false, false, false, false, false, false, false, false, false, false, false, false, false, false, false, false, false, false, false, false, false, false, false, false, false, false, false, false, false, false, false, false]
abbrev tb50_3f_12 : Array Bool := #[true, true, true, true, true, true, false, false, false, false, false, false, false, false, false, false, false, false, false, false, false, false, false, false, false, false, false, false, false, false, false, false, false, false, false, false, false, false, false, false, false, false, false, false, false, false, false, false, false, false]
abbrev tb50_3ff_12 : Array Bool := #[true, true, true, true, true, true, true, true, true, true, false, false, false, false, false, false, false, false, false, false, false, false, false, false, false, false, false, false, false, false, false, false, false, false, false, false, false, false, false, false, false, false, false, false, false, false, false, false, false, false]
abbrev tb50_3fff_12 : Array Bool := #[true, true, true, true, true, true, true, true, true, true, true, true, true, true, false, false, false, false, false, false, false, false, false, false, false, false, false, false, false, false, false, false, false, false, false, false, false, false, false, false, false, false, false, false, false, false, false, false, false, false]
abbrev tb50_3ffff_12 : Array Bool := #[true, true, true, true, true, true, true, true, true, true, true, true, true, true, true, true, true, true, false, false, false, false, false, false, false, false, false, false, false, false, false, false, false, false, false, false, false, false, false, false, false, false, false, false, false, false, false, false, false, false]
abbrev tb50_3fffff_12 : Array Bool := #[true, true, true, true, true, true, true, true, true, true, true, true, true, true, true, true, true, true, true, true, true, true, false, false, false, false, false, false, false, false, false, false, false, false, false, false, false, false, false, false, false, false, false, false, false, false, false, false, false, false]
abbrev tb50_3ffffff_12 : Array Bool := #[true, true, true, true, true, true, true, true, true, true, true, true, true, true, true, true, true, true, true, true, true, true, true, true, true, true, false, false, false, false, false, false, false, false, false, false, false, false, false, false, false, false, false, false, false, false, false, false, false, false]
abbrev tb50_3fffffff_12 : Array Bool := #[true, true, true, true, true, true, true, true, true, true, true, true, true, true, true, true, true, true, true, true, true, true, true, true, true, true, true, true, true, true, false, false, false, false, false, false, false, false, false, false, false, false, false, false, false, false, false, false, false, false]
abbrev tb50_3ffffffff_12 : Array Bool := #[true, true, true, true, true, true, true, true, true, true, true, true, true, true, true, true, true, true, true, true, true, true, true, true, true, true, true, true, true, true, true, true, true, true, false, false, false, false, false, false, false, false, false, false, false, false, false, false, false, false]
abbrev tb50_3fffffffff_12 : Array Bool := #[true, true, true, true, true, true, true, true, true, true, true, true, true, true, true, true, true, true, true, true, true, true, true, true, true, true, true, true, true, true, true, true, true, true, true, true, true, true, false, false, false, false, false, false, false, false, false, false, false, false]
abbrev tb50_3ffffffffff_12 : Array Bool := #[true, true, true, true, true, true, true, true, true, true, true, true, true, true, true, true, true, true, true, true, true, true, true, true, true, true, true, true, true, true, true, true, true, true, true, true, true, true, true, true, true, true, false, false, false, false, false, false, false, false]
abbrev tb50_3fffffffffff_12 : Array Bool := #[true, true, true, true, true, true, true, true, true, true, true, true, true, true, true, true, true, true, true, true, true, true, true, true, true, true, true, true, true, true, true, true, true, true, true, true, true, true, true, true, true, true, true, true, true, true, false, false, false, false]
abbrev tb50_3ffffffffffff_12 : Array Bool := #[true, true, true, true, true, true, true, true, true, true, true, true, true, true, true, true, true, true, true, true, true, true, true, true, true, true, true, true, true, true, true, true, true, true, true, true, true, true, true, true, true, true, true, true, true, true, true, true, true, true]
abbrev tb50_67ffffffffff_12 : Array Bool := #[true, true, true, true, true, true, true, true, true, true, true, true, true, true, true, true, true, true, true, true, true, true, true, true, true, true, true, true, true, true, true, true, true, true, true, true, true, true, true, true, true, true, true, false, false, true, true, false, false, false]
abbrev tb50_6fffffffffff_12 : Array Bool := #[true, true, true, true, true, true, true, true, true, true, true, true, true, true, true, true, true, true, true, true, true, true, true, true, true, true, true, true, true, true, true, true, true, true, true, true, true, true, true, true, true, true, true, true, false, true, true, false, false, false]
abbrev tb50_7_12 : Array Bool := #[true, true, true, false, false, false, false, false, false, false, false, false, false, false, false, false, false, false, false, false, false, false, false, false, false, false, false, false, false, false, false, false, false, false, false, false, false, false, false, false, false, false, false, false, false, false, false, false, false, false]
abbrev tb50_7f_12 : Array Bool := #[true, true, true, true, true, true, true, false, false, false, false, false, false, false, false, false, false, false, false, false, false, false, false, false, false, false, false, false, false, false, false, false, false, false, false, false, false, false, false, false, false, false, false, false, false, false, false, false, false, false]
abbrev tb50_7ff_12 : Array Bool := #[true, true, true, true, true, true, true, true, true, true, true, false, false, false, false, false, false, false, false, false, false, false, false, false, false, false, false, false, false, false, false, false, false, false, false, false, false, false, false, false, false, false, false, false, false, false, false, false, false, false]
abbrev tb50_7fff_12 : Array Bool := #[true, true, true, true, true, true, true, true, true, true, true, true, true, true, true, false, false, false, false, false, false, false, false, false, false, false, false, false, false, false, false, false, false, false, false, false, false, false, false, false, false, false, false, false, false, false, false, false, false, false]
abbrev tb50_7ffff_12 : Array Bool := #[true, true, true, true, true, true, true, true, true, true, true, true, true, true, true, true, true, true, true, false, false, false, false, false, false, false, false, false, false, false, false, false, false, false, false, false, false, false, false, false, false, false, false, false, false, false, false, false, false, false]
abbrev tb50_7fffff_12 : Array Bool := #[true, true, true, true, true, true, true, true, true, true, true, true, true, true, true, true, true, true, true, true, true, true, true, false, false, false, false, false, false, false, false, false, false, false, false, false, false, false, false, false, false, false, false, false, false, false, false, false, false, false]
abbrev tb50_7ffffff_12 : Array Bool := #[true, true, true, true, true, true, true, true, true, true, true, true, true, true, true, true, true, true, true, true, true, true, true, true, true, true, true, false, false, false, false, false, false, false, false, false, false, false, false, false, false, false, false, false, false, false, false, false, false, false]
abbrev tb50_7fffffff_12 : Array Bool := #[true, true, true, true, true, true, true, true, true, true, true, true, true, true, true, true, true, true, true, true, true, true, true, true, true, true, true, true, true, true, true, false, false, false, false, false, false, false, false, false, false, false, false, false, false, false, false, false, false, false]
abbrev tb50_7ffffffff_12 : Array Bool := #[true, true, true, true, true, true, true, true, true, true, true, true, true, true, true, true, true, true, true, true, true, true, true, true, true, true, true, true, true, true, true, true, true, true, true, false, false, false, false, false, false, false, false, false, false, false, false, false, false, false]
abbrev tb50_7fffffffff_12 : Array Bool := #[true, true, true, true, true, true, true, true, true, true, true, true, true, true, true, true, true, true, true, true, true, true, true, true, true, true, true, true, true, true, true, true, true, true, true, true, true, true, true, false, false, false, false, false, false, false, false, false, false, false]
abbrev tb50_7ffffffffff_12 : Array Bool := #[true, true, true, true, true, true, true, true, true, true, true, true, true, true, true, true, true, true, true, true, true, true, true, true, true, true, true, true, true, true, true, true, true, true, true, true, true, true, true, true, true, true, true, false, false, false, false, false, false, false]
abbrev tb50_7fffffffffff_12 : Array Bool := #[true, true, true, true, true, true, true, true, true, true, true, true, true, true, true, true, true, true, true, true, true, true, true, true, true, true, true, true, true, true, true, true, true, true, true, true, true, true, true, true, true, true, true, true, true, true, true, false, false, false]
abbrev tb50_f_12 : Array Bool := #[true, true, true, true, false, false, false, false, false, false, false, false, false, false, false, false, false, false, false, false, false, false, false, false, false, false, false, false, false, false, false, false, false, false, false, false, false, false, false, false, false, false, false, false, false, false, false, false, false, false]
abbrev tb50_ff_12 : Array Bool := #[true, true, true, true, true, true, true, true, false, false, false, false, false, false, false, false, false, false, false, false, false, false, false, false, false, false, false, false, false, false, false, false, false, false, false, false, false, false, false, false, false, false, false, false, false, false, false, false, false, false]
abbrev tb50_fff_12 : Array Bool := #[true, true, true, true, true, true, true, true, true, true, true, true, false, false, false, false, false, false, false, false, false, false, false, false, false, false, false, false, false, false, false, false, false, false, false, false, false, false, false, false, false, false, false, false, false, false, false, false, false, false]
abbrev tb50_ffff_12 : Array Bool := #[true, true, true, true, true, true, true, true, true, true, true, true, true, true, true, true, false, false, false, false, false, false, false, false, false, false, false, false, false, false, false, false, false, false, false, false, false, false, false, false, false, false, false, false, false, false, false, false, false, false]
abbrev tb50_fffff_12 : Array Bool := #[true, true, true, true, true, true, true, true, true, true, true, true, true, true, true, true, true, true, true, true, false, false, false, false, false, false, false, false, false, false, false, false, false, false, false, false, false, false, false, false, false, false, false, false, false, false, false, false, false, false]
abbrev tb50_ffffff_12 : Array Bool := #[true, true, true, true, true, true, true, true, true, true, true, true, true, true, true, true, true, true, true, true, true, true, true, true, false, false, false, false, false, false, false, false, false, false, false, false, false, false, false, false, false, false, false, false, false, false, false, false, false, false]
abbrev tb50_fffffff_12 : Array Bool := #[true, true, true, true, true, true, true, true, true, true, true, true, true, true, true, true, true, true, true, true, true, true, true, true, true, true, true, true, false, false, false, false, false, false, false, false, false, false, false, false, false, false, false, false, false, false, false, false, false, false]
abbrev tb50_ffffffff_12 : Array Bool := #[true, true, true, true, true, true, true, true, true, true, true, true, true, true, true, true, true, true, true, true, true, true, true, true, true, true, true, true, true, true, true, true, false, false, false, false, false, false, false, false, false, false, false, false, false, false, false, false, false, false]
abbrev tb50_fffffffff_12 : Array Bool := #[true, true, true, true, true, true, true, true, true, true, true, true, true, true, true, true, true, true, true, true, true, true, true, true, true, true, true, true, true, true, true, true, true, true, true, true, false, false, false, false, false, false, false, false, false, false, false, false, false, false]
abbrev tb50_ffffffffff_12 : Array Bool := #[true, true, true, true, true, true, true, true, true, true, true, true, true, true, true, true, true, true, true, true, true, true, true, true, true, true, true, true, true, true, true, true, true, true, true, true, true, true, true, true, false, false, false, false, false, false, false, false, false, false]
abbrev tb50_fffffffffff_12 : Array Bool := #[true, true, true, true, true, true, true, true, true, true, true, true, true, true, true, true, true, true, true, true, true, true, true, true, true, true, true, true, true, true, true, true, true, true, true, true, true, true, true, true, true, true, true, true, false, false, false, false, false, false]
abbrev tb50_ffffffffffff_12 : Array Bool := #[true, true, true, true, true, true, true, true, true, true, true, true, true, true, true, true, true, true, true, true, true, true, true, true, true, true, true, true, true, true, true, true, true, true, true, true, true, true, true, true, true, true, true, true, true, true, true, true, false, false]
/-! ### impl_AcctOk: function 20 -/
def impl_AcctOk.f (k : Nat) (a0_0 : ByteArray) (a0_1 : Int) (a0_2 : Int) (a0_3 : Int) (a0_4 : Int) (l0_5 : List (S142)) (a0_6 : Int) (a0_7 : Int) (l0_8 : List Int) (l0_9 : List Int) (l0_10 : List (S144)) : Option (Bool) := (impl_AcctIdOk.f k a0_0).bind fun t288 => (if t288 = true then ((impl_within.f a0_1 0 9007199254740992).bind fun t289 => (if t289 = true then ((impl_within.f a0_3 0 1000).bind fun t290 => (if t290 = true then ((impl_within.f a0_4 0 9007199254740992).bind fun t291 => (if t291 = true then ((impl_isMoney.f a0_2).bind fun t292 => (if t292 = true then ((impl_HoldsOk.f k l0_5).bind fun t293 => (if t293 = true then ((impl_RingOk.f k a0_6 a0_7 l0_8 l0_9).bind fun t294 => (if t294 = true then ((impl_SlotsOk.f k l0_10).bind fun t295 => (if t295 = true then ((impl_Stored.f k l0_5).bind fun t296 => ((impl_AddSat.f a0_2 t296).bind fun t297 => (some (decide (t297 ≤ a0_1))))) else (some false))) else (some false))) else (some false))) else (some false))) else (some false))) else (some false))) else (some false))) else (some false))
theorem impl_AcctOk.mono : ∀ a0 a1 a2 a3 a4 a5 a6 a7 a8 a9 a10 k, LeO (impl_AcctOk.f k a0 a1 a2 a3 a4 a5 a6 a7 a8 a9 a10) (impl_AcctOk.f (k + 1) a0 a1 a2 a3 a4 a5 a6 a7 a8 a9 a10) := by
 intro a0 a1 a2 a3 a4 a5 a6 a7 a8 a9 a10 k
 unfold impl_AcctOk.f
 repeat' first
   | (with_reducible exact impl_AcctIdOk.mono _ _)
   | (with_reducible exact impl_HoldsOk.mono _ _)
   | (with_reducible exact impl_RingOk.mono _ _ _ _ _)
   | (with_reducible exact impl_SlotsOk.mono _ _)
   | (with_reducible exact impl_Stored.mono _ _)
   | (with_reducible exact LeO.refl _)
   | (with_reducible exact LeO.none _)
   | (with_reducible refine LeO.ite ?_ ?_)
   | (with_reducible refine LeO.bind ?_ (fun _ => ?_))
   | exact impl_AcctIdOk.mono _ _
   | exact impl_HoldsOk.mono _ _
   | exact impl_RingOk.mono _ _ _ _ _
   | exact impl_SlotsOk.mono _ _
   | exact impl_Stored.mono _ _
   | exact LeO.none _
   | refine LeO.ite ?_ ?_
   | refine LeO.bind ?_ (fun _ => ?_)
def impl_AcctOk.T1 : Bool × List (List Nat × List Nat) := (true, [([], []), ([0], [0]), ([1], [1]), ([2, 2], [2]), ([3], [3]), ([4, 3], [3, 4]), ([5, 3, 3], [3, 5]), ([3, 6], [3, 6]), ([7, 6], [7]), ([8], [8]), ([9, 8], [8, 9]), ([10, 8, 8], [8, 10]), ([8, 11], [8, 11]), ([12, 11], [12]), ([13], [13]), ([14, 13], [13, 14]), ([15, 13, 13], [13, 15]), ([13, 16], [13, 16]), ([17, 16], [17]), ([18], [18]), ([19, 18], [18, 19]), ([20, 18, 18], [18, 20]), ([18, 21], [18, 21]), ([22, 21], [22]), ([23], [23]), ([24, 23], [23, 24]), ([25, 23, 23], [23, 25]), ([23, 26], [23, 26]), ([27, 26], [27]), ([28], [28]), ([29, 28], [28, 29]), ([30, 28, 28], [28, 30]), ([28, 31], [28, 31]), ([32, 31], [32]), ([33], [33]), ([34, 33], [33, 34]), ([35, 33, 33], [33, 35]), ([33, 36], [33, 36]), ([37, 36], [37]), ([38], [38]), ([39, 38], [38, 39]), ([38], [38]), ([41, 38], [38, 41]), ([42, 38, 38], [38, 42]), ([40, 43, 43, 38], [38, 40, 43]), ([38], [38]), ([45, 38], [38, 45]), ([44, 46, 38], [38, 44, 46]), ([38, 47], [38, 47]), ([48, 44, 0, 1, 2, 3, 4, 5, 6, 7, 8, 9, 10, 11, 12, 13, 14, 15, 16, 17, 18, 19, 20, 21, 22, 23, 24, 25, 26, 27, 28, 29, 30, 31, 32, 33, 34, 35, 36, 37, 38, 39, 40, 41, 42, 43, 44, 45, 46, 47, 48], [48])])
def impl_AcctOk.B1 : List Nat := [0, 1, 3, 7, 15, 31, 63, 127, 255, 511, 1023, 2047, 4095, 8191, 16383, 32767, 65535, 131071, 262143, 524287, 1048575, 2097151, 4194303, 8388607, 16777215, 33554431, 67108863, 134217727, 268435455, 536870911, 1073741823, 2147483647, 4294967295, 8589934591, 17179869183, 34359738367, 68719476735, 137438953471, 274877906943, 549755813887, 1099511627775, 549755813887, 2748779069439, 7146825580543, 17592186044415, 549755813887, 35734127902719, 140737488355327, 281474976710655, 562949953421311]
theorem impl_AcctOk.tab1 : rtab .any (opsOf Try.f20 1) = impl_AcctOk.T1 := by kernel_rfl
theorem impl_AcctOk.bits1 : waitsOk impl_AcctOk.T1.2 impl_AcctOk.B1 = true := by kernel_rfl
set_option maxHeartbeats 8000000 in
set_option maxRecDepth 100000 in
theorem impl_AcctOk.calls (k : Nat) (a0_0 : ByteArray) (a0_1 : Int) (a0_2 : Int) (a0_3 : Int) (a0_4 : Int) (A0_5 : Option Addr) (c0_5 : Nat) (l0_5 : List (S142)) (a0_6 : Int) (a0_7 : Int) (A0_8 : Option Addr) (c0_8 : Nat) (l0_8 : List Int) (A0_9 : Option Addr) (c0_9 : Nat) (l0_9 : List Int) (A0_10 : Option Addr) (c0_10 : Nat) (l0_10 : List (S144)) (r : Bool) (w : World) (hr0_5 : Kd.C k142 w A0_5 l0_5.length l0_5) (hc0_5 : l0_5.length ≤ c0_5) (hr0_8 : Kd.C (Kd.int .i64) w A0_8 l0_8.length l0_8) (hc0_8 : l0_8.length ≤ c0_8) (hr0_9 : Kd.C (Kd.int .i64) w A0_9 l0_9.length l0_9) (hc0_9 : l0_9.length ≤ c0_9) (hr0_10 : Kd.C k144 w A0_10 l0_10.length l0_10) (hc0_10 : l0_10.length ≤ c0_10) (h : impl_AcctOk.f k a0_0 a0_1 a0_2 a0_3 a0_4 l0_5 a0_6 a0_7 l0_8 l0_9 l0_10 = some r) :
  Calls Try.prog 20 #[.agg #[.string a0_0, .int .i64 a0_1, .int .i64 a0_2, .int .i64 a0_3, .int .i64 a0_4, .slice A0_5 l0_5.length c0_5, .int .i64 a0_6, .int .i64 a0_7, .slice A0_8 l0_8.length c0_8, .slice A0_9 l0_9.length c0_9, .slice A0_10 l0_10.length c0_10]] w fun e w' => e = .returned (.bool r) ∧ Below w.heap.size w w' := by
 have hu48 := Try.underlying48
 have hu45 := Try.underlying45
 have HR0_5 := Aside0.mk hr0_5
 have HC0_5 := Aside0.mk hc0_5
 clear hr0_5 hc0_5
 have HR0_8 := Aside0.mk hr0_8
 have HC0_8 := Aside0.mk hc0_8
 clear hr0_8 hc0_8
 have HR0_9 := Aside0.mk hr0_9
 have HC0_9 := Aside0.mk hc0_9
 clear hr0_9 hc0_9
 have HR0_10 := Aside0.mk hr0_10
 have HC0_10 := Aside0.mk hc0_10
 clear hr0_10 hc0_10
 have HB := Aside0.mk (Below.refl w.heap.size w)
 have H : ((impl_AcctIdOk.f k a0_0).bind fun t288 => (if t288 = true then ((impl_within.f a0_1 0 9007199254740992).bind fun t289 => (if t289 = true then ((impl_within.f a0_3 0 1000).bind fun t290 => (if t290 = true then ((impl_within.f a0_4 0 9007199254740992).bind fun t291 => (if t291 = true then ((impl_isMoney.f a0_2).bind fun t292 => (if t292 = true then ((impl_HoldsOk.f k l0_5).bind fun t293 => (if t293 = true then ((impl_RingOk.f k a0_6 a0_7 l0_8 l0_9).bind fun t294 => (if t294 = true then ((impl_SlotsOk.f k l0_10).bind fun t295 => (if t295 = true then ((impl_Stored.f k l0_5).bind fun t296 => ((impl_AddSat.f a0_2 t296).bind fun t297 => (some (decide (t297 ≤ a0_1))))) else (some false))) else (some false))) else (some false))) else (some false))) else (some false))) else (some false))) else (some false))) else (some false))) = some r := h
 clear h
 replace H := Option.bind_eq_some_iff.mp H
 obtain ⟨t288, A20, H⟩ := H
 replace H : (if t288 = true then ((impl_within.f a0_1 0 9007199254740992).bind fun t289 => (if t289 = true then ((impl_within.f a0_3 0 1000).bind fun t290 => (if t290 = true then ((impl_within.f a0_4 0 9007199254740992).bind fun t291 => (if t291 = true then ((impl_isMoney.f a0_2).bind fun t292 => (if t292 = true then ((impl_HoldsOk.f k l0_5).bind fun t293 => (if t293 = true then ((impl_RingOk.f k a0_6 a0_7 l0_8 l0_9).bind fun t294 => (if t294 = true then ((impl_SlotsOk.f k l0_10).bind fun t295 => (if t295 = true then ((impl_Stored.f k l0_5).bind fun t296 => ((impl_AddSat.f a0_2 t296).bind fun t297 => (some (decide (t297 ≤ a0_1))))) else (some false))) else (some false))) else (some false))) else (some false))) else (some false))) else (some false))) else (some false))) else (some false)) = some r := H
 have A2 := Aside0.mk A20
 clear A20
 by_cases c3 : t288 = true
 ·subst c3
  have H1 : ((impl_within.f a0_1 0 9007199254740992).bind fun t289 => (if t289 = true then ((impl_within.f a0_3 0 1000).bind fun t290 => (if t290 = true then ((impl_within.f a0_4 0 9007199254740992).bind fun t291 => (if t291 = true then ((impl_isMoney.f a0_2).bind fun t292 => (if t292 = true then ((impl_HoldsOk.f k l0_5).bind fun t293 => (if t293 = true then ((impl_RingOk.f k a0_6 a0_7 l0_8 l0_9).bind fun t294 => (if t294 = true then ((impl_SlotsOk.f k l0_10).bind fun t295 => (if t295 = true then ((impl_Stored.f k l0_5).bind fun t296 => ((impl_AddSat.f a0_2 t296).bind fun t297 => (some (decide (t297 ≤ a0_1))))) else (some false))) else (some false))) else (some false))) else (some false))) else (some false))) else (some false))) else (some false))) = some r := by rw [if_pos rfl] at H; exact H
  clear H
  have H := H1
  clear H1
  replace H := Option.bind_eq_some_iff.mp H
  obtain ⟨t289, A40, H⟩ := H
  replace H : (if t289 = true then ((impl_within.f a0_3 0 1000).bind fun t290 => (if t290 = true then ((impl_within.f a0_4 0 9007199254740992).bind fun t291 => (if t291 = true then ((impl_isMoney.f a0_2).bind fun t292 => (if t292 = true then ((impl_HoldsOk.f k l0_5).bind fun t293 => (if t293 = true then ((impl_RingOk.f k a0_6 a0_7 l0_8 l0_9).bind fun t294 => (if t294 = true then ((impl_SlotsOk.f k l0_10).bind fun t295 => (if t295 = true then ((impl_Stored.f k l0_5).bind fun t296 => ((impl_AddSat.f a0_2 t296).bind fun t297 => (some (decide (t297 ≤ a0_1))))) else (some false))) else (some false))) else (some false))) else (some false))) else (some false))) else (some false))) else (some false)) = some r := H
  have A4 := Aside0.mk A40
  clear A40
  by_cases c5 : t289 = true
  ·subst c5
   have H1 : ((impl_within.f a0_3 0 1000).bind fun t290 => (if t290 = true then ((impl_within.f a0_4 0 9007199254740992).bind fun t291 => (if t291 = true then ((impl_isMoney.f a0_2).bind fun t292 => (if t292 = true then ((impl_HoldsOk.f k l0_5).bind fun t293 => (if t293 = true then ((impl_RingOk.f k a0_6 a0_7 l0_8 l0_9).bind fun t294 => (if t294 = true then ((impl_SlotsOk.f k l0_10).bind fun t295 => (if t295 = true then ((impl_Stored.f k l0_5).bind fun t296 => ((impl_AddSat.f a0_2 t296).bind fun t297 => (some (decide (t297 ≤ a0_1))))) else (some false))) else (some false))) else (some false))) else (some false))) else (some false))) else (some false))) = some r := by rw [if_pos rfl] at H; exact H
   clear H
   have H := H1
   clear H1
   replace H := Option.bind_eq_some_iff.mp H
   obtain ⟨t290, A60, H⟩ := H
   replace H : (if t290 = true then ((impl_within.f a0_4 0 9007199254740992).bind fun t291 => (if t291 = true then ((impl_isMoney.f a0_2).bind fun t292 => (if t292 = true then ((impl_HoldsOk.f k l0_5).bind fun t293 => (if t293 = true then ((impl_RingOk.f k a0_6 a0_7 l0_8 l0_9).bind fun t294 => (if t294 = true then ((impl_SlotsOk.f k l0_10).bind fun t295 => (if t295 = true then ((impl_Stored.f k l0_5).bind fun t296 => ((impl_AddSat.f a0_2 t296).bind fun t297 => (some (decide (t297 ≤ a0_1))))) else (some false))) else (some false))) else (some false))) else (some false))) else (some false))) else (some false)) = some r := H
   have A6 := Aside0.mk A60
   clear A60
   by_cases c7 : t290 = true
   ·subst c7
    have H1 : ((impl_within.f a0_4 0 9007199254740992).bind fun t291 => (if t291 = true then ((impl_isMoney.f a0_2).bind fun t292 => (if t292 = true then ((impl_HoldsOk.f k l0_5).bind fun t293 => (if t293 = true then ((impl_RingOk.f k a0_6 a0_7 l0_8 l0_9).bind fun t294 => (if t294 = true then ((impl_SlotsOk.f k l0_10).bind fun t295 => (if t295 = true then ((impl_Stored.f k l0_5).bind fun t296 => ((impl_AddSat.f a0_2 t296).bind fun t297 => (some (decide (t297 ≤ a0_1))))) else (some false))) else (some false))) else (some false))) else (some false))) else (some false))) = some r := by rw [if_pos rfl] at H; exact H
    clear H
    have H := H1
    clear H1
    replace H := Option.bind_eq_some_iff.mp H
    obtain ⟨t291, A80, H⟩ := H
    replace H : (if t291 = true then ((impl_isMoney.f a0_2).bind fun t292 => (if t292 = true then ((impl_HoldsOk.f k l0_5).bind fun t293 => (if t293 = true then ((impl_RingOk.f k a0_6 a0_7 l0_8 l0_9).bind fun t294 => (if t294 = true then ((impl_SlotsOk.f k l0_10).bind fun t295 => (if t295 = true then ((impl_Stored.f k l0_5).bind fun t296 => ((impl_AddSat.f a0_2 t296).bind fun t297 => (some (decide (t297 ≤ a0_1))))) else (some false))) else (some false))) else (some false))) else (some false))) else (some false)) = some r := H
    have A8 := Aside0.mk A80
    clear A80
    by_cases c9 : t291 = true
    ·subst c9
     have H1 : ((impl_isMoney.f a0_2).bind fun t292 => (if t292 = true then ((impl_HoldsOk.f k l0_5).bind fun t293 => (if t293 = true then ((impl_RingOk.f k a0_6 a0_7 l0_8 l0_9).bind fun t294 => (if t294 = true then ((impl_SlotsOk.f k l0_10).bind fun t295 => (if t295 = true then ((impl_Stored.f k l0_5).bind fun t296 => ((impl_AddSat.f a0_2 t296).bind fun t297 => (some (decide (t297 ≤ a0_1))))) else (some false))) else (some false))) else (some false))) else (some false))) = some r := by rw [if_pos rfl] at H; exact H
     clear H
     have H := H1
     clear H1
     replace H := Option.bind_eq_some_iff.mp H
     obtain ⟨t292, A100, H⟩ := H
     replace H : (if t292 = true then ((impl_HoldsOk.f k l0_5).bind fun t293 => (if t293 = true then ((impl_RingOk.f k a0_6 a0_7 l0_8 l0_9).bind fun t294 => (if t294 = true then ((impl_SlotsOk.f k l0_10).bind fun t295 => (if t295 = true then ((impl_Stored.f k l0_5).bind fun t296 => ((impl_AddSat.f a0_2 t296).bind fun t297 => (some (decide (t297 ≤ a0_1))))) else (some false))) else (some false))) else (some false))) else (some false)) = some r := H
     have A10 := Aside0.mk A100
     clear A100
     by_cases c11 : t292 = true
     ·subst c11
      have H1 : ((impl_HoldsOk.f k l0_5).bind fun t293 => (if t293 = true then ((impl_RingOk.f k a0_6 a0_7 l0_8 l0_9).bind fun t294 => (if t294 = true then ((impl_SlotsOk.f k l0_10).bind fun t295 => (if t295 = true then ((impl_Stored.f k l0_5).bind fun t296 => ((impl_AddSat.f a0_2 t296).bind fun t297 => (some (decide (t297 ≤ a0_1))))) else (some false))) else (some false))) else (some false))) = some r := by rw [if_pos rfl] at H; exact H
      clear H
      have H := H1
      clear H1
      replace H := Option.bind_eq_some_iff.mp H
      obtain ⟨t293, A120, H⟩ := H
      replace H : (if t293 = true then ((impl_RingOk.f k a0_6 a0_7 l0_8 l0_9).bind fun t294 => (if t294 = true then ((impl_SlotsOk.f k l0_10).bind fun t295 => (if t295 = true then ((impl_Stored.f k l0_5).bind fun t296 => ((impl_AddSat.f a0_2 t296).bind fun t297 => (some (decide (t297 ≤ a0_1))))) else (some false))) else (some false))) else (some false)) = some r := H
      have A12 := Aside0.mk A120
      clear A120
      by_cases c13 : t293 = true
      ·subst c13
       have H1 : ((impl_RingOk.f k a0_6 a0_7 l0_8 l0_9).bind fun t294 => (if t294 = true then ((impl_SlotsOk.f k l0_10).bind fun t295 => (if t295 = true then ((impl_Stored.f k l0_5).bind fun t296 => ((impl_AddSat.f a0_2 t296).bind fun t297 => (some (decide (t297 ≤ a0_1))))) else (some false))) else (some false))) = some r := by rw [if_pos rfl] at H; exact H
       clear H
       have H := H1
       clear H1
       replace H := Option.bind_eq_some_iff.mp H
       obtain ⟨t294, A140, H⟩ := H
       replace H : (if t294 = true then ((impl_SlotsOk.f k l0_10).bind fun t295 => (if t295 = true then ((impl_Stored.f k l0_5).bind fun t296 => ((impl_AddSat.f a0_2 t296).bind fun t297 => (some (decide (t297 ≤ a0_1))))) else (some false))) else (some false)) = some r := H
       have A14 := Aside0.mk A140
       clear A140
       by_cases c15 : t294 = true
       ·subst c15
        have H1 : ((impl_SlotsOk.f k l0_10).bind fun t295 => (if t295 = true then ((impl_Stored.f k l0_5).bind fun t296 => ((impl_AddSat.f a0_2 t296).bind fun t297 => (some (decide (t297 ≤ a0_1))))) else (some false))) = some r := by rw [if_pos rfl] at H; exact H
        clear H
        have H := H1
        clear H1
        replace H := Option.bind_eq_some_iff.mp H
        obtain ⟨t295, A160, H⟩ := H
        replace H : (if t295 = true then ((impl_Stored.f k l0_5).bind fun t296 => ((impl_AddSat.f a0_2 t296).bind fun t297 => (some (decide (t297 ≤ a0_1))))) else (some false)) = some r := H
        have A16 := Aside0.mk A160
        clear A160
        by_cases c17 : t295 = true
        ·subst c17
         have H1 : ((impl_Stored.f k l0_5).bind fun t296 => ((impl_AddSat.f a0_2 t296).bind fun t297 => (some (decide (t297 ≤ a0_1))))) = some r := by rw [if_pos rfl] at H; exact H
         clear H
         have H := H1
         clear H1
         replace H := Option.bind_eq_some_iff.mp H
         obtain ⟨t296, A180, H⟩ := H
         replace H : ((impl_AddSat.f a0_2 t296).bind fun t297 => (some (decide (t297 ≤ a0_1)))) = some r := H
         have A18 := Aside0.mk A180
         clear A180
         replace H := Option.bind_eq_some_iff.mp H
         obtain ⟨t297, A190, H⟩ := H
         replace H : (some (decide (t297 ≤ a0_1))) = some r := H
         have A19 := Aside0.mk A190
         clear A190
         obtain rfl := Option.some.inj H
         go_enter Try.func20, Try.ntmps20
         try go_wp2_with (first | ((with_reducible refine gate_dst (N := 1) rfl ?_); refine box_event ?hg (N := 1) ?hd (cs := #[.string a0_0, .int .i64 a0_1, .int .i64 a0_2, .int .i64 a0_3, .int .i64 a0_4, .slice A0_5 l0_5.length c0_5, .int .i64 a0_6, .int .i64 a0_7, .slice A0_8 l0_8.length c0_8, .slice A0_9 l0_9.length c0_9, .slice A0_10 l0_10.length c0_10]) (t := 48) ?hr ?_; (case hd => rfl); (case hg => rfl); (case hr => first | (go_simp; done) | (go_simp; rfl)); intro gb287 hg w20 hbox hb; have n0_ := Aside0.mk (below_step bl_ hb); have n1_ := Aside0.mk (hbox); have n2_ := Aside0.mk ((by rw [hg]; exact (below_size bl_) : w.heap.size ≤ gb287)); have n3_ := Aside0.mk ((by rw [hg]; exact (below_size bl_) : w.heap.size ≤ gb287)); clear HB; have HB := n0_; have BK287 := n1_; have GW287 := n2_; have GE287 := n3_; clear n0_ n1_ n2_ n3_; clear hb hbox hg))
         have n0_ := Aside0.mk (blk_drew BK287.out)
         have n1_ := Aside0.mk (below_drew1 HB.out)
         clear BK287
         clear HB
         have BK287 := n0_
         have HB := n1_
         clear n0_ n1_
         refine start_ (n := 50) (S := fun w' => w'.cell? ⟨gb287, 0, none⟩ = some (.string a0_0) ∧ w'.cell? ⟨gb287, 1, none⟩ = some (.int .i64 a0_1) ∧ w'.cell? ⟨gb287, 2, none⟩ = some (.int .i64 a0_2) ∧ w'.cell? ⟨gb287, 3, none⟩ = some (.int .i64 a0_3) ∧ w'.cell? ⟨gb287, 4, none⟩ = some (.int .i64 a0_4) ∧ w'.cell? ⟨gb287, 5, none⟩ = some (.slice A0_5 l0_5.length c0_5) ∧ w'.cell? ⟨gb287, 6, none⟩ = some (.int .i64 a0_6) ∧ w'.cell? ⟨gb287, 7, none⟩ = some (.int .i64 a0_7) ∧ w'.cell? ⟨gb287, 8, none⟩ = some (.slice A0_8 l0_8.length c0_8) ∧ w'.cell? ⟨gb287, 9, none⟩ = some (.slice A0_9 l0_9.length c0_9) ∧ w'.cell? ⟨gb287, 10, none⟩ = some (.slice A0_10 l0_10.length c0_10)) (ds := []) tb50_0_12 (by kernel_rfl) rfl rfl ⟨cy_ BK287 0, cy_ BK287 1, cy_ BK287 2, cy_ BK287 3, cy_ BK287 4, cy_ BK287 5, cy_ BK287 6, cy_ BK287 7, cy_ BK287 8, cy_ BK287 9, cy_ BK287 10⟩ (fun hHeld => ?_); refine with_tabW impl_AcctOk.tab1 impl_AcctOk.bits1 (fun HT_ HW_ => ?_)
         generalize w20.drew = w21 at BK287 HB hHeld ⊢
         refine pure_ (i := 0) (N := some 3) (v := ?_) (a' := ?_) tb50_1_12 rfl rfl (any_of HT_.out (by kernel_rfl)) (fun _ _ _ h => h) (Or.inl ⟨by rfl, ?_⟩) ?_ ?_
         rotate_left
         ·intro w'
          go_simp
          with_reducible rfl
         rotate_left
         ·simp only [Act.put, q_]
          rfl
         refine take_ (i := 1) (N := some 4) (v := ?_) (a' := ?_) tb50_3_12 rfl rfl (take_ofW HT_.out HW_.out (by kernel_rfl)) (fun _ _ _ h => h) (Or.inl ⟨by rfl, ?_⟩) hHeld ?_ ?_
         rotate_left
         ·rintro w' ⟨s0, s1, s2, s3, s4, s5, s6, s7, s8, s9, s10⟩
          go_simp
          with_reducible rfl
         rotate_left
         ·simp only [Act.put, q_]
          rfl
         refine one_ (i := 2) (N := some 5) tb50_7_12 rfl rfl (one_of HT_.out (by kernel_rfl)) (by decide) (fun K hK => ?_)
         refine goes_ Try.func70 (by kernel_rfl) rfl #[.string a0_0] (by rfl) rfl rfl gl_ ?_
         with_reducible refine (impl_AcctIdOk.calls k a0_0 true _ A2.out).mono ?_
         rintro e w' ⟨rfl, ⟨nd, rfl⟩⟩
         refine ⟨_, rfl, ?_⟩
         refine hK.out _ _ ⟨cy_ BK287 0, cy_ BK287 1, cy_ BK287 2, cy_ BK287 3, cy_ BK287 4, cy_ BK287 5, cy_ BK287 6, cy_ BK287 7, cy_ BK287 8, cy_ BK287 9, cy_ BK287 10⟩ (fun hHeld => ?_)
         clear hK K
         refine norm_ (a' := ?_) ?_ ?_
         rotate_left
         ·show Act.put _ (some 5) _ = _
          simp only [Act.put, q_]
          rfl
         refine pure_ (i := 3) (N := some 6) (v := ?_) (a' := ?_) tb50_f_12 rfl rfl (any_of HT_.out (by kernel_rfl)) (fun _ _ _ h => h) (Or.inl ⟨by rfl, ?_⟩) ?_ ?_
         rotate_left
         ·intro w'
          go_simp
          with_reducible rfl
         rotate_left
         ·simp only [Act.put, q_]
          rfl
         refine pure_ (i := 4) (N := some 7) (v := ?_) (a' := ?_) tb50_1f_12 rfl rfl (any_of HT_.out (by kernel_rfl)) (fun _ _ _ h => h) (Or.inl ⟨by rfl, ?_⟩) ?_ ?_
         rotate_left
         ·intro w'
          go_simp
          with_reducible rfl
         rotate_left
         ·simp only [Act.put, q_]
          rfl
         refine take_ (i := 5) (N := some 8) (v := ?_) (a' := ?_) tb50_3f_12 rfl rfl (take_ofW HT_.out HW_.out (by kernel_rfl)) (fun _ _ _ h => h) (Or.inl ⟨by rfl, ?_⟩) hHeld ?_ ?_
         rotate_left
         ·rintro w' ⟨s0, s1, s2, s3, s4, s5, s6, s7, s8, s9, s10⟩
          go_simp
          with_reducible rfl
         rotate_left
         ·simp only [Act.put, q_]
          rfl
         refine one_ (i := 6) (N := some 9) tb50_7f_12 rfl rfl (one_of HT_.out (by kernel_rfl)) (by decide) (fun K hK => ?_)
         refine goes_ Try.func71 (by kernel_rfl) rfl #[.int .i64 a0_1, .int .i64 0, .int .i64 9007199254740992] (by rfl) rfl rfl gl_ ?_
         with_reducible refine (impl_within.calls a0_1 0 9007199254740992 true _ A4.out).mono ?_
         rintro e w' ⟨rfl, ⟨nd, rfl⟩⟩
         refine ⟨_, rfl, ?_⟩
         refine hK.out _ _ ⟨cy_ BK287 0, cy_ BK287 1, cy_ BK287 2, cy_ BK287 3, cy_ BK287 4, cy_ BK287 5, cy_ BK287 6, cy_ BK287 7, cy_ BK287 8, cy_ BK287 9, cy_ BK287 10⟩ (fun hHeld => ?_)
         clear hK K
         refine norm_ (a' := ?_) ?_ ?_
         rotate_left
         ·show Act.put _ (some 9) _ = _
          simp only [Act.put, q_]
          rfl
         refine pure_ (i := 7) (N := some 10) (v := ?_) (a' := ?_) tb50_ff_12 rfl rfl (any_of HT_.out (by kernel_rfl)) (fun _ _ _ h => h) (Or.inl ⟨by rfl, ?_⟩) ?_ ?_
         rotate_left
         ·intro w'
          go_simp
          with_reducible rfl
         rotate_left
         ·simp only [Act.put, q_]
          rfl
         refine pure_ (i := 8) (N := some 11) (v := ?_) (a' := ?_) tb50_1ff_12 rfl rfl (any_of HT_.out (by kernel_rfl)) (fun _ _ _ h => h) (Or.inl ⟨by rfl, ?_⟩) ?_ ?_
         rotate_left
         ·intro w'
          go_simp
          with_reducible rfl
         rotate_left
         ·simp only [Act.put, q_]
          rfl
         refine pure_ (i := 9) (N := some 12) (v := ?_) (a' := ?_) tb50_3ff_12 rfl rfl (any_of HT_.out (by kernel_rfl)) (fun _ _ _ h => h) (Or.inl ⟨by rfl, ?_⟩) ?_ ?_
         rotate_left
         ·intro w'
          go_simp
          with_reducible rfl
         rotate_left
         ·simp only [Act.put, q_]
          rfl
         refine take_ (i := 10) (N := some 13) (v := ?_) (a' := ?_) tb50_7ff_12 rfl rfl (take_ofW HT_.out HW_.out (by kernel_rfl)) (fun _ _ _ h => h) (Or.inl ⟨by rfl, ?_⟩) hHeld ?_ ?_
         rotate_left
         ·rintro w' ⟨s0, s1, s2, s3, s4, s5, s6, s7, s8, s9, s10⟩
          go_simp
          with_reducible rfl
         rotate_left
         ·simp only [Act.put, q_]
          rfl
         refine one_ (i := 11) (N := some 14) tb50_fff_12 rfl rfl (one_of HT_.out (by kernel_rfl)) (by decide) (fun K hK => ?_)
         refine goes_ Try.func71 (by kernel_rfl) rfl #[.int .i64 a0_3, .int .i64 0, .int .i64 1000] (by rfl) rfl rfl gl_ ?_
         with_reducible refine (impl_within.calls a0_3 0 1000 true _ A6.out).mono ?_
         rintro e w' ⟨rfl, ⟨nd, rfl⟩⟩
         refine ⟨_, rfl, ?_⟩
         refine hK.out _ _ ⟨cy_ BK287 0, cy_ BK287 1, cy_ BK287 2, cy_ BK287 3, cy_ BK287 4, cy_ BK287 5, cy_ BK287 6, cy_ BK287 7, cy_ BK287 8, cy_ BK287 9, cy_ BK287 10⟩ (fun hHeld => ?_)
         clear hK K
         refine norm_ (a' := ?_) ?_ ?_
         rotate_left
         ·show Act.put _ (some 14) _ = _
          simp only [Act.put, q_]
          rfl
         refine pure_ (i := 12) (N := some 15) (v := ?_) (a' := ?_) tb50_1fff_12 rfl rfl (any_of HT_.out (by kernel_rfl)) (fun _ _ _ h => h) (Or.inl ⟨by rfl, ?_⟩) ?_ ?_
         rotate_left
         ·intro w'
          go_simp
          with_reducible rfl
         rotate_left
         ·simp only [Act.put, q_]
          rfl
         refine pure_ (i := 13) (N := some 16) (v := ?_) (a' := ?_) tb50_3fff_12 rfl rfl (any_of HT_.out (by kernel_rfl)) (fun _ _ _ h => h) (Or.inl ⟨by rfl, ?_⟩) ?_ ?_
         rotate_left
         ·intro w'
          go_simp
          with_reducible rfl
         rotate_left
         ·simp only [Act.put, q_]
          rfl
         refine pure_ (i := 14) (N := some 17) (v := ?_) (a' := ?_) tb50_7fff_12 rfl rfl (any_of HT_.out (by kernel_rfl)) (fun _ _ _ h => h) (Or.inl ⟨by rfl, ?_⟩) ?_ ?_
         rotate_left
         ·intro w'
          go_simp
          with_reducible rfl
         rotate_left
         ·simp only [Act.put, q_]
          rfl
         refine take_ (i := 15) (N := some 18) (v := ?_) (a' := ?_) tb50_ffff_12 rfl rfl (take_ofW HT_.out HW_.out (by kernel_rfl)) (fun _ _ _ h => h) (Or.inl ⟨by rfl, ?_⟩) hHeld ?_ ?_
         rotate_left
         ·rintro w' ⟨s0, s1, s2, s3, s4, s5, s6, s7, s8, s9, s10⟩
          go_simp
          with_reducible rfl
         rotate_left
         ·simp only [Act.put, q_]
          rfl
         refine one_ (i := 16) (N := some 19) tb50_1ffff_12 rfl rfl (one_of HT_.out (by kernel_rfl)) (by decide) (fun K hK => ?_)
         refine goes_ Try.func71 (by kernel_rfl) rfl #[.int .i64 a0_4, .int .i64 0, .int .i64 9007199254740992] (by rfl) rfl rfl gl_ ?_
         with_reducible refine (impl_within.calls a0_4 0 9007199254740992 true _ A8.out).mono ?_
         rintro e w' ⟨rfl, ⟨nd, rfl⟩⟩
         refine ⟨_, rfl, ?_⟩
         refine hK.out _ _ ⟨cy_ BK287 0, cy_ BK287 1, cy_ BK287 2, cy_ BK287 3, cy_ BK287 4, cy_ BK287 5, cy_ BK287 6, cy_ BK287 7, cy_ BK287 8, cy_ BK287 9, cy_ BK287 10⟩ (fun hHeld => ?_)
         clear hK K
         refine norm_ (a' := ?_) ?_ ?_
         rotate_left
         ·show Act.put _ (some 19) _ = _
          simp only [Act.put, q_]
          rfl
         refine pure_ (i := 17) (N := some 20) (v := ?_) (a' := ?_) tb50_3ffff_12 rfl rfl (any_of HT_.out (by kernel_rfl)) (fun _ _ _ h => h) (Or.inl ⟨by rfl, ?_⟩) ?_ ?_
         rotate_left
         ·intro w'
          go_simp
          with_reducible rfl
         rotate_left
         ·simp only [Act.put, q_]
          rfl
         refine pure_ (i := 18) (N := some 21) (v := ?_) (a' := ?_) tb50_7ffff_12 rfl rfl (any_of HT_.out (by kernel_rfl)) (fun _ _ _ h => h) (Or.inl ⟨by rfl, ?_⟩) ?_ ?_
         rotate_left
         ·intro w'
          go_simp
          with_reducible rfl
         rotate_left
         ·simp only [Act.put, q_]
          rfl
         refine pure_ (i := 19) (N := some 22) (v := ?_) (a' := ?_) tb50_fffff_12 rfl rfl (any_of HT_.out (by kernel_rfl)) (fun _ _ _ h => h) (Or.inl ⟨by rfl, ?_⟩) ?_ ?_
         rotate_left
         ·intro w'
          go_simp
          with_reducible rfl
         rotate_left
         ·simp only [Act.put, q_]
          rfl
         refine take_ (i := 20) (N := some 23) (v := ?_) (a' := ?_) tb50_1fffff_12 rfl rfl (take_ofW HT_.out HW_.out (by kernel_rfl)) (fun _ _ _ h => h) (Or.inl ⟨by rfl, ?_⟩) hHeld ?_ ?_
         rotate_left
         ·rintro w' ⟨s0, s1, s2, s3, s4, s5, s6, s7, s8, s9, s10⟩
          go_simp
          with_reducible rfl
         rotate_left
         ·simp only [Act.put, q_]
          rfl
         refine one_ (i := 21) (N := some 24) tb50_3fffff_12 rfl rfl (one_of HT_.out (by kernel_rfl)) (by decide) (fun K hK => ?_)
         refine goes_ Try.func72 (by kernel_rfl) rfl #[.int .i64 a0_2] (by rfl) rfl rfl gl_ ?_
         with_reducible refine (impl_isMoney.calls a0_2 true _ A10.out).mono ?_
         rintro e w' ⟨rfl, ⟨nd, rfl⟩⟩
         refine ⟨_, rfl, ?_⟩
         refine hK.out _ _ ⟨cy_ BK287 0, cy_ BK287 1, cy_ BK287 2, cy_ BK287 3, cy_ BK287 4, cy_ BK287 5, cy_ BK287 6, cy_ BK287 7, cy_ BK287 8, cy_ BK287 9, cy_ BK287 10⟩ (fun hHeld => ?_)
         clear hK K
         refine norm_ (a' := ?_) ?_ ?_
         rotate_left
         ·show Act.put _ (some 24) _ = _
          simp only [Act.put, q_]
          rfl
         refine pure_ (i := 22) (N := some 25) (v := ?_) (a' := ?_) tb50_7fffff_12 rfl rfl (any_of HT_.out (by kernel_rfl)) (fun _ _ _ h => h) (Or.inl ⟨by rfl, ?_⟩) ?_ ?_
         rotate_left
         ·intro w'
          go_simp
          with_reducible rfl
         rotate_left
         ·simp only [Act.put, q_]
          rfl
         refine pure_ (i := 23) (N := some 26) (v := ?_) (a' := ?_) tb50_ffffff_12 rfl rfl (any_of HT_.out (by kernel_rfl)) (fun _ _ _ h => h) (Or.inl ⟨by rfl, ?_⟩) ?_ ?_
         rotate_left
         ·intro w'
          go_simp
          with_reducible rfl
         rotate_left
         ·simp only [Act.put, q_]
          rfl
         refine pure_ (i := 24) (N := some 27) (v := ?_) (a' := ?_) tb50_1ffffff_12 rfl rfl (any_of HT_.out (by kernel_rfl)) (fun _ _ _ h => h) (Or.inl ⟨by rfl, ?_⟩) ?_ ?_
         rotate_left
         ·intro w'
          go_simp
          with_reducible rfl
         rotate_left
         ·simp only [Act.put, q_]
          rfl
         refine take_ (i := 25) (N := some 28) (v := ?_) (a' := ?_) tb50_3ffffff_12 rfl rfl (take_ofW HT_.out HW_.out (by kernel_rfl)) (fun _ _ _ h => h) (Or.inl ⟨by rfl, ?_⟩) hHeld ?_ ?_
         rotate_left
         ·rintro w' ⟨s0, s1, s2, s3, s4, s5, s6, s7, s8, s9, s10⟩
          go_simp
          with_reducible rfl
         rotate_left
         ·simp only [Act.put, q_]
          rfl
         refine one_ (i := 26) (N := some 29) tb50_7ffffff_12 rfl rfl (one_of HT_.out (by kernel_rfl)) (by decide) (fun K hK => ?_)
         refine goes_ Try.func73 (by kernel_rfl) rfl #[.slice A0_5 l0_5.length c0_5] (by rfl) rfl rfl gl_ ?_
         with_reducible refine (impl_HoldsOk.calls k _ _ l0_5 true _ ?side1 ?side2 A12.out).mono ?_
         (case side1 => exact ca_ (Kd.C_below HR0_5.out bl_))
         (case side2 => exact HC0_5.out)
         rintro e w22 ⟨rfl, hb⟩
         refine ⟨_, rfl, ?_⟩
         have n0_ := Aside0.mk (blk_below (bk_ BK287) hb)
         have n1_ := Aside0.mk (below_step bl_ hb)
         clear BK287
         clear HB
         have BK287 := n0_
         have HB := n1_
         clear n0_ n1_
         (try clear hb)
         (try clear hb2)
         (try clear hk)
         (try clear hi)
         refine hK.out _ _ ⟨cy_ BK287 0, cy_ BK287 1, cy_ BK287 2, cy_ BK287 3, cy_ BK287 4, cy_ BK287 5, cy_ BK287 6, cy_ BK287 7, cy_ BK287 8, cy_ BK287 9, cy_ BK287 10⟩ (fun hHeld => ?_)
         clear hK K
         refine norm_ (a' := ?_) ?_ ?_
         rotate_left
         ·show Act.put _ (some 29) _ = _
          simp only [Act.put, q_]
          rfl
         refine pure_ (i := 27) (N := some 30) (v := ?_) (a' := ?_) tb50_fffffff_12 rfl rfl (any_of HT_.out (by kernel_rfl)) (fun _ _ _ h => h) (Or.inl ⟨by rfl, ?_⟩) ?_ ?_
         rotate_left
         ·intro w'
          go_simp
          with_reducible rfl
         rotate_left
         ·simp only [Act.put, q_]
          rfl
         refine pure_ (i := 28) (N := some 31) (v := ?_) (a' := ?_) tb50_1fffffff_12 rfl rfl (any_of HT_.out (by kernel_rfl)) (fun _ _ _ h => h) (Or.inl ⟨by rfl, ?_⟩) ?_ ?_
         rotate_left
         ·intro w'
          go_simp
          with_reducible rfl
         rotate_left
         ·simp only [Act.put, q_]
          rfl
         refine pure_ (i := 29) (N := some 32) (v := ?_) (a' := ?_) tb50_3fffffff_12 rfl rfl (any_of HT_.out (by kernel_rfl)) (fun _ _ _ h => h) (Or.inl ⟨by rfl, ?_⟩) ?_ ?_
         rotate_left
         ·intro w'
          go_simp
          with_reducible rfl
         rotate_left
         ·simp only [Act.put, q_]
          rfl
         refine take_ (i := 30) (N := some 33) (v := ?_) (a' := ?_) tb50_7fffffff_12 rfl rfl (take_ofW HT_.out HW_.out (by kernel_rfl)) (fun _ _ _ h => h) (Or.inl ⟨by rfl, ?_⟩) hHeld ?_ ?_
         rotate_left
         ·rintro w' ⟨s0, s1, s2, s3, s4, s5, s6, s7, s8, s9, s10⟩
          go_simp
          with_reducible rfl
         rotate_left
         ·simp only [Act.put, q_]
          rfl
         refine one_ (i := 31) (N := some 34) tb50_ffffffff_12 rfl rfl (one_of HT_.out (by kernel_rfl)) (by decide) (fun K hK => ?_)
         refine goes_ Try.func74 (by kernel_rfl) rfl #[.agg #[.int .i64 a0_6, .int .i64 a0_7, .slice A0_8 l0_8.length c0_8, .slice A0_9 l0_9.length c0_9]] (by rfl) rfl rfl gl_ ?_
         with_reducible refine (impl_RingOk.calls k a0_6 a0_7 (fun k_ => k_ < w.heap.size) _ _ l0_8 (fun k_ => k_ < w.heap.size) _ _ l0_9 true _ ?side1 ?side2 A14.out).mono ?_
         (case side1 => exact Kd.V_mk HC0_8.out (Kd.F_below (Kd.C_F (Kd.heap_int .i64) HR0_8.out) bl_))
         (case side2 => exact Kd.V_mk HC0_9.out (Kd.F_below (Kd.C_F (Kd.heap_int .i64) HR0_9.out) bl_))
         rintro e w23 ⟨rfl, hb⟩
         refine ⟨_, rfl, ?_⟩
         have n0_ := Aside0.mk (blk_below (bk_ BK287) hb)
         have n1_ := Aside0.mk (below_step bl_ hb)
         clear BK287
         clear HB
         have BK287 := n0_
         have HB := n1_
         clear n0_ n1_
         (try clear hb)
         (try clear hb2)
         (try clear hk)
         (try clear hi)
         refine hK.out _ _ ⟨cy_ BK287 0, cy_ BK287 1, cy_ BK287 2, cy_ BK287 3, cy_ BK287 4, cy_ BK287 5, cy_ BK287 6, cy_ BK287 7, cy_ BK287 8, cy_ BK287 9, cy_ BK287 10⟩ (fun hHeld => ?_)
         clear hK K
         refine norm_ (a' := ?_) ?_ ?_
         rotate_left
         ·show Act.put _ (some 34) _ = _
          simp only [Act.put, q_]
          rfl
         refine pure_ (i := 32) (N := some 35) (v := ?_) (a' := ?_) tb50_1ffffffff_12 rfl rfl (any_of HT_.out (by kernel_rfl)) (fun _ _ _ h => h) (Or.inl ⟨by rfl, ?_⟩) ?_ ?_
         rotate_left
         ·intro w'
          go_simp
          with_reducible rfl
         rotate_left
         ·simp only [Act.put, q_]
          rfl
         refine pure_ (i := 33) (N := some 36) (v := ?_) (a' := ?_) tb50_3ffffffff_12 rfl rfl (any_of HT_.out (by kernel_rfl)) (fun _ _ _ h => h) (Or.inl ⟨by rfl, ?_⟩) ?_ ?_
         rotate_left
         ·intro w'
          go_simp
          with_reducible rfl
         rotate_left
         ·simp only [Act.put, q_]
          rfl
         refine pure_ (i := 34) (N := some 37) (v := ?_) (a' := ?_) tb50_7ffffffff_12 rfl rfl (any_of HT_.out (by kernel_rfl)) (fun _ _ _ h => h) (Or.inl ⟨by rfl, ?_⟩) ?_ ?_
         rotate_left
         ·intro w'
          go_simp
          with_reducible rfl
         rotate_left
         ·simp only [Act.put, q_]
          rfl
         refine take_ (i := 35) (N := some 38) (v := ?_) (a' := ?_) tb50_fffffffff_12 rfl rfl (take_ofW HT_.out HW_.out (by kernel_rfl)) (fun _ _ _ h => h) (Or.inl ⟨by rfl, ?_⟩) hHeld ?_ ?_
         rotate_left
         ·rintro w' ⟨s0, s1, s2, s3, s4, s5, s6, s7, s8, s9, s10⟩
          go_simp
          with_reducible rfl
         rotate_left
         ·simp only [Act.put, q_]
          rfl
         refine one_ (i := 36) (N := some 39) tb50_1fffffffff_12 rfl rfl (one_of HT_.out (by kernel_rfl)) (by decide) (fun K hK => ?_)
         refine goes_ Try.func75 (by kernel_rfl) rfl #[.slice A0_10 l0_10.length c0_10] (by rfl) rfl rfl gl_ ?_
         with_reducible refine (impl_SlotsOk.calls k _ _ l0_10 true _ ?side1 ?side2 A16.out).mono ?_
         (case side1 => exact ca_ (Kd.C_below HR0_10.out HB.out))
         (case side2 => exact HC0_10.out)
         rintro e w24 ⟨rfl, hb⟩
         refine ⟨_, rfl, ?_⟩
         have n0_ := Aside0.mk (blk_below (bk_ BK287) hb)
         have n1_ := Aside0.mk (below_step bl_ hb)
         clear BK287
         clear HB
         have BK287 := n0_
         have HB := n1_
         clear n0_ n1_
         (try clear hb)
         (try clear hb2)
         (try clear hk)
         (try clear hi)
         refine hK.out _ _ ⟨cy_ BK287 0, cy_ BK287 1, cy_ BK287 2, cy_ BK287 3, cy_ BK287 4, cy_ BK287 5, cy_ BK287 6, cy_ BK287 7, cy_ BK287 8, cy_ BK287 9, cy_ BK287 10⟩ (fun hHeld => ?_)
         clear hK K
         refine norm_ (a' := ?_) ?_ ?_
         rotate_left
         ·show Act.put _ (some 39) _ = _
          simp only [Act.put, q_]
          rfl
         refine pure_ (i := 37) (N := some 40) (v := ?_) (a' := ?_) tb50_3fffffffff_12 rfl rfl (any_of HT_.out (by kernel_rfl)) (fun _ _ _ h => h) (Or.inl ⟨by rfl, ?_⟩) ?_ ?_
         rotate_left
         ·intro w'
          go_simp
          with_reducible rfl
         rotate_left
         ·simp only [Act.put, q_]
          rfl
         refine pure_ (i := 38) (N := some 41) (v := ?_) (a' := ?_) tb50_7fffffffff_12 rfl rfl (any_of HT_.out (by kernel_rfl)) (fun _ _ _ h => h) (Or.inl ⟨by rfl, ?_⟩) ?_ ?_
         rotate_left
         ·intro w'
          go_simp
          with_reducible rfl
         rotate_left
         ·simp only [Act.put, q_]
          rfl
         refine pure_ (i := 39) (N := some 42) (v := ?_) (a' := ?_) tb50_ffffffffff_12 rfl rfl (any_of HT_.out (by kernel_rfl)) (fun _ _ _ h => h) (Or.inl ⟨by rfl, ?_⟩) ?_ ?_
         rotate_left
         ·intro w'
          go_simp
          with_reducible rfl
         rotate_left
         ·simp only [Act.put, q_]
          rfl
         refine pure_ (i := 41) (N := some 44) (v := ?_) (a' := ?_) tb50_2ffffffffff_12 rfl rfl (any_of HT_.out (by kernel_rfl)) (fun _ _ _ h => h) (Or.inl ⟨by rfl, ?_⟩) ?_ ?_
         rotate_left
         ·intro w'
          go_simp
          with_reducible rfl
         rotate_left
         ·simp only [Act.put, q_]
          rfl
         refine pure_ (i := 45) (N := some 48) (v := ?_) (a' := ?_) tb50_22ffffffffff_12 rfl rfl (any_of HT_.out (by kernel_rfl)) (fun _ _ _ h => h) (Or.inl ⟨by rfl, ?_⟩) ?_ ?_
         rotate_left
         ·intro w'
          go_simp
          with_reducible rfl
         rotate_left
         ·simp only [Act.put, q_]
          rfl
         refine take_ (i := 40) (N := some 43) (v := ?_) (a' := ?_) tb50_23ffffffffff_12 rfl rfl (take_ofW HT_.out HW_.out (by kernel_rfl)) (fun _ _ _ h => h) (Or.inl ⟨by rfl, ?_⟩) hHeld ?_ ?_
         rotate_left
         ·rintro w' ⟨s0, s1, s2, s3, s4, s5, s6, s7, s8, s9, s10⟩
          go_simp
          with_reducible rfl
         rotate_left
         ·simp only [Act.put, q_]
          rfl
         refine take_ (i := 42) (N := some 45) (v := ?_) (a' := ?_) tb50_27ffffffffff_12 rfl rfl (take_ofW HT_.out HW_.out (by kernel_rfl)) (fun _ _ _ h => h) (Or.inl ⟨by rfl, ?_⟩) hHeld ?_ ?_
         rotate_left
         ·rintro w' ⟨s0, s1, s2, s3, s4, s5, s6, s7, s8, s9, s10⟩
          go_simp
          with_reducible rfl
         rotate_left
         ·simp only [Act.put, q_]
          rfl
         refine take_ (i := 46) (N := some 49) (v := ?_) (a' := ?_) tb50_67ffffffffff_12 rfl rfl (take_ofW HT_.out HW_.out (by kernel_rfl)) (fun _ _ _ h => h) (Or.inl ⟨by rfl, ?_⟩) hHeld ?_ ?_
         rotate_left
         ·rintro w' ⟨s0, s1, s2, s3, s4, s5, s6, s7, s8, s9, s10⟩
          go_simp
          with_reducible rfl
         rotate_left
         ·simp only [Act.put, q_]
          rfl
         refine one_ (i := 43) (N := some 46) tb50_6fffffffffff_12 rfl rfl (one_of HT_.out (by kernel_rfl)) (by decide) (fun K hK => ?_)
         refine goes_ Try.func77 (by kernel_rfl) rfl #[.slice A0_5 l0_5.length c0_5] (by rfl) rfl rfl gl_ ?_
         with_reducible refine (impl_Stored.calls k _ _ l0_5 t296 _ ?side1 ?side2 A18.out).mono ?_
         (case side1 => exact ca_ (Kd.C_below HR0_5.out HB.out))
         (case side2 => exact HC0_5.out)
         rintro e w25 ⟨rfl, hb⟩
         refine ⟨_, rfl, ?_⟩
         have n0_ := Aside0.mk (blk_below (bk_ BK287) hb)
         have n1_ := Aside0.mk (below_step bl_ hb)
         clear BK287
         clear HB
         have BK287 := n0_
         have HB := n1_
         clear n0_ n1_
         (try clear hb)
         (try clear hb2)
         (try clear hk)
         (try clear hi)
         refine hK.out _ _ ⟨cy_ BK287 0, cy_ BK287 1, cy_ BK287 2, cy_ BK287 3, cy_ BK287 4, cy_ BK287 5, cy_ BK287 6, cy_ BK287 7, cy_ BK287 8, cy_ BK287 9, cy_ BK287 10⟩ (fun hHeld => ?_)
         clear hK K
         refine norm_ (a' := ?_) ?_ ?_
         rotate_left
         ·show Act.put _ (some 46) _ = _
          simp only [Act.put, q_]
          rfl
         refine one_ (i := 44) (N := some 47) tb50_7fffffffffff_12 rfl rfl (one_of HT_.out (by kernel_rfl)) (by decide) (fun K hK => ?_)
         refine goes_ Try.func76 (by kernel_rfl) rfl #[.int .i64 a0_2, .int .i64 t296] (by rfl) rfl rfl gl_ ?_
         with_reducible refine (impl_AddSat.calls a0_2 t296 t297 _ A19.out).mono ?_
         rintro e w26 ⟨rfl, hb⟩
         refine ⟨_, rfl, ?_⟩
         have n0_ := Aside0.mk (blk_below (bk_ BK287) hb)
         have n1_ := Aside0.mk (below_step bl_ hb)
         clear BK287
         clear HB
         have BK287 := n0_
         have HB := n1_
         clear n0_ n1_
         (try clear hb)
         (try clear hb2)
         (try clear hk)
         (try clear hi)
         refine hK.out _ _ ⟨cy_ BK287 0, cy_ BK287 1, cy_ BK287 2, cy_ BK287 3, cy_ BK287 4, cy_ BK287 5, cy_ BK287 6, cy_ BK287 7, cy_ BK287 8, cy_ BK287 9, cy_ BK287 10⟩ (fun hHeld => ?_)
         clear hK K
         refine norm_ (a' := ?_) ?_ ?_
         rotate_left
         ·show Act.put _ (some 47) _ = _
          simp only [Act.put, q_]
          rfl
         refine pure_ (i := 47) (N := some 50) (v := ?_) (a' := ?_) tb50_ffffffffffff_12 rfl rfl (any_of HT_.out (by kernel_rfl)) (fun _ _ _ h => h) (Or.inl ⟨by rfl, ?_⟩) ?_ ?_
         rotate_left
         ·intro w'
          go_simp
          with_reducible rfl
         rotate_left
         ·simp only [Act.put, q_]
          rfl
         refine pure_ (i := 48) (N := some 51) (v := ?_) (a' := ?_) tb50_1ffffffffffff_12 rfl rfl (any_of HT_.out (by kernel_rfl)) (fun _ _ _ h => h) (Or.inl ⟨by rfl, ?_⟩) ?_ ?_
         rotate_left
         ·intro w'
          go_simp
          with_reducible rfl
         rotate_left
         ·simp only [Act.put, q_]
          rfl
         refine pure_ (i := 49) (N := some 2) (v := ?_) (a' := ?_) tb50_3ffffffffffff_12 rfl rfl (any_of HT_.out (by kernel_rfl)) (fun _ _ _ h => h) (Or.inl ⟨by rfl, ?_⟩) ?_ ?_
         rotate_left
         ·intro w'
          go_simp
          with_reducible rfl
         rotate_left
         ·simp only [Act.put, q_]
          rfl
         refine done_ (done_of HT_.out (by kernel_rfl)) ?_
         try go_wp2
         go_ret
         exact ⟨by first | rfl | (simp [errW_none, errW_some] <;> rfl) | (simp [*, errW_none, errW_some] <;> rfl), bl_⟩
        ·replace c17 := Bool.eq_false_iff.mpr c17
         subst c17
         have H1 : (some false) = some r := by rw [if_neg (show ¬ (false = true) by decide)] at H; exact H
         clear H
         have H := H1
         clear H1
         obtain rfl := Option.some.inj H
         go_enter Try.func20, Try.ntmps20
         try go_wp2_with (first | ((with_reducible refine gate_dst (N := 1) rfl ?_); refine box_event ?hg (N := 1) ?hd (cs := #[.string a0_0, .int .i64 a0_1, .int .i64 a0_2, .int .i64 a0_3, .int .i64 a0_4, .slice A0_5 l0_5.length c0_5, .int .i64 a0_6, .int .i64 a0_7, .slice A0_8 l0_8.length c0_8, .slice A0_9 l0_9.length c0_9, .slice A0_10 l0_10.length c0_10]) (t := 48) ?hr ?_; (case hd => rfl); (case hg => rfl); (case hr => first | (go_simp; done) | (go_simp; rfl)); intro gb287 hg w27 hbox hb; have n0_ := Aside0.mk (below_step bl_ hb); have n1_ := Aside0.mk (hbox); have n2_ := Aside0.mk ((by rw [hg]; exact (below_size bl_) : w.heap.size ≤ gb287)); have n3_ := Aside0.mk ((by rw [hg]; exact (below_size bl_) : w.heap.size ≤ gb287)); clear HB; have HB := n0_; have BK287 := n1_; have GW287 := n2_; have GE287 := n3_; clear n0_ n1_ n2_ n3_; clear hb hbox hg))
         have n0_ := Aside0.mk (blk_drew BK287.out)
         have n1_ := Aside0.mk (below_drew1 HB.out)
         clear BK287
         clear HB
         have BK287 := n0_
         have HB := n1_
         clear n0_ n1_
         refine start_ (n := 50) (S := fun w' => w'.cell? ⟨gb287, 0, none⟩ = some (.string a0_0) ∧ w'.cell? ⟨gb287, 1, none⟩ = some (.int .i64 a0_1) ∧ w'.cell? ⟨gb287, 2, none⟩ = some (.int .i64 a0_2) ∧ w'.cell? ⟨gb287, 3, none⟩ = some (.int .i64 a0_3) ∧ w'.cell? ⟨gb287, 4, none⟩ = some (.int .i64 a0_4) ∧ w'.cell? ⟨gb287, 5, none⟩ = some (.slice A0_5 l0_5.length c0_5) ∧ w'.cell? ⟨gb287, 6, none⟩ = some (.int .i64 a0_6) ∧ w'.cell? ⟨gb287, 7, none⟩ = some (.int .i64 a0_7) ∧ w'.cell? ⟨gb287, 8, none⟩ = some (.slice A0_8 l0_8.length c0_8) ∧ w'.cell? ⟨gb287, 9, none⟩ = some (.slice A0_9 l0_9.length c0_9) ∧ w'.cell? ⟨gb287, 10, none⟩ = some (.slice A0_10 l0_10.length c0_10)) (ds := []) tb50_0_12 (by kernel_rfl) rfl rfl ⟨cy_ BK287 0, cy_ BK287 1, cy_ BK287 2, cy_ BK287 3, cy_ BK287 4, cy_ BK287 5, cy_ BK287 6, cy_ BK287 7, cy_ BK287 8, cy_ BK287 9, cy_ BK287 10⟩ (fun hHeld => ?_); refine with_tabW impl_AcctOk.tab1 impl_AcctOk.bits1 (fun HT_ HW_ => ?_)
         generalize w27.drew = w28 at BK287 HB hHeld ⊢
         refine pure_ (i := 0) (N := some 3) (v := ?_) (a' := ?_) tb50_1_12 rfl rfl (any_of HT_.out (by kernel_rfl)) (fun _ _ _ h => h) (Or.inl ⟨by rfl, ?_⟩) ?_ ?_
         rotate_left
         ·intro w'
          go_simp
          with_reducible rfl
         rotate_left
         ·simp only [Act.put, q_]
          rfl
         refine take_ (i := 1) (N := some 4) (v := ?_) (a' := ?_) tb50_3_12 rfl rfl (take_ofW HT_.out HW_.out (by kernel_rfl)) (fun _ _ _ h => h) (Or.inl ⟨by rfl, ?_⟩) hHeld ?_ ?_
         rotate_left
         ·rintro w' ⟨s0, s1, s2, s3, s4, s5, s6, s7, s8, s9, s10⟩
          go_simp
          with_reducible rfl
         rotate_left
         ·simp only [Act.put, q_]
          rfl
         refine one_ (i := 2) (N := some 5) tb50_7_12 rfl rfl (one_of HT_.out (by kernel_rfl)) (by decide) (fun K hK => ?_)
         refine goes_ Try.func70 (by kernel_rfl) rfl #[.string a0_0] (by rfl) rfl rfl gl_ ?_
         with_reducible refine (impl_AcctIdOk.calls k a0_0 true _ A2.out).mono ?_
         rintro e w' ⟨rfl, ⟨nd, rfl⟩⟩
         refine ⟨_, rfl, ?_⟩
         refine hK.out _ _ ⟨cy_ BK287 0, cy_ BK287 1, cy_ BK287 2, cy_ BK287 3, cy_ BK287 4, cy_ BK287 5, cy_ BK287 6, cy_ BK287 7, cy_ BK287 8, cy_ BK287 9, cy_ BK287 10⟩ (fun hHeld => ?_)
         clear hK K
         refine norm_ (a' := ?_) ?_ ?_
         rotate_left
         ·show Act.put _ (some 5) _ = _
          simp only [Act.put, q_]
          rfl
         refine pure_ (i := 3) (N := some 6) (v := ?_) (a' := ?_) tb50_f_12 rfl rfl (any_of HT_.out (by kernel_rfl)) (fun _ _ _ h => h) (Or.inl ⟨by rfl, ?_⟩) ?_ ?_
         rotate_left
         ·intro w'
          go_simp
          with_reducible rfl
         rotate_left
         ·simp only [Act.put, q_]
          rfl
         refine pure_ (i := 4) (N := some 7) (v := ?_) (a' := ?_) tb50_1f_12 rfl rfl (any_of HT_.out (by kernel_rfl)) (fun _ _ _ h => h) (Or.inl ⟨by rfl, ?_⟩) ?_ ?_
         rotate_left
         ·intro w'
          go_simp
          with_reducible rfl
         rotate_left
         ·simp only [Act.put, q_]
          rfl
         refine take_ (i := 5) (N := some 8) (v := ?_) (a' := ?_) tb50_3f_12 rfl rfl (take_ofW HT_.out HW_.out (by kernel_rfl)) (fun _ _ _ h => h) (Or.inl ⟨by rfl, ?_⟩) hHeld ?_ ?_
         rotate_left
         ·rintro w' ⟨s0, s1, s2, s3, s4, s5, s6, s7, s8, s9, s10⟩
          go_simp
          with_reducible rfl
         rotate_left
         ·simp only [Act.put, q_]
          rfl
         refine one_ (i := 6) (N := some 9) tb50_7f_12 rfl rfl (one_of HT_.out (by kernel_rfl)) (by decide) (fun K hK => ?_)
         refine goes_ Try.func71 (by kernel_rfl) rfl #[.int .i64 a0_1, .int .i64 0, .int .i64 9007199254740992] (by rfl) rfl rfl gl_ ?_
         with_reducible refine (impl_within.calls a0_1 0 9007199254740992 true _ A4.out).mono ?_
         rintro e w' ⟨rfl, ⟨nd, rfl⟩⟩
         refine ⟨_, rfl, ?_⟩
         refine hK.out _ _ ⟨cy_ BK287 0, cy_ BK287 1, cy_ BK287 2, cy_ BK287 3, cy_ BK287 4, cy_ BK287 5, cy_ BK287 6, cy_ BK287 7, cy_ BK287 8, cy_ BK287 9, cy_ BK287 10⟩ (fun hHeld => ?_)
         clear hK K
         refine norm_ (a' := ?_) ?_ ?_
         rotate_left
         ·show Act.put _ (some 9) _ = _
          simp only [Act.put, q_]
          rfl
         refine pure_ (i := 7) (N := some 10) (v := ?_) (a' := ?_) tb50_ff_12 rfl rfl (any_of HT_.out (by kernel_rfl)) (fun _ _ _ h => h) (Or.inl ⟨by rfl, ?_⟩) ?_ ?_
         rotate_left
         ·intro w'
          go_simp
          with_reducible rfl
         rotate_left
         ·simp only [Act.put, q_]
          rfl
         refine pure_ (i := 8) (N := some 11) (v := ?_) (a' := ?_) tb50_1ff_12 rfl rfl (any_of HT_.out (by kernel_rfl)) (fun _ _ _ h => h) (Or.inl ⟨by rfl, ?_⟩) ?_ ?_
         rotate_left
         ·intro w'
          go_simp
          with_reducible rfl
         rotate_left
         ·simp only [Act.put, q_]
          rfl
         refine pure_ (i := 9) (N := some 12) (v := ?_) (a' := ?_) tb50_3ff_12 rfl rfl (any_of HT_.out (by kernel_rfl)) (fun _ _ _ h => h) (Or.inl ⟨by rfl, ?_⟩) ?_ ?_
         rotate_left
         ·intro w'
          go_simp
          with_reducible rfl
         rotate_left
         ·simp only [Act.put, q_]
          rfl
         refine take_ (i := 10) (N := some 13) (v := ?_) (a' := ?_) tb50_7ff_12 rfl rfl (take_ofW HT_.out HW_.out (by kernel_rfl)) (fun _ _ _ h => h) (Or.inl ⟨by rfl, ?_⟩) hHeld ?_ ?_
         rotate_left
         ·rintro w' ⟨s0, s1, s2, s3, s4, s5, s6, s7, s8, s9, s10⟩
          go_simp
          with_reducible rfl
         rotate_left
         ·simp only [Act.put, q_]
          rfl
         refine one_ (i := 11) (N := some 14) tb50_fff_12 rfl rfl (one_of HT_.out (by kernel_rfl)) (by decide) (fun K hK => ?_)
         refine goes_ Try.func71 (by kernel_rfl) rfl #[.int .i64 a0_3, .int .i64 0, .int .i64 1000] (by rfl) rfl rfl gl_ ?_
         with_reducible refine (impl_within.calls a0_3 0 1000 true _ A6.out).mono ?_
         rintro e w' ⟨rfl, ⟨nd, rfl⟩⟩
         refine ⟨_, rfl, ?_⟩
         refine hK.out _ _ ⟨cy_ BK287 0, cy_ BK287 1, cy_ BK287 2, cy_ BK287 3, cy_ BK287 4, cy_ BK287 5, cy_ BK287 6, cy_ BK287 7, cy_ BK287 8, cy_ BK287 9, cy_ BK287 10⟩ (fun hHeld => ?_)
         clear hK K
         refine norm_ (a' := ?_) ?_ ?_
         rotate_left
         ·show Act.put _ (some 14) _ = _
          simp only [Act.put, q_]
          rfl
         refine pure_ (i := 12) (N := some 15) (v := ?_) (a' := ?_) tb50_1fff_12 rfl rfl (any_of HT_.out (by kernel_rfl)) (fun _ _ _ h => h) (Or.inl ⟨by rfl, ?_⟩) ?_ ?_
         rotate_left
         ·intro w'
          go_simp
          with_reducible rfl
         rotate_left
         ·simp only [Act.put, q_]
          rfl
         refine pure_ (i := 13) (N := some 16) (v := ?_) (a' := ?_) tb50_3fff_12 rfl rfl (any_of HT_.out (by kernel_rfl)) (fun _ _ _ h => h) (Or.inl ⟨by rfl, ?_⟩) ?_ ?_
         rotate_left
         ·intro w'
          go_simp
          with_reducible rfl
         rotate_left
         ·simp only [Act.put, q_]
          rfl
         refine pure_ (i := 14) (N := some 17) (v := ?_) (a' := ?_) tb50_7fff_12 rfl rfl (any_of HT_.out (by kernel_rfl)) (fun _ _ _ h => h) (Or.inl ⟨by rfl, ?_⟩) ?_ ?_
         rotate_left
         ·intro w'
          go_simp
          with_reducible rfl
         rotate_left
         ·simp only [Act.put, q_]
          rfl
         refine take_ (i := 15) (N := some 18) (v := ?_) (a' := ?_) tb50_ffff_12 rfl rfl (take_ofW HT_.out HW_.out (by kernel_rfl)) (fun _ _ _ h => h) (Or.inl ⟨by rfl, ?_⟩) hHeld ?_ ?_
         rotate_left
         ·rintro w' ⟨s0, s1, s2, s3, s4, s5, s6, s7, s8, s9, s10⟩
          go_simp
          with_reducible rfl
         rotate_left
         ·simp only [Act.put, q_]
          rfl
         refine one_ (i := 16) (N := some 19) tb50_1ffff_12 rfl rfl (one_of HT_.out (by kernel_rfl)) (by decide) (fun K hK => ?_)
         refine goes_ Try.func71 (by kernel_rfl) rfl #[.int .i64 a0_4, .int .i64 0, .int .i64 9007199254740992] (by rfl) rfl rfl gl_ ?_
         with_reducible refine (impl_within.calls a0_4 0 9007199254740992 true _ A8.out).mono ?_
         rintro e w' ⟨rfl, ⟨nd, rfl⟩⟩
         refine ⟨_, rfl, ?_⟩
         refine hK.out _ _ ⟨cy_ BK287 0, cy_ BK287 1, cy_ BK287 2, cy_ BK287 3, cy_ BK287 4, cy_ BK287 5, cy_ BK287 6, cy_ BK287 7, cy_ BK287 8, cy_ BK287 9, cy_ BK287 10⟩ (fun hHeld => ?_)
         clear hK K
         refine norm_ (a' := ?_) ?_ ?_
         rotate_left
         ·show Act.put _ (some 19) _ = _
          simp only [Act.put, q_]
          rfl
         refine pure_ (i := 17) (N := some 20) (v := ?_) (a' := ?_) tb50_3ffff_12 rfl rfl (any_of HT_.out (by kernel_rfl)) (fun _ _ _ h => h) (Or.inl ⟨by rfl, ?_⟩) ?_ ?_
         rotate_left
         ·intro w'
          go_simp
          with_reducible rfl
         rotate_left
         ·simp only [Act.put, q_]
          rfl
         refine pure_ (i := 18) (N := some 21) (v := ?_) (a' := ?_) tb50_7ffff_12 rfl rfl (any_of HT_.out (by kernel_rfl)) (fun _ _ _ h => h) (Or.inl ⟨by rfl, ?_⟩) ?_ ?_
         rotate_left
         ·intro w'
          go_simp
          with_reducible rfl
         rotate_left
         ·simp only [Act.put, q_]
          rfl
         refine pure_ (i := 19) (N := some 22) (v := ?_) (a' := ?_) tb50_fffff_12 rfl rfl (any_of HT_.out (by kernel_rfl)) (fun _ _ _ h => h) (Or.inl ⟨by rfl, ?_⟩) ?_ ?_
         rotate_left
         ·intro w'
          go_simp
          with_reducible rfl
         rotate_left
         ·simp only [Act.put, q_]
          rfl
         refine take_ (i := 20) (N := some 23) (v := ?_) (a' := ?_) tb50_1fffff_12 rfl rfl (take_ofW HT_.out HW_.out (by kernel_rfl)) (fun _ _ _ h => h) (Or.inl ⟨by rfl, ?_⟩) hHeld ?_ ?_
         rotate_left
         ·rintro w' ⟨s0, s1, s2, s3, s4, s5, s6, s7, s8, s9, s10⟩
          go_simp
          with_reducible rfl
         rotate_left
         ·simp only [Act.put, q_]
          rfl
         refine one_ (i := 21) (N := some 24) tb50_3fffff_12 rfl rfl (one_of HT_.out (by kernel_rfl)) (by decide) (fun K hK => ?_)
         refine goes_ Try.func72 (by kernel_rfl) rfl #[.int .i64 a0_2] (by rfl) rfl rfl gl_ ?_
         with_reducible refine (impl_isMoney.calls a0_2 true _ A10.out).mono ?_
         rintro e w' ⟨rfl, ⟨nd, rfl⟩⟩
         refine ⟨_, rfl, ?_⟩
         refine hK.out _ _ ⟨cy_ BK287 0, cy_ BK287 1, cy_ BK287 2, cy_ BK287 3, cy_ BK287 4, cy_ BK287 5, cy_ BK287 6, cy_ BK287 7, cy_ BK287 8, cy_ BK287 9, cy_ BK287 10⟩ (fun hHeld => ?_)
         clear hK K
         refine norm_ (a' := ?_) ?_ ?_
         rotate_left
         ·show Act.put _ (some 24) _ = _
          simp only [Act.put, q_]
          rfl
         refine pure_ (i := 22) (N := some 25) (v := ?_) (a' := ?_) tb50_7fffff_12 rfl rfl (any_of HT_.out (by kernel_rfl)) (fun _ _ _ h => h) (Or.inl ⟨by rfl, ?_⟩) ?_ ?_
         rotate_left
         ·intro w'
          go_simp
          with_reducible rfl
         rotate_left
         ·simp only [Act.put, q_]
          rfl
         refine pure_ (i := 23) (N := some 26) (v := ?_) (a' := ?_) tb50_ffffff_12 rfl rfl (any_of HT_.out (by kernel_rfl)) (fun _ _ _ h => h) (Or.inl ⟨by rfl, ?_⟩) ?_ ?_
         rotate_left
         ·intro w'
          go_simp
          with_reducible rfl
         rotate_left
         ·simp only [Act.put, q_]
          rfl
         refine pure_ (i := 24) (N := some 27) (v := ?_) (a' := ?_) tb50_1ffffff_12 rfl rfl (any_of HT_.out (by kernel_rfl)) (fun _ _ _ h => h) (Or.inl ⟨by rfl, ?_⟩) ?_ ?_
         rotate_left
         ·intro w'
          go_simp
          with_reducible rfl
         rotate_left
         ·simp only [Act.put, q_]
          rfl
         refine take_ (i := 25) (N := some 28) (v := ?_) (a' := ?_) tb50_3ffffff_12 rfl rfl (take_ofW HT_.out HW_.out (by kernel_rfl)) (fun _ _ _ h => h) (Or.inl ⟨by rfl, ?_⟩) hHeld ?_ ?_
         rotate_left
         ·rintro w' ⟨s0, s1, s2, s3, s4, s5, s6, s7, s8, s9, s10⟩
          go_simp
          with_reducible rfl
         rotate_left
         ·simp only [Act.put, q_]
          rfl
         refine one_ (i := 26) (N := some 29) tb50_7ffffff_12 rfl rfl (one_of HT_.out (by kernel_rfl)) (by decide) (fun K hK => ?_)
         refine goes_ Try.func73 (by kernel_rfl) rfl #[.slice A0_5 l0_5.length c0_5] (by rfl) rfl rfl gl_ ?_
         with_reducible refine (impl_HoldsOk.calls k _ _ l0_5 true _ ?side1 ?side2 A12.out).mono ?_
         (case side1 => exact ca_ (Kd.C_below HR0_5.out bl_))
         (case side2 => exact HC0_5.out)
         rintro e w29 ⟨rfl, hb⟩
         refine ⟨_, rfl, ?_⟩
         have n0_ := Aside0.mk (blk_below (bk_ BK287) hb)
         have n1_ := Aside0.mk (below_step bl_ hb)
         clear BK287
         clear HB
         have BK287 := n0_
         have HB := n1_
         clear n0_ n1_
         (try clear hb)
         (try clear hb2)
         (try clear hk)
         (try clear hi)
         refine hK.out _ _ ⟨cy_ BK287 0, cy_ BK287 1, cy_ BK287 2, cy_ BK287 3, cy_ BK287 4, cy_ BK287 5, cy_ BK287 6, cy_ BK287 7, cy_ BK287 8, cy_ BK287 9, cy_ BK287 10⟩ (fun hHeld => ?_)
         clear hK K
         refine norm_ (a' := ?_) ?_ ?_
         rotate_left
         ·show Act.put _ (some 29) _ = _
          simp only [Act.put, q_]
          rfl
         refine pure_ (i := 27) (N := some 30) (v := ?_) (a' := ?_) tb50_fffffff_12 rfl rfl (any_of HT_.out (by kernel_rfl)) (fun _ _ _ h => h) (Or.inl ⟨by rfl, ?_⟩) ?_ ?_
         rotate_left
         ·intro w'
          go_simp
          with_reducible rfl
         rotate_left
         ·simp only [Act.put, q_]
          rfl
         refine pure_ (i := 28) (N := some 31) (v := ?_) (a' := ?_) tb50_1fffffff_12 rfl rfl (any_of HT_.out (by kernel_rfl)) (fun _ _ _ h => h) (Or.inl ⟨by rfl, ?_⟩) ?_ ?_
         rotate_left
         ·intro w'
          go_simp
          with_reducible rfl
         rotate_left
         ·simp only [Act.put, q_]
          rfl
         refine pure_ (i := 29) (N := some 32) (v := ?_) (a' := ?_) tb50_3fffffff_12 rfl rfl (any_of HT_.out (by kernel_rfl)) (fun _ _ _ h => h) (Or.inl ⟨by rfl, ?_⟩) ?_ ?_
         rotate_left
         ·intro w'
          go_simp
          with_reducible rfl
         rotate_left
         ·simp only [Act.put, q_]
          rfl
         refine take_ (i := 30) (N := some 33) (v := ?_) (a' := ?_) tb50_7fffffff_12 rfl rfl (take_ofW HT_.out HW_.out (by kernel_rfl)) (fun _ _ _ h => h) (Or.inl ⟨by rfl, ?_⟩) hHeld ?_ ?_
         rotate_left
         ·rintro w' ⟨s0, s1, s2, s3, s4, s5, s6, s7, s8, s9, s10⟩
          go_simp
          with_reducible rfl
         rotate_left
         ·simp only [Act.put, q_]
          rfl
         refine one_ (i := 31) (N := some 34) tb50_ffffffff_12 rfl rfl (one_of HT_.out (by kernel_rfl)) (by decide) (fun K hK => ?_)
         refine goes_ Try.func74 (by kernel_rfl) rfl #[.agg #[.int .i64 a0_6, .int .i64 a0_7, .slice A0_8 l0_8.length c0_8, .slice A0_9 l0_9.length c0_9]] (by rfl) rfl rfl gl_ ?_
         with_reducible refine (impl_RingOk.calls k a0_6 a0_7 (fun k_ => k_ < w.heap.size) _ _ l0_8 (fun k_ => k_ < w.heap.size) _ _ l0_9 true _ ?side1 ?side2 A14.out).mono ?_
         (case side1 => exact Kd.V_mk HC0_8.out (Kd.F_below (Kd.C_F (Kd.heap_int .i64) HR0_8.out) bl_))
         (case side2 => exact Kd.V_mk HC0_9.out (Kd.F_below (Kd.C_F (Kd.heap_int .i64) HR0_9.out) bl_))
         rintro e w30 ⟨rfl, hb⟩
         refine ⟨_, rfl, ?_⟩
         have n0_ := Aside0.mk (blk_below (bk_ BK287) hb)
         have n1_ := Aside0.mk (below_step bl_ hb)
         clear BK287
         clear HB
         have BK287 := n0_
         have HB := n1_
         clear n0_ n1_
         (try clear hb)
         (try clear hb2)
         (try clear hk)
         (try clear hi)
         refine hK.out _ _ ⟨cy_ BK287 0, cy_ BK287 1, cy_ BK287 2, cy_ BK287 3, cy_ BK287 4, cy_ BK287 5, cy_ BK287 6, cy_ BK287 7, cy_ BK287 8, cy_ BK287 9, cy_ BK287 10⟩ (fun hHeld => ?_)
         clear hK K
         refine norm_ (a' := ?_) ?_ ?_
         rotate_left
         ·show Act.put _ (some 34) _ = _
          simp only [Act.put, q_]
          rfl
         refine pure_ (i := 32) (N := some 35) (v := ?_) (a' := ?_) tb50_1ffffffff_12 rfl rfl (any_of HT_.out (by kernel_rfl)) (fun _ _ _ h => h) (Or.inl ⟨by rfl, ?_⟩) ?_ ?_
         rotate_left
         ·intro w'
          go_simp
          with_reducible rfl
         rotate_left
         ·simp only [Act.put, q_]
          rfl
         refine pure_ (i := 33) (N := some 36) (v := ?_) (a' := ?_) tb50_3ffffffff_12 rfl rfl (any_of HT_.out (by kernel_rfl)) (fun _ _ _ h => h) (Or.inl ⟨by rfl, ?_⟩) ?_ ?_
         rotate_left
         ·intro w'
          go_simp
          with_reducible rfl
         rotate_left
         ·simp only [Act.put, q_]
          rfl
         refine pure_ (i := 34) (N := some 37) (v := ?_) (a' := ?_) tb50_7ffffffff_12 rfl rfl (any_of HT_.out (by kernel_rfl)) (fun _ _ _ h => h) (Or.inl ⟨by rfl, ?_⟩) ?_ ?_
         rotate_left
         ·intro w'
          go_simp
          with_reducible rfl
         rotate_left
         ·simp only [Act.put, q_]
          rfl
         refine take_ (i := 35) (N := some 38) (v := ?_) (a' := ?_) tb50_fffffffff_12 rfl rfl (take_ofW HT_.out HW_.out (by kernel_rfl)) (fun _ _ _ h => h) (Or.inl ⟨by rfl, ?_⟩) hHeld ?_ ?_
         rotate_left
         ·rintro w' ⟨s0, s1, s2, s3, s4, s5, s6, s7, s8, s9, s10⟩
          go_simp
          with_reducible rfl
         rotate_left
         ·simp only [Act.put, q_]
          rfl
         refine one_ (i := 36) (N := some 39) tb50_1fffffffff_12 rfl rfl (one_of HT_.out (by kernel_rfl)) (by decide) (fun K hK => ?_)
         refine goes_ Try.func75 (by kernel_rfl) rfl #[.slice A0_10 l0_10.length c0_10] (by rfl) rfl rfl gl_ ?_
         with_reducible refine (impl_SlotsOk.calls k _ _ l0_10 false _ ?side1 ?side2 A16.out).mono ?_
         (case side1 => exact ca_ (Kd.C_below HR0_10.out HB.out))
         (case side2 => exact HC0_10.out)
         rintro e w31 ⟨rfl, hb⟩
         refine ⟨_, rfl, ?_⟩
         have n0_ := Aside0.mk (blk_below (bk_ BK287) hb)
         have n1_ := Aside0.mk (below_step bl_ hb)
         clear BK287
         clear HB
         have BK287 := n0_
         have HB := n1_
         clear n0_ n1_
         (try clear hb)
         (try clear hb2)
         (try clear hk)
         (try clear hi)
         refine hK.out _ _ ⟨cy_ BK287 0, cy_ BK287 1, cy_ BK287 2, cy_ BK287 3, cy_ BK287 4, cy_ BK287 5, cy_ BK287 6, cy_ BK287 7, cy_ BK287 8, cy_ BK287 9, cy_ BK287 10⟩ (fun hHeld => ?_)
         clear hK K
         refine norm_ (a' := ?_) ?_ ?_
         rotate_left
         ·show Act.put _ (some 39) _ = _
          simp only [Act.put, q_]
          rfl
         refine pure_ (i := 37) (N := some 40) (v := ?_) (a' := ?_) tb50_3fffffffff_12 rfl rfl (any_of HT_.out (by kernel_rfl)) (fun _ _ _ h => h) (Or.inl ⟨by rfl, ?_⟩) ?_ ?_
         rotate_left
         ·intro w'
          go_simp
          with_reducible rfl
         rotate_left
         ·simp only [Act.put, q_]
          rfl
         refine pure_ (i := 38) (N := some 41) (v := ?_) (a' := ?_) tb50_7fffffffff_12 rfl rfl (any_of HT_.out (by kernel_rfl)) (fun _ _ _ h => h) (Or.inl ⟨by rfl, ?_⟩) ?_ ?_
         rotate_left
         ·intro w'
          go_simp
          with_reducible rfl
         rotate_left
         ·simp only [Act.put, q_]
          rfl
         refine pure_ (i := 39) (N := some 42) (v := undef) (a' := ?_) tb50_ffffffffff_12 rfl rfl (any_of HT_.out (by kernel_rfl)) (fun _ _ _ h => h) (Or.inr ⟨by rfl, rfl⟩) ?_ ?_
         rotate_left
         ·simp only [Act.put, q_]
          rfl
         refine pure_ (i := 40) (N := some 43) (v := undef) (a' := ?_) tb50_1ffffffffff_12 rfl rfl (any_of HT_.out (by kernel_rfl)) (fun _ _ _ h => h) (Or.inr ⟨by rfl, rfl⟩) ?_ ?_
         rotate_left
         ·simp only [Act.put, q_]
          rfl
         refine pure_ (i := 41) (N := some 44) (v := undef) (a' := ?_) tb50_3ffffffffff_12 rfl rfl (any_of HT_.out (by kernel_rfl)) (fun _ _ _ h => h) (Or.inr ⟨by rfl, rfl⟩) ?_ ?_
         rotate_left
         ·simp only [Act.put, q_]
          rfl
         refine pure_ (i := 42) (N := some 45) (v := undef) (a' := ?_) tb50_7ffffffffff_12 rfl rfl (any_of HT_.out (by kernel_rfl)) (fun _ _ _ h => h) (Or.inr ⟨by rfl, rfl⟩) ?_ ?_
         rotate_left
         ·simp only [Act.put, q_]
          rfl
         refine pure_ (i := 43) (N := some 46) (v := undef) (a' := ?_) tb50_fffffffffff_12 rfl rfl (any_of HT_.out (by kernel_rfl)) (fun _ _ _ h => h) (Or.inr ⟨by rfl, rfl⟩) ?_ ?_
         rotate_left
         ·simp only [Act.put, q_]
          rfl
         refine pure_ (i := 44) (N := some 47) (v := undef) (a' := ?_) tb50_1fffffffffff_12 rfl rfl (any_of HT_.out (by kernel_rfl)) (fun _ _ _ h => h) (Or.inr ⟨by rfl, rfl⟩) ?_ ?_
         rotate_left
         ·simp only [Act.put, q_]
          rfl
         refine pure_ (i := 45) (N := some 48) (v := undef) (a' := ?_) tb50_3fffffffffff_12 rfl rfl (any_of HT_.out (by kernel_rfl)) (fun _ _ _ h => h) (Or.inr ⟨by rfl, rfl⟩) ?_ ?_
         rotate_left
         ·simp only [Act.put, q_]
          rfl
         refine pure_ (i := 46) (N := some 49) (v := undef) (a' := ?_) tb50_7fffffffffff_12 rfl rfl (any_of HT_.out (by kernel_rfl)) (fun _ _ _ h => h) (Or.inr ⟨by rfl, rfl⟩) ?_ ?_
         rotate_left
         ·simp only [Act.put, q_]
          rfl
         refine pure_ (i := 47) (N := some 50) (v := undef) (a' := ?_) tb50_ffffffffffff_12 rfl rfl (any_of HT_.out (by kernel_rfl)) (fun _ _ _ h => h) (Or.inr ⟨by rfl, rfl⟩) ?_ ?_
         rotate_left
         ·simp only [Act.put, q_]
          rfl
         refine pure_ (i := 48) (N := some 51) (v := ?_) (a' := ?_) tb50_1ffffffffffff_12 rfl rfl (any_of HT_.out (by kernel_rfl)) (fun _ _ _ h => h) (Or.inl ⟨by rfl, ?_⟩) ?_ ?_
         rotate_left
         ·intro w'
          go_simp
          with_reducible rfl
         rotate_left
         ·simp only [Act.put, q_]
          rfl
         refine pure_ (i := 49) (N := some 2) (v := ?_) (a' := ?_) tb50_3ffffffffffff_12 rfl rfl (any_of HT_.out (by kernel_rfl)) (fun _ _ _ h => h) (Or.inl ⟨by rfl, ?_⟩) ?_ ?_
         rotate_left
         ·intro w'
          go_simp
          with_reducible rfl
         rotate_left
         ·simp only [Act.put, q_]
          rfl
         refine done_ (done_of HT_.out (by kernel_rfl)) ?_
         try go_wp2
         go_ret
         exact ⟨by first | rfl | (simp [errW_none, errW_some] <;> rfl) | (simp [*, errW_none, errW_some] <;> rfl), bl_⟩
       ·replace c15 := Bool.eq_false_iff.mpr c15
        subst c15
        have H1 : (some false) = some r := by rw [if_neg (show ¬ (false = true) by decide)] at H; exact H
        clear H
        have H := H1
        clear H1
        obtain rfl := Option.some.inj H
        go_enter Try.func20, Try.ntmps20
        try go_wp2_with (first | ((with_reducible refine gate_dst (N := 1) rfl ?_); refine box_event ?hg (N := 1) ?hd (cs := #[.string a0_0, .int .i64 a0_1, .int .i64 a0_2, .int .i64 a0_3, .int .i64 a0_4, .slice A0_5 l0_5.length c0_5, .int .i64 a0_6, .int .i64 a0_7, .slice A0_8 l0_8.length c0_8, .slice A0_9 l0_9.length c0_9, .slice A0_10 l0_10.length c0_10]) (t := 48) ?hr ?_; (case hd => rfl); (case hg => rfl); (case hr => first | (go_simp; done) | (go_simp; rfl)); intro gb287 hg w32 hbox hb; have n0_ := Aside0.mk (below_step bl_ hb); have n1_ := Aside0.mk (hbox); have n2_ := Aside0.mk ((by rw [hg]; exact (below_size bl_) : w.heap.size ≤ gb287)); have n3_ := Aside0.mk ((by rw [hg]; exact (below_size bl_) : w.heap.size ≤ gb287)); clear HB; have HB := n0_; have BK287 := n1_; have GW287 := n2_; have GE287 := n3_; clear n0_ n1_ n2_ n3_; clear hb hbox hg))
        have n0_ := Aside0.mk (blk_drew BK287.out)
        have n1_ := Aside0.mk (below_drew1 HB.out)
        clear BK287
        clear HB
        have BK287 := n0_
        have HB := n1_
        clear n0_ n1_
        refine start_ (n := 50) (S := fun w' => w'.cell? ⟨gb287, 0, none⟩ = some (.string a0_0) ∧ w'.cell? ⟨gb287, 1, none⟩ = some (.int .i64 a0_1) ∧ w'.cell? ⟨gb287, 2, none⟩ = some (.int .i64 a0_2) ∧ w'.cell? ⟨gb287, 3, none⟩ = some (.int .i64 a0_3) ∧ w'.cell? ⟨gb287, 4, none⟩ = some (.int .i64 a0_4) ∧ w'.cell? ⟨gb287, 5, none⟩ = some (.slice A0_5 l0_5.length c0_5) ∧ w'.cell? ⟨gb287, 6, none⟩ = some (.int .i64 a0_6) ∧ w'.cell? ⟨gb287, 7, none⟩ = some (.int .i64 a0_7) ∧ w'.cell? ⟨gb287, 8, none⟩ = some (.slice A0_8 l0_8.length c0_8) ∧ w'.cell? ⟨gb287, 9, none⟩ = some (.slice A0_9 l0_9.length c0_9) ∧ w'.cell? ⟨gb287, 10, none⟩ = some (.slice A0_10 l0_10.length c0_10)) (ds := []) tb50_0_12 (by kernel_rfl) rfl rfl ⟨cy_ BK287 0, cy_ BK287 1, cy_ BK287 2, cy_ BK287 3, cy_ BK287 4, cy_ BK287 5, cy_ BK287 6, cy_ BK287 7, cy_ BK287 8, cy_ BK287 9, cy_ BK287 10⟩ (fun hHeld => ?_); refine with_tabW impl_AcctOk.tab1 impl_AcctOk.bits1 (fun HT_ HW_ => ?_)
        generalize w32.drew = w33 at BK287 HB hHeld ⊢
        refine pure_ (i := 0) (N := some 3) (v := ?_) (a' := ?_) tb50_1_12 rfl rfl (any_of HT_.out (by kernel_rfl)) (fun _ _ _ h => h) (Or.inl ⟨by rfl, ?_⟩) ?_ ?_
        rotate_left
        ·intro w'
         go_simp
         with_reducible rfl
        rotate_left
        ·simp only [Act.put, q_]
         rfl
        refine take_ (i := 1) (N := some 4) (v := ?_) (a' := ?_) tb50_3_12 rfl rfl (take_ofW HT_.out HW_.out (by kernel_rfl)) (fun _ _ _ h => h) (Or.inl ⟨by rfl, ?_⟩) hHeld ?_ ?_
        rotate_left
        ·rintro w' ⟨s0, s1, s2, s3, s4, s5, s6, s7, s8, s9, s10⟩
         go_simp
         with_reducible rfl
        rotate_left
        ·simp only [Act.put, q_]
         rfl
        refine one_ (i := 2) (N := some 5) tb50_7_12 rfl rfl (one_of HT_.out (by kernel_rfl)) (by decide) (fun K hK => ?_)
        refine goes_ Try.func70 (by kernel_rfl) rfl #[.string a0_0] (by rfl) rfl rfl gl_ ?_
        with_reducible refine (impl_AcctIdOk.calls k a0_0 true _ A2.out).mono ?_
        rintro e w' ⟨rfl, ⟨nd, rfl⟩⟩
        refine ⟨_, rfl, ?_⟩
        refine hK.out _ _ ⟨cy_ BK287 0, cy_ BK287 1, cy_ BK287 2, cy_ BK287 3, cy_ BK287 4, cy_ BK287 5, cy_ BK287 6, cy_ BK287 7, cy_ BK287 8, cy_ BK287 9, cy_ BK287 10⟩ (fun hHeld => ?_)
        clear hK K
        refine norm_ (a' := ?_) ?_ ?_
        rotate_left
        ·show Act.put _ (some 5) _ = _
         simp only [Act.put, q_]
         rfl
        refine pure_ (i := 3) (N := some 6) (v := ?_) (a' := ?_) tb50_f_12 rfl rfl (any_of HT_.out (by kernel_rfl)) (fun _ _ _ h => h) (Or.inl ⟨by rfl, ?_⟩) ?_ ?_
        rotate_left
        ·intro w'
         go_simp
         with_reducible rfl
        rotate_left
        ·simp only [Act.put, q_]
         rfl
        refine pure_ (i := 4) (N := some 7) (v := ?_) (a' := ?_) tb50_1f_12 rfl rfl (any_of HT_.out (by kernel_rfl)) (fun _ _ _ h => h) (Or.inl ⟨by rfl, ?_⟩) ?_ ?_
        rotate_left
        ·intro w'
         go_simp
         with_reducible rfl
        rotate_left
        ·simp only [Act.put, q_]
         rfl
        refine take_ (i := 5) (N := some 8) (v := ?_) (a' := ?_) tb50_3f_12 rfl rfl (take_ofW HT_.out HW_.out (by kernel_rfl)) (fun _ _ _ h => h) (Or.inl ⟨by rfl, ?_⟩) hHeld ?_ ?_
        rotate_left
        ·rintro w' ⟨s0, s1, s2, s3, s4, s5, s6, s7, s8, s9, s10⟩
         go_simp
         with_reducible rfl
        rotate_left
        ·simp only [Act.put, q_]
         rfl
        refine one_ (i := 6) (N := some 9) tb50_7f_12 rfl rfl (one_of HT_.out (by kernel_rfl)) (by decide) (fun K hK => ?_)
        refine goes_ Try.func71 (by kernel_rfl) rfl #[.int .i64 a0_1, .int .i64 0, .int .i64 9007199254740992] (by rfl) rfl rfl gl_ ?_
        with_reducible refine (impl_within.calls a0_1 0 9007199254740992 true _ A4.out).mono ?_
        rintro e w' ⟨rfl, ⟨nd, rfl⟩⟩
        refine ⟨_, rfl, ?_⟩
        refine hK.out _ _ ⟨cy_ BK287 0, cy_ BK287 1, cy_ BK287 2, cy_ BK287 3, cy_ BK287 4, cy_ BK287 5, cy_ BK287 6, cy_ BK287 7, cy_ BK287 8, cy_ BK287 9, cy_ BK287 10⟩ (fun hHeld => ?_)
        clear hK K
        refine norm_ (a' := ?_) ?_ ?_
        rotate_left
        ·show Act.put _ (some 9) _ = _
         simp only [Act.put, q_]
         rfl
        refine pure_ (i := 7) (N := some 10) (v := ?_) (a' := ?_) tb50_ff_12 rfl rfl (any_of HT_.out (by kernel_rfl)) (fun _ _ _ h => h) (Or.inl ⟨by rfl, ?_⟩) ?_ ?_
        rotate_left
        ·intro w'
         go_simp
         with_reducible rfl
        rotate_left
        ·simp only [Act.put, q_]
         rfl
        refine pure_ (i := 8) (N := some 11) (v := ?_) (a' := ?_) tb50_1ff_12 rfl rfl (any_of HT_.out (by kernel_rfl)) (fun _ _ _ h => h) (Or.inl ⟨by rfl, ?_⟩) ?_ ?_
        rotate_left
        ·intro w'
         go_simp
         with_reducible rfl
        rotate_left
        ·simp only [Act.put, q_]
         rfl
        refine pure_ (i := 9) (N := some 12) (v := ?_) (a' := ?_) tb50_3ff_12 rfl rfl (any_of HT_.out (by kernel_rfl)) (fun _ _ _ h => h) (Or.inl ⟨by rfl, ?_⟩) ?_ ?_
        rotate_left
        ·intro w'
         go_simp
         with_reducible rfl
        rotate_left
        ·simp only [Act.put, q_]
         rfl
        refine take_ (i := 10) (N := some 13) (v := ?_) (a' := ?_) tb50_7ff_12 rfl rfl (take_ofW HT_.out HW_.out (by kernel_rfl)) (fun _ _ _ h => h) (Or.inl ⟨by rfl, ?_⟩) hHeld ?_ ?_
        rotate_left
        ·rintro w' ⟨s0, s1, s2, s3, s4, s5, s6, s7, s8, s9, s10⟩
         go_simp
         with_reducible rfl
        rotate_left
        ·simp only [Act.put, q_]
         rfl
        refine one_ (i := 11) (N := some 14) tb50_fff_12 rfl rfl (one_of HT_.out (by kernel_rfl)) (by decide) (fun K hK => ?_)
        refine goes_ Try.func71 (by kernel_rfl) rfl #[.int .i64 a0_3, .int .i64 0, .int .i64 1000] (by rfl) rfl rfl gl_ ?_
        with_reducible refine (impl_within.calls a0_3 0 1000 true _ A6.out).mono ?_
        rintro e w' ⟨rfl, ⟨nd, rfl⟩⟩
        refine ⟨_, rfl, ?_⟩
        refine hK.out _ _ ⟨cy_ BK287 0, cy_ BK287 1, cy_ BK287 2, cy_ BK287 3, cy_ BK287 4, cy_ BK287 5, cy_ BK287 6, cy_ BK287 7, cy_ BK287 8, cy_ BK287 9, cy_ BK287 10⟩ (fun hHeld => ?_)
        clear hK K
        refine norm_ (a' := ?_) ?_ ?_
        rotate_left
        ·show Act.put _ (some 14) _ = _
         simp only [Act.put, q_]
         rfl
        refine pure_ (i := 12) (N := some 15) (v := ?_) (a' := ?_) tb50_1fff_12 rfl rfl (any_of HT_.out (by kernel_rfl)) (fun _ _ _ h => h) (Or.inl ⟨by rfl, ?_⟩) ?_ ?_
        rotate_left
        ·intro w'
         go_simp
         with_reducible rfl
        rotate_left
        ·simp only [Act.put, q_]
         rfl
        refine pure_ (i := 13) (N := some 16) (v := ?_) (a' := ?_) tb50_3fff_12 rfl rfl (any_of HT_.out (by kernel_rfl)) (fun _ _ _ h => h) (Or.inl ⟨by rfl, ?_⟩) ?_ ?_
        rotate_left
        ·intro w'
         go_simp
         with_reducible rfl
        rotate_left
        ·simp only [Act.put, q_]
         rfl
        refine pure_ (i := 14) (N := some 17) (v := ?_) (a' := ?_) tb50_7fff_12 rfl rfl (any_of HT_.out (by kernel_rfl)) (fun _ _ _ h => h) (Or.inl ⟨by rfl, ?_⟩) ?_ ?_
        rotate_left
        ·intro w'
         go_simp
         with_reducible rfl
        rotate_left
        ·simp only [Act.put, q_]
         rfl
        refine take_ (i := 15) (N := some 18) (v := ?_) (a' := ?_) tb50_ffff_12 rfl rfl (take_ofW HT_.out HW_.out (by kernel_rfl)) (fun _ _ _ h => h) (Or.inl ⟨by rfl, ?_⟩) hHeld ?_ ?_
        rotate_left
        ·rintro w' ⟨s0, s1, s2, s3, s4, s5, s6, s7, s8, s9, s10⟩
         go_simp
         with_reducible rfl
        rotate_left
        ·simp only [Act.put, q_]
         rfl
        refine one_ (i := 16) (N := some 19) tb50_1ffff_12 rfl rfl (one_of HT_.out (by kernel_rfl)) (by decide) (fun K hK => ?_)
        refine goes_ Try.func71 (by kernel_rfl) rfl #[.int .i64 a0_4, .int .i64 0, .int .i64 9007199254740992] (by rfl) rfl rfl gl_ ?_
        with_reducible refine (impl_within.calls a0_4 0 9007199254740992 true _ A8.out).mono ?_
        rintro e w' ⟨rfl, ⟨nd, rfl⟩⟩
        refine ⟨_, rfl, ?_⟩
        refine hK.out _ _ ⟨cy_ BK287 0, cy_ BK287 1, cy_ BK287 2, cy_ BK287 3, cy_ BK287 4, cy_ BK287 5, cy_ BK287 6, cy_ BK287 7, cy_ BK287 8, cy_ BK287 9, cy_ BK287 10⟩ (fun hHeld => ?_)
        clear hK K
        refine norm_ (a' := ?_) ?_ ?_
        rotate_left
        ·show Act.put _ (some 19) _ = _
         simp only [Act.put, q_]
         rfl
        refine pure_ (i := 17) (N := some 20) (v := ?_) (a' := ?_) tb50_3ffff_12 rfl rfl (any_of HT_.out (by kernel_rfl)) (fun _ _ _ h => h) (Or.inl ⟨by rfl, ?_⟩) ?_ ?_
        rotate_left
        ·intro w'
         go_simp
         with_reducible rfl
        rotate_left
        ·simp only [Act.put, q_]
         rfl
        refine pure_ (i := 18) (N := some 21) (v := ?_) (a' := ?_) tb50_7ffff_12 rfl rfl (any_of HT_.out (by kernel_rfl)) (fun _ _ _ h => h) (Or.inl ⟨by rfl, ?_⟩) ?_ ?_
        rotate_left
        ·intro w'
         go_simp
         with_reducible rfl
        rotate_left
        ·simp only [Act.put, q_]
         rfl
        refine pure_ (i := 19) (N := some 22) (v := ?_) (a' := ?_) tb50_fffff_12 rfl rfl (any_of HT_.out (by kernel_rfl)) (fun _ _ _ h => h) (Or.inl ⟨by rfl, ?_⟩) ?_ ?_
        rotate_left
        ·intro w'
         go_simp
         with_reducible rfl
        rotate_left
        ·simp only [Act.put, q_]
         rfl
        refine take_ (i := 20) (N := some 23) (v := ?_) (a' := ?_) tb50_1fffff_12 rfl rfl (take_ofW HT_.out HW_.out (by kernel_rfl)) (fun _ _ _ h => h) (Or.inl ⟨by rfl, ?_⟩) hHeld ?_ ?_
        rotate_left
        ·rintro w' ⟨s0, s1, s2, s3, s4, s5, s6, s7, s8, s9, s10⟩
         go_simp
         with_reducible rfl
        rotate_left
        ·simp only [Act.put, q_]
         rfl
        refine one_ (i := 21) (N := some 24) tb50_3fffff_12 rfl rfl (one_of HT_.out (by kernel_rfl)) (by decide) (fun K hK => ?_)
        refine goes_ Try.func72 (by kernel_rfl) rfl #[.int .i64 a0_2] (by rfl) rfl rfl gl_ ?_
        with_reducible refine (impl_isMoney.calls a0_2 true _ A10.out).mono ?_
        rintro e w' ⟨rfl, ⟨nd, rfl⟩⟩
        refine ⟨_, rfl, ?_⟩
        refine hK.out _ _ ⟨cy_ BK287 0, cy_ BK287 1, cy_ BK287 2, cy_ BK287 3, cy_ BK287 4, cy_ BK287 5, cy_ BK287 6, cy_ BK287 7, cy_ BK287 8, cy_ BK287 9, cy_ BK287 10⟩ (fun hHeld => ?_)
        clear hK K
        refine norm_ (a' := ?_) ?_ ?_
        rotate_left
        ·show Act.put _ (some 24) _ = _
         simp only [Act.put, q_]
         rfl
        refine pure_ (i := 22) (N := some 25) (v := ?_) (a' := ?_) tb50_7fffff_12 rfl rfl (any_of HT_.out (by kernel_rfl)) (fun _ _ _ h => h) (Or.inl ⟨by rfl, ?_⟩) ?_ ?_
        rotate_left
        ·intro w'
         go_simp
         with_reducible rfl
        rotate_left
        ·simp only [Act.put, q_]
         rfl
        refine pure_ (i := 23) (N := some 26) (v := ?_) (a' := ?_) tb50_ffffff_12 rfl rfl (any_of HT_.out (by kernel_rfl)) (fun _ _ _ h => h) (Or.inl ⟨by rfl, ?_⟩) ?_ ?_
        rotate_left
        ·intro w'
         go_simp
         with_reducible rfl
        rotate_left
        ·simp only [Act.put, q_]
         rfl
        refine pure_ (i := 24) (N := some 27) (v := ?_) (a' := ?_) tb50_1ffffff_12 rfl rfl (any_of HT_.out (by kernel_rfl)) (fun _ _ _ h => h) (Or.inl ⟨by rfl, ?_⟩) ?_ ?_
        rotate_left
        ·intro w'
         go_simp
         with_reducible rfl
        rotate_left
        ·simp only [Act.put, q_]
         rfl
        refine take_ (i := 25) (N := some 28) (v := ?_) (a' := ?_) tb50_3ffffff_12 rfl rfl (take_ofW HT_.out HW_.out (by kernel_rfl)) (fun _ _ _ h => h) (Or.inl ⟨by rfl, ?_⟩) hHeld ?_ ?_
        rotate_left
        ·rintro w' ⟨s0, s1, s2, s3, s4, s5, s6, s7, s8, s9, s10⟩
         go_simp
         with_reducible rfl
        rotate_left
        ·simp only [Act.put, q_]
         rfl
        refine one_ (i := 26) (N := some 29) tb50_7ffffff_12 rfl rfl (one_of HT_.out (by kernel_rfl)) (by decide) (fun K hK => ?_)
        refine goes_ Try.func73 (by kernel_rfl) rfl #[.slice A0_5 l0_5.length c0_5] (by rfl) rfl rfl gl_ ?_
        with_reducible refine (impl_HoldsOk.calls k _ _ l0_5 true _ ?side1 ?side2 A12.out).mono ?_
        (case side1 => exact ca_ (Kd.C_below HR0_5.out bl_))
        (case side2 => exact HC0_5.out)
        rintro e w34 ⟨rfl, hb⟩
        refine ⟨_, rfl, ?_⟩
        have n0_ := Aside0.mk (blk_below (bk_ BK287) hb)
        have n1_ := Aside0.mk (below_step bl_ hb)
        clear BK287
        clear HB
        have BK287 := n0_
        have HB := n1_
        clear n0_ n1_
        (try clear hb)
        (try clear hb2)
        (try clear hk)
        (try clear hi)
        refine hK.out _ _ ⟨cy_ BK287 0, cy_ BK287 1, cy_ BK287 2, cy_ BK287 3, cy_ BK287 4, cy_ BK287 5, cy_ BK287 6, cy_ BK287 7, cy_ BK287 8, cy_ BK287 9, cy_ BK287 10⟩ (fun hHeld => ?_)
        clear hK K
        refine norm_ (a' := ?_) ?_ ?_
        rotate_left
        ·show Act.put _ (some 29) _ = _
         simp only [Act.put, q_]
         rfl
        refine pure_ (i := 27) (N := some 30) (v := ?_) (a' := ?_) tb50_fffffff_12 rfl rfl (any_of HT_.out (by kernel_rfl)) (fun _ _ _ h => h) (Or.inl ⟨by rfl, ?_⟩) ?_ ?_
        rotate_left
        ·intro w'
         go_simp
         with_reducible rfl
        rotate_left
        ·simp only [Act.put, q_]
         rfl
        refine pure_ (i := 28) (N := some 31) (v := ?_) (a' := ?_) tb50_1fffffff_12 rfl rfl (any_of HT_.out (by kernel_rfl)) (fun _ _ _ h => h) (Or.inl ⟨by rfl, ?_⟩) ?_ ?_
        rotate_left
        ·intro w'
         go_simp
         with_reducible rfl
        rotate_left
        ·simp only [Act.put, q_]
         rfl
        refine pure_ (i := 29) (N := some 32) (v := ?_) (a' := ?_) tb50_3fffffff_12 rfl rfl (any_of HT_.out (by kernel_rfl)) (fun _ _ _ h => h) (Or.inl ⟨by rfl, ?_⟩) ?_ ?_
        rotate_left
        ·intro w'
         go_simp
         with_reducible rfl
        rotate_left
        ·simp only [Act.put, q_]
         rfl
        refine take_ (i := 30) (N := some 33) (v := ?_) (a' := ?_) tb50_7fffffff_12 rfl rfl (take_ofW HT_.out HW_.out (by kernel_rfl)) (fun _ _ _ h => h) (Or.inl ⟨by rfl, ?_⟩) hHeld ?_ ?_
        rotate_left
        ·rintro w' ⟨s0, s1, s2, s3, s4, s5, s6, s7, s8, s9, s10⟩
         go_simp
         with_reducible rfl
        rotate_left
        ·simp only [Act.put, q_]
         rfl
        refine one_ (i := 31) (N := some 34) tb50_ffffffff_12 rfl rfl (one_of HT_.out (by kernel_rfl)) (by decide) (fun K hK => ?_)
        refine goes_ Try.func74 (by kernel_rfl) rfl #[.agg #[.int .i64 a0_6, .int .i64 a0_7, .slice A0_8 l0_8.length c0_8, .slice A0_9 l0_9.length c0_9]] (by rfl) rfl rfl gl_ ?_
        with_reducible refine (impl_RingOk.calls k a0_6 a0_7 (fun k_ => k_ < w.heap.size) _ _ l0_8 (fun k_ => k_ < w.heap.size) _ _ l0_9 false _ ?side1 ?side2 A14.out).mono ?_
        (case side1 => exact Kd.V_mk HC0_8.out (Kd.F_below (Kd.C_F (Kd.heap_int .i64) HR0_8.out) bl_))
        (case side2 => exact Kd.V_mk HC0_9.out (Kd.F_below (Kd.C_F (Kd.heap_int .i64) HR0_9.out) bl_))
        rintro e w35 ⟨rfl, hb⟩
        refine ⟨_, rfl, ?_⟩
        have n0_ := Aside0.mk (blk_below (bk_ BK287) hb)
        have n1_ := Aside0.mk (below_step bl_ hb)
        clear BK287
        clear HB
        have BK287 := n0_
        have HB := n1_
        clear n0_ n1_
        (try clear hb)
        (try clear hb2)
        (try clear hk)
        (try clear hi)
        refine hK.out _ _ ⟨cy_ BK287 0, cy_ BK287 1, cy_ BK287 2, cy_ BK287 3, cy_ BK287 4, cy_ BK287 5, cy_ BK287 6, cy_ BK287 7, cy_ BK287 8, cy_ BK287 9, cy_ BK287 10⟩ (fun hHeld => ?_)
        clear hK K
        refine norm_ (a' := ?_) ?_ ?_
        rotate_left
        ·show Act.put _ (some 34) _ = _
         simp only [Act.put, q_]
         rfl
        refine pure_ (i := 32) (N := some 35) (v := ?_) (a' := ?_) tb50_1ffffffff_12 rfl rfl (any_of HT_.out (by kernel_rfl)) (fun _ _ _ h => h) (Or.inl ⟨by rfl, ?_⟩) ?_ ?_
        rotate_left
        ·intro w'
         go_simp
         with_reducible rfl
        rotate_left
        ·simp only [Act.put, q_]
         rfl
        refine pure_ (i := 33) (N := some 36) (v := ?_) (a' := ?_) tb50_3ffffffff_12 rfl rfl (any_of HT_.out (by kernel_rfl)) (fun _ _ _ h => h) (Or.inl ⟨by rfl, ?_⟩) ?_ ?_
        rotate_left
        ·intro w'
         go_simp
         with_reducible rfl
        rotate_left
        ·simp only [Act.put, q_]
         rfl
        refine pure_ (i := 34) (N := some 37) (v := undef) (a' := ?_) tb50_7ffffffff_12 rfl rfl (any_of HT_.out (by kernel_rfl)) (fun _ _ _ h => h) (Or.inr ⟨by rfl, rfl⟩) ?_ ?_
        rotate_left
        ·simp only [Act.put, q_]
         rfl
        refine pure_ (i := 35) (N := some 38) (v := undef) (a' := ?_) tb50_fffffffff_12 rfl rfl (any_of HT_.out (by kernel_rfl)) (fun _ _ _ h => h) (Or.inr ⟨by rfl, rfl⟩) ?_ ?_
        rotate_left
        ·simp only [Act.put, q_]
         rfl
        refine pure_ (i := 36) (N := some 39) (v := undef) (a' := ?_) tb50_1fffffffff_12 rfl rfl (any_of HT_.out (by kernel_rfl)) (fun _ _ _ h => h) (Or.inr ⟨by rfl, rfl⟩) ?_ ?_
        rotate_left
        ·simp only [Act.put, q_]
         rfl
        refine pure_ (i := 37) (N := some 40) (v := ?_) (a' := ?_) tb50_3fffffffff_12 rfl rfl (any_of HT_.out (by kernel_rfl)) (fun _ _ _ h => h) (Or.inl ⟨by rfl, ?_⟩) ?_ ?_
        rotate_left
        ·intro w'
         go_simp
         with_reducible rfl
        rotate_left
        ·simp only [Act.put, q_]
         rfl
        refine pure_ (i := 38) (N := some 41) (v := ?_) (a' := ?_) tb50_7fffffffff_12 rfl rfl (any_of HT_.out (by kernel_rfl)) (fun _ _ _ h => h) (Or.inl ⟨by rfl, ?_⟩) ?_ ?_
        rotate_left
        ·intro w'
         go_simp
         with_reducible rfl
        rotate_left
        ·simp only [Act.put, q_]
         rfl
        refine pure_ (i := 39) (N := some 42) (v := undef) (a' := ?_) tb50_ffffffffff_12 rfl rfl (any_of HT_.out (by kernel_rfl)) (fun _ _ _ h => h) (Or.inr ⟨by rfl, rfl⟩) ?_ ?_
        rotate_left
        ·simp only [Act.put, q_]
         rfl
        refine pure_ (i := 40) (N := some 43) (v := undef) (a' := ?_) tb50_1ffffffffff_12 rfl rfl (any_of HT_.out (by kernel_rfl)) (fun _ _ _ h => h) (Or.inr ⟨by rfl, rfl⟩) ?_ ?_
        rotate_left
        ·simp only [Act.put, q_]
         rfl
        refine pure_ (i := 41) (N := some 44) (v := undef) (a' := ?_) tb50_3ffffffffff_12 rfl rfl (any_of HT_.out (by kernel_rfl)) (fun _ _ _ h => h) (Or.inr ⟨by rfl, rfl⟩) ?_ ?_
        rotate_left
        ·simp only [Act.put, q_]
         rfl
        refine pure_ (i := 42) (N := some 45) (v := undef) (a' := ?_) tb50_7ffffffffff_12 rfl rfl (any_of HT_.out (by kernel_rfl)) (fun _ _ _ h => h) (Or.inr ⟨by rfl, rfl⟩) ?_ ?_
        rotate_left
        ·simp only [Act.put, q_]
         rfl
        refine pure_ (i := 43) (N := some 46) (v := undef) (a' := ?_) tb50_fffffffffff_12 rfl rfl (any_of HT_.out (by kernel_rfl)) (fun _ _ _ h => h) (Or.inr ⟨by rfl, rfl⟩) ?_ ?_
        rotate_left
        ·simp only [Act.put, q_]
         rfl
        refine pure_ (i := 44) (N := some 47) (v := undef) (a' := ?_) tb50_1fffffffffff_12 rfl rfl (any_of HT_.out (by kernel_rfl)) (fun _ _ _ h => h) (Or.inr ⟨by rfl, rfl⟩) ?_ ?_
        rotate_left
        ·simp only [Act.put, q_]
         rfl
        refine pure_ (i := 45) (N := some 48) (v := undef) (a' := ?_) tb50_3fffffffffff_12 rfl rfl (any_of HT_.out (by kernel_rfl)) (fun _ _ _ h => h) (Or.inr ⟨by rfl, rfl⟩) ?_ ?_
        rotate_left
        ·simp only [Act.put, q_]
         rfl
        refine pure_ (i := 46) (N := some 49) (v := undef) (a' := ?_) tb50_7fffffffffff_12 rfl rfl (any_of HT_.out (by kernel_rfl)) (fun _ _ _ h => h) (Or.inr ⟨by rfl, rfl⟩) ?_ ?_
        rotate_left
        ·simp only [Act.put, q_]
         rfl
        refine pure_ (i := 47) (N := some 50) (v := undef) (a' := ?_) tb50_ffffffffffff_12 rfl rfl (any_of HT_.out (by kernel_rfl)) (fun _ _ _ h => h) (Or.inr ⟨by rfl, rfl⟩) ?_ ?_
        rotate_left
        ·simp only [Act.put, q_]
         rfl
        refine pure_ (i := 48) (N := some 51) (v := ?_) (a' := ?_) tb50_1ffffffffffff_12 rfl rfl (any_of HT_.out (by kernel_rfl)) (fun _ _ _ h => h) (Or.inl ⟨by rfl, ?_⟩) ?_ ?_
        rotate_left
        ·intro w'
         go_simp
         with_reducible rfl
        rotate_left
        ·simp only [Act.put, q_]
         rfl
        refine pure_ (i := 49) (N := some 2) (v := ?_) (a' := ?_) tb50_3ffffffffffff_12 rfl rfl (any_of HT_.out (by kernel_rfl)) (fun _ _ _ h => h) (Or.inl ⟨by rfl, ?_⟩) ?_ ?_
        rotate_left
        ·intro w'
         go_simp
         with_reducible rfl
        rotate_left
        ·simp only [Act.put, q_]
         rfl
        refine done_ (done_of HT_.out (by kernel_rfl)) ?_
        try go_wp2
        go_ret
        exact ⟨by first | rfl | (simp [errW_none, errW_some] <;> rfl) | (simp [*, errW_none, errW_some] <;> rfl), bl_⟩
      ·replace c13 := Bool.eq_false_iff.mpr c13
       subst c13
       have H1 : (some false) = some r := by rw [if_neg (show ¬ (false = true) by decide)] at H; exact H
       clear H
       have H := H1
       clear H1
       obtain rfl := Option.some.inj H
       go_enter Try.func20, Try.ntmps20
       try go_wp2_with (first | ((with_reducible refine gate_dst (N := 1) rfl ?_); refine box_event ?hg (N := 1) ?hd (cs := #[.string a0_0, .int .i64 a0_1, .int .i64 a0_2, .int .i64 a0_3, .int .i64 a0_4, .slice A0_5 l0_5.length c0_5, .int .i64 a0_6, .int .i64 a0_7, .slice A0_8 l0_8.length c0_8, .slice A0_9 l0_9.length c0_9, .slice A0_10 l0_10.length c0_10]) (t := 48) ?hr ?_; (case hd => rfl); (case hg => rfl); (case hr => first | (go_simp; done) | (go_simp; rfl)); intro gb287 hg w36 hbox hb; have n0_ := Aside0.mk (below_step bl_ hb); have n1_ := Aside0.mk (hbox); have n2_ := Aside0.mk ((by rw [hg]; exact (below_size bl_) : w.heap.size ≤ gb287)); have n3_ := Aside0.mk ((by rw [hg]; exact (below_size bl_) : w.heap.size ≤ gb287)); clear HB; have HB := n0_; have BK287 := n1_; have GW287 := n2_; have GE287 := n3_; clear n0_ n1_ n2_ n3_; clear hb hbox hg))
       have n0_ := Aside0.mk (blk_drew BK287.out)
       have n1_ := Aside0.mk (below_drew1 HB.out)
       clear BK287
       clear HB
       have BK287 := n0_
       have HB := n1_
       clear n0_ n1_
       refine start_ (n := 50) (S := fun w' => w'.cell? ⟨gb287, 0, none⟩ = some (.string a0_0) ∧ w'.cell? ⟨gb287, 1, none⟩ = some (.int .i64 a0_1) ∧ w'.cell? ⟨gb287, 2, none⟩ = some (.int .i64 a0_2) ∧ w'.cell? ⟨gb287, 3, none⟩ = some (.int .i64 a0_3) ∧ w'.cell? ⟨gb287, 4, none⟩ = some (.int .i64 a0_4) ∧ w'.cell? ⟨gb287, 5, none⟩ = some (.slice A0_5 l0_5.length c0_5) ∧ w'.cell? ⟨gb287, 6, none⟩ = some (.int .i64 a0_6) ∧ w'.cell? ⟨gb287, 7, none⟩ = some (.int .i64 a0_7) ∧ w'.cell? ⟨gb287, 8, none⟩ = some (.slice A0_8 l0_8.length c0_8) ∧ w'.cell? ⟨gb287, 9, none⟩ = some (.slice A0_9 l0_9.length c0_9) ∧ w'.cell? ⟨gb287, 10, none⟩ = some (.slice A0_10 l0_10.length c0_10)) (ds := []) tb50_0_12 (by kernel_rfl) rfl rfl ⟨cy_ BK287 0, cy_ BK287 1, cy_ BK287 2, cy_ BK287 3, cy_ BK287 4, cy_ BK287 5, cy_ BK287 6, cy_ BK287 7, cy_ BK287 8, cy_ BK287 9, cy_ BK287 10⟩ (fun hHeld => ?_); refine with_tabW impl_AcctOk.tab1 impl_AcctOk.bits1 (fun HT_ HW_ => ?_)
       generalize w36.drew = w37 at BK287 HB hHeld ⊢
       refine pure_ (i := 0) (N := some 3) (v := ?_) (a' := ?_) tb50_1_12 rfl rfl (any_of HT_.out (by kernel_rfl)) (fun _ _ _ h => h) (Or.inl ⟨by rfl, ?_⟩) ?_ ?_
       rotate_left
       ·intro w'
        go_simp
        with_reducible rfl
       rotate_left
       ·simp only [Act.put, q_]
        rfl
       refine take_ (i := 1) (N := some 4) (v := ?_) (a' := ?_) tb50_3_12 rfl rfl (take_ofW HT_.out HW_.out (by kernel_rfl)) (fun _ _ _ h => h) (Or.inl ⟨by rfl, ?_⟩) hHeld ?_ ?_
       rotate_left
       ·rintro w' ⟨s0, s1, s2, s3, s4, s5, s6, s7, s8, s9, s10⟩
        go_simp
        with_reducible rfl
       rotate_left
       ·simp only [Act.put, q_]
        rfl
       refine one_ (i := 2) (N := some 5) tb50_7_12 rfl rfl (one_of HT_.out (by kernel_rfl)) (by decide) (fun K hK => ?_)
       refine goes_ Try.func70 (by kernel_rfl) rfl #[.string a0_0] (by rfl) rfl rfl gl_ ?_
       with_reducible refine (impl_AcctIdOk.calls k a0_0 true _ A2.out).mono ?_
       rintro e w' ⟨rfl, ⟨nd, rfl⟩⟩
       refine ⟨_, rfl, ?_⟩
       refine hK.out _ _ ⟨cy_ BK287 0, cy_ BK287 1, cy_ BK287 2, cy_ BK287 3, cy_ BK287 4, cy_ BK287 5, cy_ BK287 6, cy_ BK287 7, cy_ BK287 8, cy_ BK287 9, cy_ BK287 10⟩ (fun hHeld => ?_)
       clear hK K
       refine norm_ (a' := ?_) ?_ ?_
       rotate_left
       ·show Act.put _ (some 5) _ = _
        simp only [Act.put, q_]
        rfl
       refine pure_ (i := 3) (N := some 6) (v := ?_) (a' := ?_) tb50_f_12 rfl rfl (any_of HT_.out (by kernel_rfl)) (fun _ _ _ h => h) (Or.inl ⟨by rfl, ?_⟩) ?_ ?_
       rotate_left
       ·intro w'
        go_simp
        with_reducible rfl
       rotate_left
       ·simp only [Act.put, q_]
        rfl
       refine pure_ (i := 4) (N := some 7) (v := ?_) (a' := ?_) tb50_1f_12 rfl rfl (any_of HT_.out (by kernel_rfl)) (fun _ _ _ h => h) (Or.inl ⟨by rfl, ?_⟩) ?_ ?_
       rotate_left
       ·intro w'
        go_simp
        with_reducible rfl
       rotate_left
       ·simp only [Act.put, q_]
        rfl
       refine take_ (i := 5) (N := some 8) (v := ?_) (a' := ?_) tb50_3f_12 rfl rfl (take_ofW HT_.out HW_.out (by kernel_rfl)) (fun _ _ _ h => h) (Or.inl ⟨by rfl, ?_⟩) hHeld ?_ ?_
       rotate_left
       ·rintro w' ⟨s0, s1, s2, s3, s4, s5, s6, s7, s8, s9, s10⟩
        go_simp
        with_reducible rfl
       rotate_left
       ·simp only [Act.put, q_]
        rfl
       refine one_ (i := 6) (N := some 9) tb50_7f_12 rfl rfl (one_of HT_.out (by kernel_rfl)) (by decide) (fun K hK => ?_)
       refine goes_ Try.func71 (by kernel_rfl) rfl #[.int .i64 a0_1, .int .i64 0, .int .i64 9007199254740992] (by rfl) rfl rfl gl_ ?_
       with_reducible refine (impl_within.calls a0_1 0 9007199254740992 true _ A4.out).mono ?_
       rintro e w' ⟨rfl, ⟨nd, rfl⟩⟩
       refine ⟨_, rfl, ?_⟩
       refine hK.out _ _ ⟨cy_ BK287 0, cy_ BK287 1, cy_ BK287 2, cy_ BK287 3, cy_ BK287 4, cy_ BK287 5, cy_ BK287 6, cy_ BK287 7, cy_ BK287 8, cy_ BK287 9, cy_ BK287 10⟩ (fun hHeld => ?_)
       clear hK K
       refine norm_ (a' := ?_) ?_ ?_
       rotate_left
       ·show Act.put _ (some 9) _ = _
        simp only [Act.put, q_]
        rfl
       refine pure_ (i := 7) (N := some 10) (v := ?_) (a' := ?_) tb50_ff_12 rfl rfl (any_of HT_.out (by kernel_rfl)) (fun _ _ _ h => h) (Or.inl ⟨by rfl, ?_⟩) ?_ ?_
       rotate_left
       ·intro w'
        go_simp
        with_reducible rfl
       rotate_left
       ·simp only [Act.put, q_]
        rfl
       refine pure_ (i := 8) (N := some 11) (v := ?_) (a' := ?_) tb50_1ff_12 rfl rfl (any_of HT_.out (by kernel_rfl)) (fun _ _ _ h => h) (Or.inl ⟨by rfl, ?_⟩) ?_ ?_
       rotate_left
       ·intro w'
        go_simp
        with_reducible rfl
       rotate_left
       ·simp only [Act.put, q_]
        rfl
       refine pure_ (i := 9) (N := some 12) (v := ?_) (a' := ?_) tb50_3ff_12 rfl rfl (any_of HT_.out (by kernel_rfl)) (fun _ _ _ h => h) (Or.inl ⟨by rfl, ?_⟩) ?_ ?_
       rotate_left
       ·intro w'
        go_simp
        with_reducible rfl
       rotate_left
       ·simp only [Act.put, q_]
        rfl
       refine take_ (i := 10) (N := some 13) (v := ?_) (a' := ?_) tb50_7ff_12 rfl rfl (take_ofW HT_.out HW_.out (by kernel_rfl)) (fun _ _ _ h => h) (Or.inl ⟨by rfl, ?_⟩) hHeld ?_ ?_
       rotate_left
       ·rintro w' ⟨s0, s1, s2, s3, s4, s5, s6, s7, s8, s9, s10⟩
        go_simp
        with_reducible rfl
       rotate_left
       ·simp only [Act.put, q_]
        rfl
       refine one_ (i := 11) (N := some 14) tb50_fff_12 rfl rfl (one_of HT_.out (by kernel_rfl)) (by decide) (fun K hK => ?_)
       refine goes_ Try.func71 (by kernel_rfl) rfl #[.int .i64 a0_3, .int .i64 0, .int .i64 1000] (by rfl) rfl rfl gl_ ?_
       with_reducible refine (impl_within.calls a0_3 0 1000 true _ A6.out).mono ?_
       rintro e w' ⟨rfl, ⟨nd, rfl⟩⟩
       refine ⟨_, rfl, ?_⟩
       refine hK.out _ _ ⟨cy_ BK287 0, cy_ BK287 1, cy_ BK287 2, cy_ BK287 3, cy_ BK287 4, cy_ BK287 5, cy_ BK287 6, cy_ BK287 7, cy_ BK287 8, cy_ BK287 9, cy_ BK287 10⟩ (fun hHeld => ?_)
       clear hK K
       refine norm_ (a' := ?_) ?_ ?_
       rotate_left
       ·show Act.put _ (some 14) _ = _
        simp only [Act.put, q_]
        rfl
       refine pure_ (i := 12) (N := some 15) (v := ?_) (a' := ?_) tb50_1fff_12 rfl rfl (any_of HT_.out (by kernel_rfl)) (fun _ _ _ h => h) (Or.inl ⟨by rfl, ?_⟩) ?_ ?_
       rotate_left
       ·intro w'
        go_simp
        with_reducible rfl
       rotate_left
       ·simp only [Act.put, q_]
        rfl
       refine pure_ (i := 13) (N := some 16) (v := ?_) (a' := ?_) tb50_3fff_12 rfl rfl (any_of HT_.out (by kernel_rfl)) (fun _ _ _ h => h) (Or.inl ⟨by rfl, ?_⟩) ?_ ?_
       rotate_left
       ·intro w'
        go_simp
        with_reducible rfl
       rotate_left
       ·simp only [Act.put, q_]
        rfl
       refine pure_ (i := 14) (N := some 17) (v := ?_) (a' := ?_) tb50_7fff_12 rfl rfl (any_of HT_.out (by kernel_rfl)) (fun _ _ _ h => h) (Or.inl ⟨by rfl, ?_⟩) ?_ ?_
       rotate_left
       ·intro w'
        go_simp
        with_reducible rfl
       rotate_left
       ·simp only [Act.put, q_]
        rfl
       refine take_ (i := 15) (N := some 18) (v := ?_) (a' := ?_) tb50_ffff_12 rfl rfl (take_ofW HT_.out HW_.out (by kernel_rfl)) (fun _ _ _ h => h) (Or.inl ⟨by rfl, ?_⟩) hHeld ?_ ?_
       rotate_left
       ·rintro w' ⟨s0, s1, s2, s3, s4, s5, s6, s7, s8, s9, s10⟩
        go_simp
        with_reducible rfl
       rotate_left
       ·simp only [Act.put, q_]
        rfl
       refine one_ (i := 16) (N := some 19) tb50_1ffff_12 rfl rfl (one_of HT_.out (by kernel_rfl)) (by decide) (fun K hK => ?_)
       refine goes_ Try.func71 (by kernel_rfl) rfl #[.int .i64 a0_4, .int .i64 0, .int .i64 9007199254740992] (by rfl) rfl rfl gl_ ?_
       with_reducible refine (impl_within.calls a0_4 0 9007199254740992 true _ A8.out).mono ?_
       rintro e w' ⟨rfl, ⟨nd, rfl⟩⟩
       refine ⟨_, rfl, ?_⟩
       refine hK.out _ _ ⟨cy_ BK287 0, cy_ BK287 1, cy_ BK287 2, cy_ BK287 3, cy_ BK287 4, cy_ BK287 5, cy_ BK287 6, cy_ BK287 7, cy_ BK287 8, cy_ BK287 9, cy_ BK287 10⟩ (fun hHeld => ?_)
       clear hK K
       refine norm_ (a' := ?_) ?_ ?_
       rotate_left
       ·show Act.put _ (some 19) _ = _
        simp only [Act.put, q_]
        rfl
       refine pure_ (i := 17) (N := some 20) (v := ?_) (a' := ?_) tb50_3ffff_12 rfl rfl (any_of HT_.out (by kernel_rfl)) (fun _ _ _ h => h) (Or.inl ⟨by rfl, ?_⟩) ?_ ?_
       rotate_left
       ·intro w'
        go_simp
        with_reducible rfl
       rotate_left
       ·simp only [Act.put, q_]
        rfl
       refine pure_ (i := 18) (N := some 21) (v := ?_) (a' := ?_) tb50_7ffff_12 rfl rfl (any_of HT_.out (by kernel_rfl)) (fun _ _ _ h => h) (Or.inl ⟨by rfl, ?_⟩) ?_ ?_
       rotate_left
       ·intro w'
        go_simp
        with_reducible rfl
       rotate_left
       ·simp only [Act.put, q_]
        rfl
       refine pure_ (i := 19) (N := some 22) (v := ?_) (a' := ?_) tb50_fffff_12 rfl rfl (any_of HT_.out (by kernel_rfl)) (fun _ _ _ h => h) (Or.inl ⟨by rfl, ?_⟩) ?_ ?_
       rotate_left
       ·intro w'
        go_simp
        with_reducible rfl
       rotate_left
       ·simp only [Act.put, q_]
        rfl
       refine take_ (i := 20) (N := some 23) (v := ?_) (a' := ?_) tb50_1fffff_12 rfl rfl (take_ofW HT_.out HW_.out (by kernel_rfl)) (fun _ _ _ h => h) (Or.inl ⟨by rfl, ?_⟩) hHeld ?_ ?_
       rotate_left
       ·rintro w' ⟨s0, s1, s2, s3, s4, s5, s6, s7, s8, s9, s10⟩
        go_simp
        with_reducible rfl
       rotate_left
       ·simp only [Act.put, q_]
        rfl
       refine one_ (i := 21) (N := some 24) tb50_3fffff_12 rfl rfl (one_of HT_.out (by kernel_rfl)) (by decide) (fun K hK => ?_)
       refine goes_ Try.func72 (by kernel_rfl) rfl #[.int .i64 a0_2] (by rfl) rfl rfl gl_ ?_
       with_reducible refine (impl_isMoney.calls a0_2 true _ A10.out).mono ?_
       rintro e w' ⟨rfl, ⟨nd, rfl⟩⟩
       refine ⟨_, rfl, ?_⟩
       refine hK.out _ _ ⟨cy_ BK287 0, cy_ BK287 1, cy_ BK287 2, cy_ BK287 3, cy_ BK287 4, cy_ BK287 5, cy_ BK287 6, cy_ BK287 7, cy_ BK287 8, cy_ BK287 9, cy_ BK287 10⟩ (fun hHeld => ?_)
       clear hK K
       refine norm_ (a' := ?_) ?_ ?_
       rotate_left
       ·show Act.put _ (some 24) _ = _
        simp only [Act.put, q_]
        rfl
       refine pure_ (i := 22) (N := some 25) (v := ?_) (a' := ?_) tb50_7fffff_12 rfl rfl (any_of HT_.out (by kernel_rfl)) (fun _ _ _ h => h) (Or.inl ⟨by rfl, ?_⟩) ?_ ?_
       rotate_left
       ·intro w'
        go_simp
        with_reducible rfl
       rotate_left
       ·simp only [Act.put, q_]
        rfl
       refine pure_ (i := 23) (N := some 26) (v := ?_) (a' := ?_) tb50_ffffff_12 rfl rfl (any_of HT_.out (by kernel_rfl)) (fun _ _ _ h => h) (Or.inl ⟨by rfl, ?_⟩) ?_ ?_
       rotate_left
       ·intro w'
        go_simp
        with_reducible rfl
       rotate_left
       ·simp only [Act.put, q_]
        rfl
       refine pure_ (i := 24) (N := some 27) (v := ?_) (a' := ?_) tb50_1ffffff_12 rfl rfl (any_of HT_.out (by kernel_rfl)) (fun _ _ _ h => h) (Or.inl ⟨by rfl, ?_⟩) ?_ ?_
       rotate_left
       ·intro w'
        go_simp
        with_reducible rfl
       rotate_left
       ·simp only [Act.put, q_]
        rfl
       refine take_ (i := 25) (N := some 28) (v := ?_) (a' := ?_) tb50_3ffffff_12 rfl rfl (take_ofW HT_.out HW_.out (by kernel_rfl)) (fun _ _ _ h => h) (Or.inl ⟨by rfl, ?_⟩) hHeld ?_ ?_
       rotate_left
       ·rintro w' ⟨s0, s1, s2, s3, s4, s5, s6, s7, s8, s9, s10⟩
        go_simp
        with_reducible rfl
       rotate_left
       ·simp only [Act.put, q_]
        rfl
       refine one_ (i := 26) (N := some 29) tb50_7ffffff_12 rfl rfl (one_of HT_.out (by kernel_rfl)) (by decide) (fun K hK => ?_)
       refine goes_ Try.func73 (by kernel_rfl) rfl #[.slice A0_5 l0_5.length c0_5] (by rfl) rfl rfl gl_ ?_
       with_reducible refine (impl_HoldsOk.calls k _ _ l0_5 false _ ?side1 ?side2 A12.out).mono ?_
       (case side1 => exact ca_ (Kd.C_below HR0_5.out bl_))
       (case side2 => exact HC0_5.out)
       rintro e w38 ⟨rfl, hb⟩
       refine ⟨_, rfl, ?_⟩
       have n0_ := Aside0.mk (blk_below (bk_ BK287) hb)
       have n1_ := Aside0.mk (below_step bl_ hb)
       clear BK287
       clear HB
       have BK287 := n0_
       have HB := n1_
       clear n0_ n1_
       (try clear hb)
       (try clear hb2)
       (try clear hk)
       (try clear hi)
       refine hK.out _ _ ⟨cy_ BK287 0, cy_ BK287 1, cy_ BK287 2, cy_ BK287 3, cy_ BK287 4, cy_ BK287 5, cy_ BK287 6, cy_ BK287 7, cy_ BK287 8, cy_ BK287 9, cy_ BK287 10⟩ (fun hHeld => ?_)
       clear hK K
       refine norm_ (a' := ?_) ?_ ?_
       rotate_left
       ·show Act.put _ (some 29) _ = _
        simp only [Act.put, q_]
        rfl
       refine pure_ (i := 27) (N := some 30) (v := ?_) (a' := ?_) tb50_fffffff_12 rfl rfl (any_of HT_.out (by kernel_rfl)) (fun _ _ _ h => h) (Or.inl ⟨by rfl, ?_⟩) ?_ ?_
       rotate_left
       ·intro w'
        go_simp
        with_reducible rfl
       rotate_left
       ·simp only [Act.put, q_]
        rfl
       refine pure_ (i := 28) (N := some 31) (v := ?_) (a' := ?_) tb50_1fffffff_12 rfl rfl (any_of HT_.out (by kernel_rfl)) (fun _ _ _ h => h) (Or.inl ⟨by rfl, ?_⟩) ?_ ?_
       rotate_left
       ·intro w'
        go_simp
        with_reducible rfl
       rotate_left
       ·simp only [Act.put, q_]
        rfl
       refine pure_ (i := 29) (N := some 32) (v := undef) (a' := ?_) tb50_3fffffff_12 rfl rfl (any_of HT_.out (by kernel_rfl)) (fun _ _ _ h => h) (Or.inr ⟨by rfl, rfl⟩) ?_ ?_
       rotate_left
       ·simp only [Act.put, q_]
        rfl
       refine pure_ (i := 30) (N := some 33) (v := undef) (a' := ?_) tb50_7fffffff_12 rfl rfl (any_of HT_.out (by kernel_rfl)) (fun _ _ _ h => h) (Or.inr ⟨by rfl, rfl⟩) ?_ ?_
       rotate_left
       ·simp only [Act.put, q_]
        rfl
       refine pure_ (i := 31) (N := some 34) (v := undef) (a' := ?_) tb50_ffffffff_12 rfl rfl (any_of HT_.out (by kernel_rfl)) (fun _ _ _ h => h) (Or.inr ⟨by rfl, rfl⟩) ?_ ?_
       rotate_left
       ·simp only [Act.put, q_]
        rfl
       refine pure_ (i := 32) (N := some 35) (v := ?_) (a' := ?_) tb50_1ffffffff_12 rfl rfl (any_of HT_.out (by kernel_rfl)) (fun _ _ _ h => h) (Or.inl ⟨by rfl, ?_⟩) ?_ ?_
       rotate_left
       ·intro w'
        go_simp
        with_reducible rfl
       rotate_left
       ·simp only [Act.put, q_]
        rfl
       refine pure_ (i := 33) (N := some 36) (v := ?_) (a' := ?_) tb50_3ffffffff_12 rfl rfl (any_of HT_.out (by kernel_rfl)) (fun _ _ _ h => h) (Or.inl ⟨by rfl, ?_⟩) ?_ ?_
       rotate_left
       ·intro w'
        go_simp
        with_reducible rfl
       rotate_left
       ·simp only [Act.put, q_]
        rfl
       refine pure_ (i := 34) (N := some 37) (v := undef) (a' := ?_) tb50_7ffffffff_12 rfl rfl (any_of HT_.out (by kernel_rfl)) (fun _ _ _ h => h) (Or.inr ⟨by rfl, rfl⟩) ?_ ?_
       rotate_left
       ·simp only [Act.put, q_]
        rfl
       refine pure_ (i := 35) (N := some 38) (v := undef) (a' := ?_) tb50_fffffffff_12 rfl rfl (any_of HT_.out (by kernel_rfl)) (fun _ _ _ h => h) (Or.inr ⟨by rfl, rfl⟩) ?_ ?_
       rotate_left
       ·simp only [Act.put, q_]
        rfl
       refine pure_ (i := 36) (N := some 39) (v := undef) (a' := ?_) tb50_1fffffffff_12 rfl rfl (any_of HT_.out (by kernel_rfl)) (fun _ _ _ h => h) (Or.inr ⟨by rfl, rfl⟩) ?_ ?_
       rotate_left
       ·simp only [Act.put, q_]
        rfl
       refine pure_ (i := 37) (N := some 40) (v := ?_) (a' := ?_) tb50_3fffffffff_12 rfl rfl (any_of HT_.out (by kernel_rfl)) (fun _ _ _ h => h) (Or.inl ⟨by rfl, ?_⟩) ?_ ?_
       rotate_left
       ·intro w'
        go_simp
        with_reducible rfl
       rotate_left
       ·simp only [Act.put, q_]
        rfl
       refine pure_ (i := 38) (N := some 41) (v := ?_) (a' := ?_) tb50_7fffffffff_12 rfl rfl (any_of HT_.out (by kernel_rfl)) (fun _ _ _ h => h) (Or.inl ⟨by rfl, ?_⟩) ?_ ?_
       rotate_left
       ·intro w'
        go_simp
        with_reducible rfl
       rotate_left
       ·simp only [Act.put, q_]
        rfl
       refine pure_ (i := 39) (N := some 42) (v := undef) (a' := ?_) tb50_ffffffffff_12 rfl rfl (any_of HT_.out (by kernel_rfl)) (fun _ _ _ h => h) (Or.inr ⟨by rfl, rfl⟩) ?_ ?_
       rotate_left
       ·simp only [Act.put, q_]
        rfl
       refine pure_ (i := 40) (N := some 43) (v := undef) (a' := ?_) tb50_1ffffffffff_12 rfl rfl (any_of HT_.out (by kernel_rfl)) (fun _ _ _ h => h) (Or.inr ⟨by rfl, rfl⟩) ?_ ?_
       rotate_left
       ·simp only [Act.put, q_]
        rfl
       refine pure_ (i := 41) (N := some 44) (v := undef) (a' := ?_) tb50_3ffffffffff_12 rfl rfl (any_of HT_.out (by kernel_rfl)) (fun _ _ _ h => h) (Or.inr ⟨by rfl, rfl⟩) ?_ ?_
       rotate_left
       ·simp only [Act.put, q_]
        rfl
       refine pure_ (i := 42) (N := some 45) (v := undef) (a' := ?_) tb50_7ffffffffff_12 rfl rfl (any_of HT_.out (by kernel_rfl)) (fun _ _ _ h => h) (Or.inr ⟨by rfl, rfl⟩) ?_ ?_
       rotate_left
       ·simp only [Act.put, q_]
        rfl
       refine pure_ (i := 43) (N := some 46) (v := undef) (a' := ?_) tb50_fffffffffff_12 rfl rfl (any_of HT_.out (by kernel_rfl)) (fun _ _ _ h => h) (Or.inr ⟨by rfl, rfl⟩) ?_ ?_
       rotate_left
       ·simp only [Act.put, q_]
        rfl
       refine pure_ (i := 44) (N := some 47) (v := undef) (a' := ?_) tb50_1fffffffffff_12 rfl rfl (any_of HT_.out (by kernel_rfl)) (fun _ _ _ h => h) (Or.inr ⟨by rfl, rfl⟩) ?_ ?_
       rotate_left
       ·simp only [Act.put, q_]
        rfl
       refine pure_ (i := 45) (N := some 48) (v := undef) (a' := ?_) tb50_3fffffffffff_12 rfl rfl (any_of HT_.out (by kernel_rfl)) (fun _ _ _ h => h) (Or.inr ⟨by rfl, rfl⟩) ?_ ?_
       rotate_left
       ·simp only [Act.put, q_]
        rfl
       refine pure_ (i := 46) (N := some 49) (v := undef) (a' := ?_) tb50_7fffffffffff_12 rfl rfl (any_of HT_.out (by kernel_rfl)) (fun _ _ _ h => h) (Or.inr ⟨by rfl, rfl⟩) ?_ ?_
       rotate_left
       ·simp only [Act.put, q_]
        rfl
       refine pure_ (i := 47) (N := some 50) (v := undef) (a' := ?_) tb50_ffffffffffff_12 rfl rfl (any_of HT_.out (by kernel_rfl)) (fun _ _ _ h => h) (Or.inr ⟨by rfl, rfl⟩) ?_ ?_
       rotate_left
       ·simp only [Act.put, q_]
        rfl
       refine pure_ (i := 48) (N := some 51) (v := ?_) (a' := ?_) tb50_1ffffffffffff_12 rfl rfl (any_of HT_.out (by kernel_rfl)) (fun _ _ _ h => h) (Or.inl ⟨by rfl, ?_⟩) ?_ ?_
       rotate_left
       ·intro w'
        go_simp
        with_reducible rfl
       rotate_left
       ·simp only [Act.put, q_]
        rfl
       refine pure_ (i := 49) (N := some 2) (v := ?_) (a' := ?_) tb50_3ffffffffffff_12 rfl rfl (any_of HT_.out (by kernel_rfl)) (fun _ _ _ h => h) (Or.inl ⟨by rfl, ?_⟩) ?_ ?_
       rotate_left
       ·intro w'
        go_simp
        with_reducible rfl
       rotate_left
       ·simp only [Act.put, q_]
        rfl
       refine done_ (done_of HT_.out (by kernel_rfl)) ?_
       try go_wp2
       go_ret
       exact ⟨by first | rfl | (simp [errW_none, errW_some] <;> rfl) | (simp [*, errW_none, errW_some] <;> rfl), bl_⟩
     ·replace c11 := Bool.eq_false_iff.mpr c11
      subst c11
      have H1 : (some false) = some r := by rw [if_neg (show ¬ (false = true) by decide)] at H; exact H
      clear H
      have H := H1
      clear H1
      obtain rfl := Option.some.inj H
      go_enter Try.func20, Try.ntmps20
      try go_wp2_with (first | ((with_reducible refine gate_dst (N := 1) rfl ?_); refine box_event ?hg (N := 1) ?hd (cs := #[.string a0_0, .int .i64 a0_1, .int .i64 a0_2, .int .i64 a0_3, .int .i64 a0_4, .slice A0_5 l0_5.length c0_5, .int .i64 a0_6, .int .i64 a0_7, .slice A0_8 l0_8.length c0_8, .slice A0_9 l0_9.length c0_9, .slice A0_10 l0_10.length c0_10]) (t := 48) ?hr ?_; (case hd => rfl); (case hg => rfl); (case hr => first | (go_simp; done) | (go_simp; rfl)); intro gb287 hg w39 hbox hb; have n0_ := Aside0.mk (below_step bl_ hb); have n1_ := Aside0.mk (hbox); have n2_ := Aside0.mk ((by rw [hg]; exact (below_size bl_) : w.heap.size ≤ gb287)); have n3_ := Aside0.mk ((by rw [hg]; exact (below_size bl_) : w.heap.size ≤ gb287)); clear HB; have HB := n0_; have BK287 := n1_; have GW287 := n2_; have GE287 := n3_; clear n0_ n1_ n2_ n3_; clear hb hbox hg))
      have n0_ := Aside0.mk (blk_drew BK287.out)
      have n1_ := Aside0.mk (below_drew1 HB.out)
      clear BK287
      clear HB
      have BK287 := n0_
      have HB := n1_
      clear n0_ n1_
      refine start_ (n := 50) (S := fun w' => w'.cell? ⟨gb287, 0, none⟩ = some (.string a0_0) ∧ w'.cell? ⟨gb287, 1, none⟩ = some (.int .i64 a0_1) ∧ w'.cell? ⟨gb287, 2, none⟩ = some (.int .i64 a0_2) ∧ w'.cell? ⟨gb287, 3, none⟩ = some (.int .i64 a0_3) ∧ w'.cell? ⟨gb287, 4, none⟩ = some (.int .i64 a0_4) ∧ w'.cell? ⟨gb287, 5, none⟩ = some (.slice A0_5 l0_5.length c0_5) ∧ w'.cell? ⟨gb287, 6, none⟩ = some (.int .i64 a0_6) ∧ w'.cell? ⟨gb287, 7, none⟩ = some (.int .i64 a0_7) ∧ w'.cell? ⟨gb287, 8, none⟩ = some (.slice A0_8 l0_8.length c0_8) ∧ w'.cell? ⟨gb287, 9, none⟩ = some (.slice A0_9 l0_9.length c0_9) ∧ w'.cell? ⟨gb287, 10, none⟩ = some (.slice A0_10 l0_10.length c0_10)) (ds := []) tb50_0_12 (by kernel_rfl) rfl rfl ⟨cy_ BK287 0, cy_ BK287 1, cy_ BK287 2, cy_ BK287 3, cy_ BK287 4, cy_ BK287 5, cy_ BK287 6, cy_ BK287 7, cy_ BK287 8, cy_ BK287 9, cy_ BK287 10⟩ (fun hHeld => ?_); refine with_tabW impl_AcctOk.tab1 impl_AcctOk.bits1 (fun HT_ HW_ => ?_)
      generalize w39.drew = w40 at BK287 HB hHeld ⊢
      refine pure_ (i := 0) (N := some 3) (v := ?_) (a' := ?_) tb50_1_12 rfl rfl (any_of HT_.out (by kernel_rfl)) (fun _ _ _ h => h) (Or.inl ⟨by rfl, ?_⟩) ?_ ?_
      rotate_left
      ·intro w'
       go_simp
       with_reducible rfl
      rotate_left
      ·simp only [Act.put, q_]
       rfl
      refine take_ (i := 1) (N := some 4) (v := ?_) (a' := ?_) tb50_3_12 rfl rfl (take_ofW HT_.out HW_.out (by kernel_rfl)) (fun _ _ _ h => h) (Or.inl ⟨by rfl, ?_⟩) hHeld ?_ ?_
      rotate_left
      ·rintro w' ⟨s0, s1, s2, s3, s4, s5, s6, s7, s8, s9, s10⟩
       go_simp
       with_reducible rfl
      rotate_left
      ·simp only [Act.put, q_]
       rfl
      refine one_ (i := 2) (N := some 5) tb50_7_12 rfl rfl (one_of HT_.out (by kernel_rfl)) (by decide) (fun K hK => ?_)
      refine goes_ Try.func70 (by kernel_rfl) rfl #[.string a0_0] (by rfl) rfl rfl gl_ ?_
      with_reducible refine (impl_AcctIdOk.calls k a0_0 true _ A2.out).mono ?_
      rintro e w' ⟨rfl, ⟨nd, rfl⟩⟩
      refine ⟨_, rfl, ?_⟩
      refine hK.out _ _ ⟨cy_ BK287 0, cy_ BK287 1, cy_ BK287 2, cy_ BK287 3, cy_ BK287 4, cy_ BK287 5, cy_ BK287 6, cy_ BK287 7, cy_ BK287 8, cy_ BK287 9, cy_ BK287 10⟩ (fun hHeld => ?_)
      clear hK K
      refine norm_ (a' := ?_) ?_ ?_
      rotate_left
      ·show Act.put _ (some 5) _ = _
       simp only [Act.put, q_]
       rfl
      refine pure_ (i := 3) (N := some 6) (v := ?_) (a' := ?_) tb50_f_12 rfl rfl (any_of HT_.out (by kernel_rfl)) (fun _ _ _ h => h) (Or.inl ⟨by rfl, ?_⟩) ?_ ?_
      rotate_left
      ·intro w'
       go_simp
       with_reducible rfl
      rotate_left
      ·simp only [Act.put, q_]
       rfl
      refine pure_ (i := 4) (N := some 7) (v := ?_) (a' := ?_) tb50_1f_12 rfl rfl (any_of HT_.out (by kernel_rfl)) (fun _ _ _ h => h) (Or.inl ⟨by rfl, ?_⟩) ?_ ?_
      rotate_left
      ·intro w'
       go_simp
       with_reducible rfl
      rotate_left
      ·simp only [Act.put, q_]
       rfl
      refine take_ (i := 5) (N := some 8) (v := ?_) (a' := ?_) tb50_3f_12 rfl rfl (take_ofW HT_.out HW_.out (by kernel_rfl)) (fun _ _ _ h => h) (Or.inl ⟨by rfl, ?_⟩) hHeld ?_ ?_
      rotate_left
      ·rintro w' ⟨s0, s1, s2, s3, s4, s5, s6, s7, s8, s9, s10⟩
       go_simp
       with_reducible rfl
      rotate_left
      ·simp only [Act.put, q_]
       rfl
      refine one_ (i := 6) (N := some 9) tb50_7f_12 rfl rfl (one_of HT_.out (by kernel_rfl)) (by decide) (fun K hK => ?_)
      refine goes_ Try.func71 (by kernel_rfl) rfl #[.int .i64 a0_1, .int .i64 0, .int .i64 9007199254740992] (by rfl) rfl rfl gl_ ?_
      with_reducible refine (impl_within.calls a0_1 0 9007199254740992 true _ A4.out).mono ?_
      rintro e w' ⟨rfl, ⟨nd, rfl⟩⟩
      refine ⟨_, rfl, ?_⟩
      refine hK.out _ _ ⟨cy_ BK287 0, cy_ BK287 1, cy_ BK287 2, cy_ BK287 3, cy_ BK287 4, cy_ BK287 5, cy_ BK287 6, cy_ BK287 7, cy_ BK287 8, cy_ BK287 9, cy_ BK287 10⟩ (fun hHeld => ?_)
      clear hK K
      refine norm_ (a' := ?_) ?_ ?_
      rotate_left
      ·show Act.put _ (some 9) _ = _
       simp only [Act.put, q_]
       rfl
      refine pure_ (i := 7) (N := some 10) (v := ?_) (a' := ?_) tb50_ff_12 rfl rfl (any_of HT_.out (by kernel_rfl)) (fun _ _ _ h => h) (Or.inl ⟨by rfl, ?_⟩) ?_ ?_
      rotate_left
      ·intro w'
       go_simp
       with_reducible rfl
      rotate_left
      ·simp only [Act.put, q_]
       rfl
      refine pure_ (i := 8) (N := some 11) (v := ?_) (a' := ?_) tb50_1ff_12 rfl rfl (any_of HT_.out (by kernel_rfl)) (fun _ _ _ h => h) (Or.inl ⟨by rfl, ?_⟩) ?_ ?_
      rotate_left
      ·intro w'
       go_simp
       with_reducible rfl
      rotate_left
      ·simp only [Act.put, q_]
       rfl
      refine pure_ (i := 9) (N := some 12) (v := ?_) (a' := ?_) tb50_3ff_12 rfl rfl (any_of HT_.out (by kernel_rfl)) (fun _ _ _ h => h) (Or.inl ⟨by rfl, ?_⟩) ?_ ?_
      rotate_left
      ·intro w'
       go_simp
       with_reducible rfl
      rotate_left
      ·simp only [Act.put, q_]
       rfl
      refine take_ (i := 10) (N := some 13) (v := ?_) (a' := ?_) tb50_7ff_12 rfl rfl (take_ofW HT_.out HW_.out (by kernel_rfl)) (fun _ _ _ h => h) (Or.inl ⟨by rfl, ?_⟩) hHeld ?_ ?_
      rotate_left
      ·rintro w' ⟨s0, s1, s2, s3, s4, s5, s6, s7, s8, s9, s10⟩
       go_simp
       with_reducible rfl
      rotate_left
      ·simp only [Act.put, q_]
       rfl
      refine one_ (i := 11) (N := some 14) tb50_fff_12 rfl rfl (one_of HT_.out (by kernel_rfl)) (by decide) (fun K hK => ?_)
      refine goes_ Try.func71 (by kernel_rfl) rfl #[.int .i64 a0_3, .int .i64 0, .int .i64 1000] (by rfl) rfl rfl gl_ ?_
      with_reducible refine (impl_within.calls a0_3 0 1000 true _ A6.out).mono ?_
      rintro e w' ⟨rfl, ⟨nd, rfl⟩⟩
      refine ⟨_, rfl, ?_⟩
      refine hK.out _ _ ⟨cy_ BK287 0, cy_ BK287 1, cy_ BK287 2, cy_ BK287 3, cy_ BK287 4, cy_ BK287 5, cy_ BK287 6, cy_ BK287 7, cy_ BK287 8, cy_ BK287 9, cy_ BK287 10⟩ (fun hHeld => ?_)
      clear hK K
      refine norm_ (a' := ?_) ?_ ?_
      rotate_left
      ·show Act.put _ (some 14) _ = _
       simp only [Act.put, q_]
       rfl
      refine pure_ (i := 12) (N := some 15) (v := ?_) (a' := ?_) tb50_1fff_12 rfl rfl (any_of HT_.out (by kernel_rfl)) (fun _ _ _ h => h) (Or.inl ⟨by rfl, ?_⟩) ?_ ?_
      rotate_left
      ·intro w'
       go_simp
       with_reducible rfl
      rotate_left
      ·simp only [Act.put, q_]
       rfl
      refine pure_ (i := 13) (N := some 16) (v := ?_) (a' := ?_) tb50_3fff_12 rfl rfl (any_of HT_.out (by kernel_rfl)) (fun _ _ _ h => h) (Or.inl ⟨by rfl, ?_⟩) ?_ ?_
      rotate_left
      ·intro w'
       go_simp
       with_reducible rfl
      rotate_left
      ·simp only [Act.put, q_]
       rfl
      refine pure_ (i := 14) (N := some 17) (v := ?_) (a' := ?_) tb50_7fff_12 rfl rfl (any_of HT_.out (by kernel_rfl)) (fun _ _ _ h => h) (Or.inl ⟨by rfl, ?_⟩) ?_ ?_
      rotate_left
      ·intro w'
       go_simp
       with_reducible rfl
      rotate_left
      ·simp only [Act.put, q_]
       rfl
      refine take_ (i := 15) (N := some 18) (v := ?_) (a' := ?_) tb50_ffff_12 rfl rfl (take_ofW HT_.out HW_.out (by kernel_rfl)) (fun _ _ _ h => h) (Or.inl ⟨by rfl, ?_⟩) hHeld ?_ ?_
      rotate_left
      ·rintro w' ⟨s0, s1, s2, s3, s4, s5, s6, s7, s8, s9, s10⟩
       go_simp
       with_reducible rfl
      rotate_left
      ·simp only [Act.put, q_]
       rfl
      refine one_ (i := 16) (N := some 19) tb50_1ffff_12 rfl rfl (one_of HT_.out (by kernel_rfl)) (by decide) (fun K hK => ?_)
      refine goes_ Try.func71 (by kernel_rfl) rfl #[.int .i64 a0_4, .int .i64 0, .int .i64 9007199254740992] (by rfl) rfl rfl gl_ ?_
      with_reducible refine (impl_within.calls a0_4 0 9007199254740992 true _ A8.out).mono ?_
      rintro e w' ⟨rfl, ⟨nd, rfl⟩⟩
      refine ⟨_, rfl, ?_⟩
      refine hK.out _ _ ⟨cy_ BK287 0, cy_ BK287 1, cy_ BK287 2, cy_ BK287 3, cy_ BK287 4, cy_ BK287 5, cy_ BK287 6, cy_ BK287 7, cy_ BK287 8, cy_ BK287 9, cy_ BK287 10⟩ (fun hHeld => ?_)
      clear hK K
      refine norm_ (a' := ?_) ?_ ?_
      rotate_left
      ·show Act.put _ (some 19) _ = _
       simp only [Act.put, q_]
       rfl
      refine pure_ (i := 17) (N := some 20) (v := ?_) (a' := ?_) tb50_3ffff_12 rfl rfl (any_of HT_.out (by kernel_rfl)) (fun _ _ _ h => h) (Or.inl ⟨by rfl, ?_⟩) ?_ ?_
      rotate_left
      ·intro w'
       go_simp
       with_reducible rfl
      rotate_left
      ·simp only [Act.put, q_]
       rfl
      refine pure_ (i := 18) (N := some 21) (v := ?_) (a' := ?_) tb50_7ffff_12 rfl rfl (any_of HT_.out (by kernel_rfl)) (fun _ _ _ h => h) (Or.inl ⟨by rfl, ?_⟩) ?_ ?_
      rotate_left
      ·intro w'
       go_simp
       with_reducible rfl
      rotate_left
      ·simp only [Act.put, q_]
       rfl
      refine pure_ (i := 19) (N := some 22) (v := ?_) (a' := ?_) tb50_fffff_12 rfl rfl (any_of HT_.out (by kernel_rfl)) (fun _ _ _ h => h) (Or.inl ⟨by rfl, ?_⟩) ?_ ?_
      rotate_left
      ·intro w'
       go_simp
       with_reducible rfl
      rotate_left
      ·simp only [Act.put, q_]
       rfl
      refine take_ (i := 20) (N := some 23) (v := ?_) (a' := ?_) tb50_1fffff_12 rfl rfl (take_ofW HT_.out HW_.out (by kernel_rfl)) (fun _ _ _ h => h) (Or.inl ⟨by rfl, ?_⟩) hHeld ?_ ?_
      rotate_left
      ·rintro w' ⟨s0, s1, s2, s3, s4, s5, s6, s7, s8, s9, s10⟩
       go_simp
       with_reducible rfl
      rotate_left
      ·simp only [Act.put, q_]
       rfl
      refine one_ (i := 21) (N := some 24) tb50_3fffff_12 rfl rfl (one_of HT_.out (by kernel_rfl)) (by decide) (fun K hK => ?_)
      refine goes_ Try.func72 (by kernel_rfl) rfl #[.int .i64 a0_2] (by rfl) rfl rfl gl_ ?_
      with_reducible refine (impl_isMoney.calls a0_2 false _ A10.out).mono ?_
      rintro e w' ⟨rfl, ⟨nd, rfl⟩⟩
      refine ⟨_, rfl, ?_⟩
      refine hK.out _ _ ⟨cy_ BK287 0, cy_ BK287 1, cy_ BK287 2, cy_ BK287 3, cy_ BK287 4, cy_ BK287 5, cy_ BK287 6, cy_ BK287 7, cy_ BK287 8, cy_ BK287 9, cy_ BK287 10⟩ (fun hHeld => ?_)
      clear hK K
      refine norm_ (a' := ?_) ?_ ?_
      rotate_left
      ·show Act.put _ (some 24) _ = _
       simp only [Act.put, q_]
       rfl
      refine pure_ (i := 22) (N := some 25) (v := ?_) (a' := ?_) tb50_7fffff_12 rfl rfl (any_of HT_.out (by kernel_rfl)) (fun _ _ _ h => h) (Or.inl ⟨by rfl, ?_⟩) ?_ ?_
      rotate_left
      ·intro w'
       go_simp
       with_reducible rfl
      rotate_left
      ·simp only [Act.put, q_]
       rfl
      refine pure_ (i := 23) (N := some 26) (v := ?_) (a' := ?_) tb50_ffffff_12 rfl rfl (any_of HT_.out (by kernel_rfl)) (fun _ _ _ h => h) (Or.inl ⟨by rfl, ?_⟩) ?_ ?_
      rotate_left
      ·intro w'
       go_simp
       with_reducible rfl
      rotate_left
      ·simp only [Act.put, q_]
       rfl
      refine pure_ (i := 24) (N := some 27) (v := undef) (a' := ?_) tb50_1ffffff_12 rfl rfl (any_of HT_.out (by kernel_rfl)) (fun _ _ _ h => h) (Or.inr ⟨by rfl, rfl⟩) ?_ ?_
      rotate_left
      ·simp only [Act.put, q_]
       rfl
      refine pure_ (i := 25) (N := some 28) (v := undef) (a' := ?_) tb50_3ffffff_12 rfl rfl (any_of HT_.out (by kernel_rfl)) (fun _ _ _ h => h) (Or.inr ⟨by rfl, rfl⟩) ?_ ?_
      rotate_left
      ·simp only [Act.put, q_]
       rfl
      refine pure_ (i := 26) (N := some 29) (v := undef) (a' := ?_) tb50_7ffffff_12 rfl rfl (any_of HT_.out (by kernel_rfl)) (fun _ _ _ h => h) (Or.inr ⟨by rfl, rfl⟩) ?_ ?_
      rotate_left
      ·simp only [Act.put, q_]
       rfl
      refine pure_ (i := 27) (N := some 30) (v := ?_) (a' := ?_) tb50_fffffff_12 rfl rfl (any_of HT_.out (by kernel_rfl)) (fun _ _ _ h => h) (Or.inl ⟨by rfl, ?_⟩) ?_ ?_
      rotate_left
      ·intro w'
       go_simp
       with_reducible rfl
      rotate_left
      ·simp only [Act.put, q_]
       rfl
      refine pure_ (i := 28) (N := some 31) (v := ?_) (a' := ?_) tb50_1fffffff_12 rfl rfl (any_of HT_.out (by kernel_rfl)) (fun _ _ _ h => h) (Or.inl ⟨by rfl, ?_⟩) ?_ ?_
      rotate_left
      ·intro w'
       go_simp
       with_reducible rfl
      rotate_left
      ·simp only [Act.put, q_]
       rfl
      refine pure_ (i := 29) (N := some 32) (v := undef) (a' := ?_) tb50_3fffffff_12 rfl rfl (any_of HT_.out (by kernel_rfl)) (fun _ _ _ h => h) (Or.inr ⟨by rfl, rfl⟩) ?_ ?_
      rotate_left
      ·simp only [Act.put, q_]
       rfl
      refine pure_ (i := 30) (N := some 33) (v := undef) (a' := ?_) tb50_7fffffff_12 rfl rfl (any_of HT_.out (by kernel_rfl)) (fun _ _ _ h => h) (Or.inr ⟨by rfl, rfl⟩) ?_ ?_
      rotate_left
      ·simp only [Act.put, q_]
       rfl
      refine pure_ (i := 31) (N := some 34) (v := undef) (a' := ?_) tb50_ffffffff_12 rfl rfl (any_of HT_.out (by kernel_rfl)) (fun _ _ _ h => h) (Or.inr ⟨by rfl, rfl⟩) ?_ ?_
      rotate_left
      ·simp only [Act.put, q_]
       rfl
      refine pure_ (i := 32) (N := some 35) (v := ?_) (a' := ?_) tb50_1ffffffff_12 rfl rfl (any_of HT_.out (by kernel_rfl)) (fun _ _ _ h => h) (Or.inl ⟨by rfl, ?_⟩) ?_ ?_
      rotate_left
      ·intro w'
       go_simp
       with_reducible rfl
      rotate_left
      ·simp only [Act.put, q_]
       rfl
      refine pure_ (i := 33) (N := some 36) (v := ?_) (a' := ?_) tb50_3ffffffff_12 rfl rfl (any_of HT_.out (by kernel_rfl)) (fun _ _ _ h => h) (Or.inl ⟨by rfl, ?_⟩) ?_ ?_
      rotate_left
      ·intro w'
       go_simp
       with_reducible rfl
      rotate_left
      ·simp only [Act.put, q_]
       rfl
      refine pure_ (i := 34) (N := some 37) (v := undef) (a' := ?_) tb50_7ffffffff_12 rfl rfl (any_of HT_.out (by kernel_rfl)) (fun _ _ _ h => h) (Or.inr ⟨by rfl, rfl⟩) ?_ ?_
      rotate_left
      ·simp only [Act.put, q_]
       rfl
      refine pure_ (i := 35) (N := some 38) (v := undef) (a' := ?_) tb50_fffffffff_12 rfl rfl (any_of HT_.out (by kernel_rfl)) (fun _ _ _ h => h) (Or.inr ⟨by rfl, rfl⟩) ?_ ?_
      rotate_left
      ·simp only [Act.put, q_]
       rfl
      refine pure_ (i := 36) (N := some 39) (v := undef) (a' := ?_) tb50_1fffffffff_12 rfl rfl (any_of HT_.out (by kernel_rfl)) (fun _ _ _ h => h) (Or.inr ⟨by rfl, rfl⟩) ?_ ?_
      rotate_left
      ·simp only [Act.put, q_]
       rfl
      refine pure_ (i := 37) (N := some 40) (v := ?_) (a' := ?_) tb50_3fffffffff_12 rfl rfl (any_of HT_.out (by kernel_rfl)) (fun _ _ _ h => h) (Or.inl ⟨by rfl, ?_⟩) ?_ ?_
      rotate_left
      ·intro w'
       go_simp
       with_reducible rfl
      rotate_left
      ·simp only [Act.put, q_]
       rfl
      refine pure_ (i := 38) (N := some 41) (v := ?_) (a' := ?_) tb50_7fffffffff_12 rfl rfl (any_of HT_.out (by kernel_rfl)) (fun _ _ _ h => h) (Or.inl ⟨by rfl, ?_⟩) ?_ ?_
      rotate_left
      ·intro w'
       go_simp
       with_reducible rfl
      rotate_left
      ·simp only [Act.put, q_]
       rfl
      refine pure_ (i := 39) (N := some 42) (v := undef) (a' := ?_) tb50_ffffffffff_12 rfl rfl (any_of HT_.out (by kernel_rfl)) (fun _ _ _ h => h) (Or.inr ⟨by rfl, rfl⟩) ?_ ?_
      rotate_left
      ·simp only [Act.put, q_]
       rfl
      refine pure_ (i := 40) (N := some 43) (v := undef) (a' := ?_) tb50_1ffffffffff_12 rfl rfl (any_of HT_.out (by kernel_rfl)) (fun _ _ _ h => h) (Or.inr ⟨by rfl, rfl⟩) ?_ ?_
      rotate_left
      ·simp only [Act.put, q_]
       rfl
      refine pure_ (i := 41) (N := some 44) (v := undef) (a' := ?_) tb50_3ffffffffff_12 rfl rfl (any_of HT_.out (by kernel_rfl)) (fun _ _ _ h => h) (Or.inr ⟨by rfl, rfl⟩) ?_ ?_
      rotate_left
      ·simp only [Act.put, q_]
       rfl
      refine pure_ (i := 42) (N := some 45) (v := undef) (a' := ?_) tb50_7ffffffffff_12 rfl rfl (any_of HT_.out (by kernel_rfl)) (fun _ _ _ h => h) (Or.inr ⟨by rfl, rfl⟩) ?_ ?_
      rotate_left
      ·simp only [Act.put, q_]
       rfl
      refine pure_ (i := 43) (N := some 46) (v := undef) (a' := ?_) tb50_fffffffffff_12 rfl rfl (any_of HT_.out (by kernel_rfl)) (fun _ _ _ h => h) (Or.inr ⟨by rfl, rfl⟩) ?_ ?_
      rotate_left
      ·simp only [Act.put, q_]
       rfl
      refine pure_ (i := 44) (N := some 47) (v := undef) (a' := ?_) tb50_1fffffffffff_12 rfl rfl (any_of HT_.out (by kernel_rfl)) (fun _ _ _ h => h) (Or.inr ⟨by rfl, rfl⟩) ?_ ?_
      rotate_left
      ·simp only [Act.put, q_]
       rfl
      refine pure_ (i := 45) (N := some 48) (v := undef) (a' := ?_) tb50_3fffffffffff_12 rfl rfl (any_of HT_.out (by kernel_rfl)) (fun _ _ _ h => h) (Or.inr ⟨by rfl, rfl⟩) ?_ ?_
      rotate_left
      ·simp only [Act.put, q_]
       rfl
      refine pure_ (i := 46) (N := some 49) (v := undef) (a' := ?_) tb50_7fffffffffff_12 rfl rfl (any_of HT_.out (by kernel_rfl)) (fun _ _ _ h => h) (Or.inr ⟨by rfl, rfl⟩) ?_ ?_
      rotate_left
      ·simp only [Act.put, q_]
       rfl
      refine pure_ (i := 47) (N := some 50) (v := undef) (a' := ?_) tb50_ffffffffffff_12 rfl rfl (any_of HT_.out (by kernel_rfl)) (fun _ _ _ h => h) (Or.inr ⟨by rfl, rfl⟩) ?_ ?_
      rotate_left
      ·simp only [Act.put, q_]
       rfl
      refine pure_ (i := 48) (N := some 51) (v := ?_) (a' := ?_) tb50_1ffffffffffff_12 rfl rfl (any_of HT_.out (by kernel_rfl)) (fun _ _ _ h => h) (Or.inl ⟨by rfl, ?_⟩) ?_ ?_
      rotate_left
      ·intro w'
       go_simp
       with_reducible rfl
      rotate_left
      ·simp only [Act.put, q_]
       rfl
      refine pure_ (i := 49) (N := some 2) (v := ?_) (a' := ?_) tb50_3ffffffffffff_12 rfl rfl (any_of HT_.out (by kernel_rfl)) (fun _ _ _ h => h) (Or.inl ⟨by rfl, ?_⟩) ?_ ?_
      rotate_left
      ·intro w'
       go_simp
       with_reducible rfl
      rotate_left
      ·simp only [Act.put, q_]
       rfl
      refine done_ (done_of HT_.out (by kernel_rfl)) ?_
      try go_wp2
      go_ret
      exact ⟨by first | rfl | (simp [errW_none, errW_some] <;> rfl) | (simp [*, errW_none, errW_some] <;> rfl), bl_⟩
    ·replace c9 := Bool.eq_false_iff.mpr c9
     subst c9
     have H1 : (some false) = some r := by rw [if_neg (show ¬ (false = true) by decide)] at H; exact H
     clear H
     have H := H1
     clear H1
     obtain rfl := Option.some.inj H
     go_enter Try.func20, Try.ntmps20
     try go_wp2_with (first | ((with_reducible refine gate_dst (N := 1) rfl ?_); refine box_event ?hg (N := 1) ?hd (cs := #[.string a0_0, .int .i64 a0_1, .int .i64 a0_2, .int .i64 a0_3, .int .i64 a0_4, .slice A0_5 l0_5.length c0_5, .int .i64 a0_6, .int .i64 a0_7, .slice A0_8 l0_8.length c0_8, .slice A0_9 l0_9.length c0_9, .slice A0_10 l0_10.length c0_10]) (t := 48) ?hr ?_; (case hd => rfl); (case hg => rfl); (case hr => first | (go_simp; done) | (go_simp; rfl)); intro gb287 hg w41 hbox hb; have n0_ := Aside0.mk (below_step bl_ hb); have n1_ := Aside0.mk (hbox); have n2_ := Aside0.mk ((by rw [hg]; exact (below_size bl_) : w.heap.size ≤ gb287)); have n3_ := Aside0.mk ((by rw [hg]; exact (below_size bl_) : w.heap.size ≤ gb287)); clear HB; have HB := n0_; have BK287 := n1_; have GW287 := n2_; have GE287 := n3_; clear n0_ n1_ n2_ n3_; clear hb hbox hg))
     have n0_ := Aside0.mk (blk_drew BK287.out)
     have n1_ := Aside0.mk (below_drew1 HB.out)
     clear BK287
     clear HB
     have BK287 := n0_
     have HB := n1_
     clear n0_ n1_
     refine start_ (n := 50) (S := fun w' => w'.cell? ⟨gb287, 0, none⟩ = some (.string a0_0) ∧ w'.cell? ⟨gb287, 1, none⟩ = some (.int .i64 a0_1) ∧ w'.cell? ⟨gb287, 2, none⟩ = some (.int .i64 a0_2) ∧ w'.cell? ⟨gb287, 3, none⟩ = some (.int .i64 a0_3) ∧ w'.cell? ⟨gb287, 4, none⟩ = some (.int .i64 a0_4) ∧ w'.cell? ⟨gb287, 5, none⟩ = some (.slice A0_5 l0_5.length c0_5) ∧ w'.cell? ⟨gb287, 6, none⟩ = some (.int .i64 a0_6) ∧ w'.cell? ⟨gb287, 7, none⟩ = some (.int .i64 a0_7) ∧ w'.cell? ⟨gb287, 8, none⟩ = some (.slice A0_8 l0_8.length c0_8) ∧ w'.cell? ⟨gb287, 9, none⟩ = some (.slice A0_9 l0_9.length c0_9) ∧ w'.cell? ⟨gb287, 10, none⟩ = some (.slice A0_10 l0_10.length c0_10)) (ds := []) tb50_0_12 (by kernel_rfl) rfl rfl ⟨cy_ BK287 0, cy_ BK287 1, cy_ BK287 2, cy_ BK287 3, cy_ BK287 4, cy_ BK287 5, cy_ BK287 6, cy_ BK287 7, cy_ BK287 8, cy_ BK287 9, cy_ BK287 10⟩ (fun hHeld => ?_); refine with_tabW impl_AcctOk.tab1 impl_AcctOk.bits1 (fun HT_ HW_ => ?_)
     generalize w41.drew = w42 at BK287 HB hHeld ⊢
     refine pure_ (i := 0) (N := some 3) (v := ?_) (a' := ?_) tb50_1_12 rfl rfl (any_of HT_.out (by kernel_rfl)) (fun _ _ _ h => h) (Or.inl ⟨by rfl, ?_⟩) ?_ ?_
     rotate_left
     ·intro w'
      go_simp
      with_reducible rfl
     rotate_left
     ·simp only [Act.put, q_]
      rfl
     refine take_ (i := 1) (N := some 4) (v := ?_) (a' := ?_) tb50_3_12 rfl rfl (take_ofW HT_.out HW_.out (by kernel_rfl)) (fun _ _ _ h => h) (Or.inl ⟨by rfl, ?_⟩) hHeld ?_ ?_
     rotate_left
     ·rintro w' ⟨s0, s1, s2, s3, s4, s5, s6, s7, s8, s9, s10⟩
      go_simp
      with_reducible rfl
     rotate_left
     ·simp only [Act.put, q_]
      rfl
     refine one_ (i := 2) (N := some 5) tb50_7_12 rfl rfl (one_of HT_.out (by kernel_rfl)) (by decide) (fun K hK => ?_)
     refine goes_ Try.func70 (by kernel_rfl) rfl #[.string a0_0] (by rfl) rfl rfl gl_ ?_
     with_reducible refine (impl_AcctIdOk.calls k a0_0 true _ A2.out).mono ?_
     rintro e w' ⟨rfl, ⟨nd, rfl⟩⟩
     refine ⟨_, rfl, ?_⟩
     refine hK.out _ _ ⟨cy_ BK287 0, cy_ BK287 1, cy_ BK287 2, cy_ BK287 3, cy_ BK287 4, cy_ BK287 5, cy_ BK287 6, cy_ BK287 7, cy_ BK287 8, cy_ BK287 9, cy_ BK287 10⟩ (fun hHeld => ?_)
     clear hK K
     refine norm_ (a' := ?_) ?_ ?_
     rotate_left
     ·show Act.put _ (some 5) _ = _
      simp only [Act.put, q_]
      rfl
     refine pure_ (i := 3) (N := some 6) (v := ?_) (a' := ?_) tb50_f_12 rfl rfl (any_of HT_.out (by kernel_rfl)) (fun _ _ _ h => h) (Or.inl ⟨by rfl, ?_⟩) ?_ ?_
     rotate_left
     ·intro w'
      go_simp
      with_reducible rfl
     rotate_left
     ·simp only [Act.put, q_]
      rfl
     refine pure_ (i := 4) (N := some 7) (v := ?_) (a' := ?_) tb50_1f_12 rfl rfl (any_of HT_.out (by kernel_rfl)) (fun _ _ _ h => h) (Or.inl ⟨by rfl, ?_⟩) ?_ ?_
     rotate_left
     ·intro w'
      go_simp
      with_reducible rfl
     rotate_left
     ·simp only [Act.put, q_]
      rfl
     refine take_ (i := 5) (N := some 8) (v := ?_) (a' := ?_) tb50_3f_12 rfl rfl (take_ofW HT_.out HW_.out (by kernel_rfl)) (fun _ _ _ h => h) (Or.inl ⟨by rfl, ?_⟩) hHeld ?_ ?_
     rotate_left
     ·rintro w' ⟨s0, s1, s2, s3, s4, s5, s6, s7, s8, s9, s10⟩
      go_simp
      with_reducible rfl
     rotate_left
     ·simp only [Act.put, q_]
      rfl
     refine one_ (i := 6) (N := some 9) tb50_7f_12 rfl rfl (one_of HT_.out (by kernel_rfl)) (by decide) (fun K hK => ?_)
     refine goes_ Try.func71 (by kernel_rfl) rfl #[.int .i64 a0_1, .int .i64 0, .int .i64 9007199254740992] (by rfl) rfl rfl gl_ ?_
     with_reducible refine (impl_within.calls a0_1 0 9007199254740992 true _ A4.out).mono ?_
     rintro e w' ⟨rfl, ⟨nd, rfl⟩⟩
     refine ⟨_, rfl, ?_⟩
     refine hK.out _ _ ⟨cy_ BK287 0, cy_ BK287 1, cy_ BK287 2, cy_ BK287 3, cy_ BK287 4, cy_ BK287 5, cy_ BK287 6, cy_ BK287 7, cy_ BK287 8, cy_ BK287 9, cy_ BK287 10⟩ (fun hHeld => ?_)
     clear hK K
     refine norm_ (a' := ?_) ?_ ?_
     rotate_left
     ·show Act.put _ (some 9) _ = _
      simp only [Act.put, q_]
      rfl
     refine pure_ (i := 7) (N := some 10) (v := ?_) (a' := ?_) tb50_ff_12 rfl rfl (any_of HT_.out (by kernel_rfl)) (fun _ _ _ h => h) (Or.inl ⟨by rfl, ?_⟩) ?_ ?_
     rotate_left
     ·intro w'
      go_simp
      with_reducible rfl
     rotate_left
     ·simp only [Act.put, q_]
      rfl
     refine pure_ (i := 8) (N := some 11) (v := ?_) (a' := ?_) tb50_1ff_12 rfl rfl (any_of HT_.out (by kernel_rfl)) (fun _ _ _ h => h) (Or.inl ⟨by rfl, ?_⟩) ?_ ?_
     rotate_left
     ·intro w'
      go_simp
      with_reducible rfl
     rotate_left
     ·simp only [Act.put, q_]
      rfl
     refine pure_ (i := 9) (N := some 12) (v := ?_) (a' := ?_) tb50_3ff_12 rfl rfl (any_of HT_.out (by kernel_rfl)) (fun _ _ _ h => h) (Or.inl ⟨by rfl, ?_⟩) ?_ ?_
     rotate_left
     ·intro w'
      go_simp
      with_reducible rfl
     rotate_left
     ·simp only [Act.put, q_]
      rfl
     refine take_ (i := 10) (N := some 13) (v := ?_) (a' := ?_) tb50_7ff_12 rfl rfl (take_ofW HT_.out HW_.out (by kernel_rfl)) (fun _ _ _ h => h) (Or.inl ⟨by rfl, ?_⟩) hHeld ?_ ?_
     rotate_left
     ·rintro w' ⟨s0, s1, s2, s3, s4, s5, s6, s7, s8, s9, s10⟩
      go_simp
      with_reducible rfl
     rotate_left
     ·simp only [Act.put, q_]
      rfl
     refine one_ (i := 11) (N := some 14) tb50_fff_12 rfl rfl (one_of HT_.out (by kernel_rfl)) (by decide) (fun K hK => ?_)
     refine goes_ Try.func71 (by kernel_rfl) rfl #[.int .i64 a0_3, .int .i64 0, .int .i64 1000] (by rfl) rfl rfl gl_ ?_
     with_reducible refine (impl_within.calls a0_3 0 1000 true _ A6.out).mono ?_
     rintro e w' ⟨rfl, ⟨nd, rfl⟩⟩
     refine ⟨_, rfl, ?_⟩
     refine hK.out _ _ ⟨cy_ BK287 0, cy_ BK287 1, cy_ BK287 2, cy_ BK287 3, cy_ BK287 4, cy_ BK287 5, cy_ BK287 6, cy_ BK287 7, cy_ BK287 8, cy_ BK287 9, cy_ BK287 10⟩ (fun hHeld => ?_)
     clear hK K
     refine norm_ (a' := ?_) ?_ ?_
     rotate_left
     ·show Act.put _ (some 14) _ = _
      simp only [Act.put, q_]
      rfl
     refine pure_ (i := 12) (N := some 15) (v := ?_) (a' := ?_) tb50_1fff_12 rfl rfl (any_of HT_.out (by kernel_rfl)) (fun _ _ _ h => h) (Or.inl ⟨by rfl, ?_⟩) ?_ ?_
     rotate_left
     ·intro w'
      go_simp
      with_reducible rfl
     rotate_left
     ·simp only [Act.put, q_]
      rfl
     refine pure_ (i := 13) (N := some 16) (v := ?_) (a' := ?_) tb50_3fff_12 rfl rfl (any_of HT_.out (by kernel_rfl)) (fun _ _ _ h => h) (Or.inl ⟨by rfl, ?_⟩) ?_ ?_
     rotate_left
     ·intro w'
      go_simp
      with_reducible rfl
     rotate_left
     ·simp only [Act.put, q_]
      rfl
     refine pure_ (i := 14) (N := some 17) (v := ?_) (a' := ?_) tb50_7fff_12 rfl rfl (any_of HT_.out (by kernel_rfl)) (fun _ _ _ h => h) (Or.inl ⟨by rfl, ?_⟩) ?_ ?_
     rotate_left
     ·intro w'
      go_simp
      with_reducible rfl
     rotate_left
     ·simp only [Act.put, q_]
      rfl
     refine take_ (i := 15) (N := some 18) (v := ?_) (a' := ?_) tb50_ffff_12 rfl rfl (take_ofW HT_.out HW_.out (by kernel_rfl)) (fun _ _ _ h => h) (Or.inl ⟨by rfl, ?_⟩) hHeld ?_ ?_
     rotate_left
     ·rintro w' ⟨s0, s1, s2, s3, s4, s5, s6, s7, s8, s9, s10⟩
      go_simp
      with_reducible rfl
     rotate_left
     ·simp only [Act.put, q_]
      rfl
     refine one_ (i := 16) (N := some 19) tb50_1ffff_12 rfl rfl (one_of HT_.out (by kernel_rfl)) (by decide) (fun K hK => ?_)
     refine goes_ Try.func71 (by kernel_rfl) rfl #[.int .i64 a0_4, .int .i64 0, .int .i64 9007199254740992] (by rfl) rfl rfl gl_ ?_
     with_reducible refine (impl_within.calls a0_4 0 9007199254740992 false _ A8.out).mono ?_
     rintro e w' ⟨rfl, ⟨nd, rfl⟩⟩
     refine ⟨_, rfl, ?_⟩
     refine hK.out _ _ ⟨cy_ BK287 0, cy_ BK287 1, cy_ BK287 2, cy_ BK287 3, cy_ BK287 4, cy_ BK287 5, cy_ BK287 6, cy_ BK287 7, cy_ BK287 8, cy_ BK287 9, cy_ BK287 10⟩ (fun hHeld => ?_)
     clear hK K
     refine norm_ (a' := ?_) ?_ ?_
     rotate_left
     ·show Act.put _ (some 19) _ = _
      simp only [Act.put, q_]
      rfl
     refine pure_ (i := 17) (N := some 20) (v := ?_) (a' := ?_) tb50_3ffff_12 rfl rfl (any_of HT_.out (by kernel_rfl)) (fun _ _ _ h => h) (Or.inl ⟨by rfl, ?_⟩) ?_ ?_
     rotate_left
     ·intro w'
      go_simp
      with_reducible rfl
     rotate_left
     ·simp only [Act.put, q_]
      rfl
     refine pure_ (i := 18) (N := some 21) (v := ?_) (a' := ?_) tb50_7ffff_12 rfl rfl (any_of HT_.out (by kernel_rfl)) (fun _ _ _ h => h) (Or.inl ⟨by rfl, ?_⟩) ?_ ?_
     rotate_left
     ·intro w'
      go_simp
      with_reducible rfl
     rotate_left
     ·simp only [Act.put, q_]
      rfl
     refine pure_ (i := 19) (N := some 22) (v := undef) (a' := ?_) tb50_fffff_12 rfl rfl (any_of HT_.out (by kernel_rfl)) (fun _ _ _ h => h) (Or.inr ⟨by rfl, rfl⟩) ?_ ?_
     rotate_left
     ·simp only [Act.put, q_]
      rfl
     refine pure_ (i := 20) (N := some 23) (v := undef) (a' := ?_) tb50_1fffff_12 rfl rfl (any_of HT_.out (by kernel_rfl)) (fun _ _ _ h => h) (Or.inr ⟨by rfl, rfl⟩) ?_ ?_
     rotate_left
     ·simp only [Act.put, q_]
      rfl
     refine pure_ (i := 21) (N := some 24) (v := undef) (a' := ?_) tb50_3fffff_12 rfl rfl (any_of HT_.out (by kernel_rfl)) (fun _ _ _ h => h) (Or.inr ⟨by rfl, rfl⟩) ?_ ?_
     rotate_left
     ·simp only [Act.put, q_]
      rfl
     refine pure_ (i := 22) (N := some 25) (v := ?_) (a' := ?_) tb50_7fffff_12 rfl rfl (any_of HT_.out (by kernel_rfl)) (fun _ _ _ h => h) (Or.inl ⟨by rfl, ?_⟩) ?_ ?_
     rotate_left
     ·intro w'
      go_simp
      with_reducible rfl
     rotate_left
     ·simp only [Act.put, q_]
      rfl
     refine pure_ (i := 23) (N := some 26) (v := ?_) (a' := ?_) tb50_ffffff_12 rfl rfl (any_of HT_.out (by kernel_rfl)) (fun _ _ _ h => h) (Or.inl ⟨by rfl, ?_⟩) ?_ ?_
     rotate_left
     ·intro w'
      go_simp
      with_reducible rfl
     rotate_left
     ·simp only [Act.put, q_]
      rfl
     refine pure_ (i := 24) (N := some 27) (v := undef) (a' := ?_) tb50_1ffffff_12 rfl rfl (any_of HT_.out (by kernel_rfl)) (fun _ _ _ h => h) (Or.inr ⟨by rfl, rfl⟩) ?_ ?_
     rotate_left
     ·simp only [Act.put, q_]
      rfl
     refine pure_ (i := 25) (N := some 28) (v := undef) (a' := ?_) tb50_3ffffff_12 rfl rfl (any_of HT_.out (by kernel_rfl)) (fun _ _ _ h => h) (Or.inr ⟨by rfl, rfl⟩) ?_ ?_
     rotate_left
     ·simp only [Act.put, q_]
      rfl
     refine pure_ (i := 26) (N := some 29) (v := undef) (a' := ?_) tb50_7ffffff_12 rfl rfl (any_of HT_.out (by kernel_rfl)) (fun _ _ _ h => h) (Or.inr ⟨by rfl, rfl⟩) ?_ ?_
     rotate_left
     ·simp only [Act.put, q_]
      rfl
     refine pure_ (i := 27) (N := some 30) (v := ?_) (a' := ?_) tb50_fffffff_12 rfl rfl (any_of HT_.out (by kernel_rfl)) (fun _ _ _ h => h) (Or.inl ⟨by rfl, ?_⟩) ?_ ?_
     rotate_left
     ·intro w'
      go_simp
      with_reducible rfl
     rotate_left
     ·simp only [Act.put, q_]
      rfl
     refine pure_ (i := 28) (N := some 31) (v := ?_) (a' := ?_) tb50_1fffffff_12 rfl rfl (any_of HT_.out (by kernel_rfl)) (fun _ _ _ h => h) (Or.inl ⟨by rfl, ?_⟩) ?_ ?_
     rotate_left
     ·intro w'
      go_simp
      with_reducible rfl
     rotate_left
     ·simp only [Act.put, q_]
      rfl
     refine pure_ (i := 29) (N := some 32) (v := undef) (a' := ?_) tb50_3fffffff_12 rfl rfl (any_of HT_.out (by kernel_rfl)) (fun _ _ _ h => h) (Or.inr ⟨by rfl, rfl⟩) ?_ ?_
     rotate_left
     ·simp only [Act.put, q_]
      rfl
     refine pure_ (i := 30) (N := some 33) (v := undef) (a' := ?_) tb50_7fffffff_12 rfl rfl (any_of HT_.out (by kernel_rfl)) (fun _ _ _ h => h) (Or.inr ⟨by rfl, rfl⟩) ?_ ?_
     rotate_left
     ·simp only [Act.put, q_]
      rfl
     refine pure_ (i := 31) (N := some 34) (v := undef) (a' := ?_) tb50_ffffffff_12 rfl rfl (any_of HT_.out (by kernel_rfl)) (fun _ _ _ h => h) (Or.inr ⟨by rfl, rfl⟩) ?_ ?_
     rotate_left
     ·simp only [Act.put, q_]
      rfl
     refine pure_ (i := 32) (N := some 35) (v := ?_) (a' := ?_) tb50_1ffffffff_12 rfl rfl (any_of HT_.out (by kernel_rfl)) (fun _ _ _ h => h) (Or.inl ⟨by rfl, ?_⟩) ?_ ?_
     rotate_left
     ·intro w'
      go_simp
      with_reducible rfl
     rotate_left
     ·simp only [Act.put, q_]
      rfl
     refine pure_ (i := 33) (N := some 36) (v := ?_) (a' := ?_) tb50_3ffffffff_12 rfl rfl (any_of HT_.out (by kernel_rfl)) (fun _ _ _ h => h) (Or.inl ⟨by rfl, ?_⟩) ?_ ?_
     rotate_left
     ·intro w'
      go_simp
      with_reducible rfl
     rotate_left
     ·simp only [Act.put, q_]
      rfl
     refine pure_ (i := 34) (N := some 37) (v := undef) (a' := ?_) tb50_7ffffffff_12 rfl rfl (any_of HT_.out (by kernel_rfl)) (fun _ _ _ h => h) (Or.inr ⟨by rfl, rfl⟩) ?_ ?_
     rotate_left
     ·simp only [Act.put, q_]
      rfl
     refine pure_ (i := 35) (N := some 38) (v := undef) (a' := ?_) tb50_fffffffff_12 rfl rfl (any_of HT_.out (by kernel_rfl)) (fun _ _ _ h => h) (Or.inr ⟨by rfl, rfl⟩) ?_ ?_
     rotate_left
     ·simp only [Act.put, q_]
      rfl
     refine pure_ (i := 36) (N := some 39) (v := undef) (a' := ?_) tb50_1fffffffff_12 rfl rfl (any_of HT_.out (by kernel_rfl)) (fun _ _ _ h => h) (Or.inr ⟨by rfl, rfl⟩) ?_ ?_
     rotate_left
     ·simp only [Act.put, q_]
      rfl
     refine pure_ (i := 37) (N := some 40) (v := ?_) (a' := ?_) tb50_3fffffffff_12 rfl rfl (any_of HT_.out (by kernel_rfl)) (fun _ _ _ h => h) (Or.inl ⟨by rfl, ?_⟩) ?_ ?_
     rotate_left
     ·intro w'
      go_simp
      with_reducible rfl
     rotate_left
     ·simp only [Act.put, q_]
      rfl
     refine pure_ (i := 38) (N := some 41) (v := ?_) (a' := ?_) tb50_7fffffffff_12 rfl rfl (any_of HT_.out (by kernel_rfl)) (fun _ _ _ h => h) (Or.inl ⟨by rfl, ?_⟩) ?_ ?_
     rotate_left
     ·intro w'
      go_simp
      with_reducible rfl
     rotate_left
     ·simp only [Act.put, q_]
      rfl
     refine pure_ (i := 39) (N := some 42) (v := undef) (a' := ?_) tb50_ffffffffff_12 rfl rfl (any_of HT_.out (by kernel_rfl)) (fun _ _ _ h => h) (Or.inr ⟨by rfl, rfl⟩) ?_ ?_
     rotate_left
     ·simp only [Act.put, q_]
      rfl
     refine pure_ (i := 40) (N := some 43) (v := undef) (a' := ?_) tb50_1ffffffffff_12 rfl rfl (any_of HT_.out (by kernel_rfl)) (fun _ _ _ h => h) (Or.inr ⟨by rfl, rfl⟩) ?_ ?_
     rotate_left
     ·simp only [Act.put, q_]
      rfl
     refine pure_ (i := 41) (N := some 44) (v := undef) (a' := ?_) tb50_3ffffffffff_12 rfl rfl (any_of HT_.out (by kernel_rfl)) (fun _ _ _ h => h) (Or.inr ⟨by rfl, rfl⟩) ?_ ?_
     rotate_left
     ·simp only [Act.put, q_]
      rfl
     refine pure_ (i := 42) (N := some 45) (v := undef) (a' := ?_) tb50_7ffffffffff_12 rfl rfl (any_of HT_.out (by kernel_rfl)) (fun _ _ _ h => h) (Or.inr ⟨by rfl, rfl⟩) ?_ ?_
     rotate_left
     ·simp only [Act.put, q_]
      rfl
     refine pure_ (i := 43) (N := some 46) (v := undef) (a' := ?_) tb50_fffffffffff_12 rfl rfl (any_of HT_.out (by kernel_rfl)) (fun _ _ _ h => h) (Or.inr ⟨by rfl, rfl⟩) ?_ ?_
     rotate_left
     ·simp only [Act.put, q_]
      rfl
     refine pure_ (i := 44) (N := some 47) (v := undef) (a' := ?_) tb50_1fffffffffff_12 rfl rfl (any_of HT_.out (by kernel_rfl)) (fun _ _ _ h => h) (Or.inr ⟨by rfl, rfl⟩) ?_ ?_
     rotate_left
     ·simp only [Act.put, q_]
      rfl
     refine pure_ (i := 45) (N := some 48) (v := undef) (a' := ?_) tb50_3fffffffffff_12 rfl rfl (any_of HT_.out (by kernel_rfl)) (fun _ _ _ h => h) (Or.inr ⟨by rfl, rfl⟩) ?_ ?_
     rotate_left
     ·simp only [Act.put, q_]
      rfl
     refine pure_ (i := 46) (N := some 49) (v := undef) (a' := ?_) tb50_7fffffffffff_12 rfl rfl (any_of HT_.out (by kernel_rfl)) (fun _ _ _ h => h) (Or.inr ⟨by rfl, rfl⟩) ?_ ?_
     rotate_left
     ·simp only [Act.put, q_]
      rfl
     refine pure_ (i := 47) (N := some 50) (v := undef) (a' := ?_) tb50_ffffffffffff_12 rfl rfl (any_of HT_.out (by kernel_rfl)) (fun _ _ _ h => h) (Or.inr ⟨by rfl, rfl⟩) ?_ ?_
     rotate_left
     ·simp only [Act.put, q_]
      rfl
     refine pure_ (i := 48) (N := some 51) (v := ?_) (a' := ?_) tb50_1ffffffffffff_12 rfl rfl (any_of HT_.out (by kernel_rfl)) (fun _ _ _ h => h) (Or.inl ⟨by rfl, ?_⟩) ?_ ?_
     rotate_left
     ·intro w'
      go_simp
      with_reducible rfl
     rotate_left
     ·simp only [Act.put, q_]
      rfl
     refine pure_ (i := 49) (N := some 2) (v := ?_) (a' := ?_) tb50_3ffffffffffff_12 rfl rfl (any_of HT_.out (by kernel_rfl)) (fun _ _ _ h => h) (Or.inl ⟨by rfl, ?_⟩) ?_ ?_
     rotate_left
     ·intro w'
      go_simp
      with_reducible rfl
     rotate_left
     ·simp only [Act.put, q_]
      rfl
     refine done_ (done_of HT_.out (by kernel_rfl)) ?_
     try go_wp2
     go_ret
     exact ⟨by first | rfl | (simp [errW_none, errW_some] <;> rfl) | (simp [*, errW_none, errW_some] <;> rfl), bl_⟩
   ·replace c7 := Bool.eq_false_iff.mpr c7
    subst c7
    have H1 : (some false) = some r := by rw [if_neg (show ¬ (false = true) by decide)] at H; exact H
    clear H
    have H := H1
    clear H1
    obtain rfl := Option.some.inj H
    go_enter Try.func20, Try.ntmps20
    try go_wp2_with (first | ((with_reducible refine gate_dst (N := 1) rfl ?_); refine box_event ?hg (N := 1) ?hd (cs := #[.string a0_0, .int .i64 a0_1, .int .i64 a0_2, .int .i64 a0_3, .int .i64 a0_4, .slice A0_5 l0_5.length c0_5, .int .i64 a0_6, .int .i64 a0_7, .slice A0_8 l0_8.length c0_8, .slice A0_9 l0_9.length c0_9, .slice A0_10 l0_10.length c0_10]) (t := 48) ?hr ?_; (case hd => rfl); (case hg => rfl); (case hr => first | (go_simp; done) | (go_simp; rfl)); intro gb287 hg w43 hbox hb; have n0_ := Aside0.mk (below_step bl_ hb); have n1_ := Aside0.mk (hbox); have n2_ := Aside0.mk ((by rw [hg]; exact (below_size bl_) : w.heap.size ≤ gb287)); have n3_ := Aside0.mk ((by rw [hg]; exact (below_size bl_) : w.heap.size ≤ gb287)); clear HB; have HB := n0_; have BK287 := n1_; have GW287 := n2_; have GE287 := n3_; clear n0_ n1_ n2_ n3_; clear hb hbox hg))
    have n0_ := Aside0.mk (blk_drew BK287.out)
    have n1_ := Aside0.mk (below_drew1 HB.out)
    clear BK287
    clear HB
    have BK287 := n0_
    have HB := n1_
    clear n0_ n1_
    refine start_ (n := 50) (S := fun w' => w'.cell? ⟨gb287, 0, none⟩ = some (.string a0_0) ∧ w'.cell? ⟨gb287, 1, none⟩ = some (.int .i64 a0_1) ∧ w'.cell? ⟨gb287, 2, none⟩ = some (.int .i64 a0_2) ∧ w'.cell? ⟨gb287, 3, none⟩ = some (.int .i64 a0_3) ∧ w'.cell? ⟨gb287, 4, none⟩ = some (.int .i64 a0_4) ∧ w'.cell? ⟨gb287, 5, none⟩ = some (.slice A0_5 l0_5.length c0_5) ∧ w'.cell? ⟨gb287, 6, none⟩ = some (.int .i64 a0_6) ∧ w'.cell? ⟨gb287, 7, none⟩ = some (.int .i64 a0_7) ∧ w'.cell? ⟨gb287, 8, none⟩ = some (.slice A0_8 l0_8.length c0_8) ∧ w'.cell? ⟨gb287, 9, none⟩ = some (.slice A0_9 l0_9.length c0_9) ∧ w'.cell? ⟨gb287, 10, none⟩ = some (.slice A0_10 l0_10.length c0_10)) (ds := []) tb50_0_12 (by kernel_rfl) rfl rfl ⟨cy_ BK287 0, cy_ BK287 1, cy_ BK287 2, cy_ BK287 3, cy_ BK287 4, cy_ BK287 5, cy_ BK287 6, cy_ BK287 7, cy_ BK287 8, cy_ BK287 9, cy_ BK287 10⟩ (fun hHeld => ?_); refine with_tabW impl_AcctOk.tab1 impl_AcctOk.bits1 (fun HT_ HW_ => ?_)
    generalize w43.drew = w44 at BK287 HB hHeld ⊢
    refine pure_ (i := 0) (N := some 3) (v := ?_) (a' := ?_) tb50_1_12 rfl rfl (any_of HT_.out (by kernel_rfl)) (fun _ _ _ h => h) (Or.inl ⟨by rfl, ?_⟩) ?_ ?_
    rotate_left
    ·intro w'
     go_simp
     with_reducible rfl
    rotate_left
    ·simp only [Act.put, q_]
     rfl
    refine take_ (i := 1) (N := some 4) (v := ?_) (a' := ?_) tb50_3_12 rfl rfl (take_ofW HT_.out HW_.out (by kernel_rfl)) (fun _ _ _ h => h) (Or.inl ⟨by rfl, ?_⟩) hHeld ?_ ?_
    rotate_left
    ·rintro w' ⟨s0, s1, s2, s3, s4, s5, s6, s7, s8, s9, s10⟩
     go_simp
     with_reducible rfl
    rotate_left
    ·simp only [Act.put, q_]
     rfl
    refine one_ (i := 2) (N := some 5) tb50_7_12 rfl rfl (one_of HT_.out (by kernel_rfl)) (by decide) (fun K hK => ?_)
    refine goes_ Try.func70 (by kernel_rfl) rfl #[.string a0_0] (by rfl) rfl rfl gl_ ?_
    with_reducible refine (impl_AcctIdOk.calls k a0_0 true _ A2.out).mono ?_
    rintro e w' ⟨rfl, ⟨nd, rfl⟩⟩
    refine ⟨_, rfl, ?_⟩
    refine hK.out _ _ ⟨cy_ BK287 0, cy_ BK287 1, cy_ BK287 2, cy_ BK287 3, cy_ BK287 4, cy_ BK287 5, cy_ BK287 6, cy_ BK287 7, cy_ BK287 8, cy_ BK287 9, cy_ BK287 10⟩ (fun hHeld => ?_)
    clear hK K
    refine norm_ (a' := ?_) ?_ ?_
    rotate_left
    ·show Act.put _ (some 5) _ = _
     simp only [Act.put, q_]
     rfl
    refine pure_ (i := 3) (N := some 6) (v := ?_) (a' := ?_) tb50_f_12 rfl rfl (any_of HT_.out (by kernel_rfl)) (fun _ _ _ h => h) (Or.inl ⟨by rfl, ?_⟩) ?_ ?_
    rotate_left
    ·intro w'
     go_simp
     with_reducible rfl
    rotate_left
    ·simp only [Act.put, q_]
     rfl
    refine pure_ (i := 4) (N := some 7) (v := ?_) (a' := ?_) tb50_1f_12 rfl rfl (any_of HT_.out (by kernel_rfl)) (fun _ _ _ h => h) (Or.inl ⟨by rfl, ?_⟩) ?_ ?_
    rotate_left
    ·intro w'
     go_simp
     with_reducible rfl
    rotate_left
    ·simp only [Act.put, q_]
     rfl
    refine take_ (i := 5) (N := some 8) (v := ?_) (a' := ?_) tb50_3f_12 rfl rfl (take_ofW HT_.out HW_.out (by kernel_rfl)) (fun _ _ _ h => h) (Or.inl ⟨by rfl, ?_⟩) hHeld ?_ ?_
    rotate_left
    ·rintro w' ⟨s0, s1, s2, s3, s4, s5, s6, s7, s8, s9, s10⟩
     go_simp
     with_reducible rfl
    rotate_left
    ·simp only [Act.put, q_]
     rfl
    refine one_ (i := 6) (N := some 9) tb50_7f_12 rfl rfl (one_of HT_.out (by kernel_rfl)) (by decide) (fun K hK => ?_)
    refine goes_ Try.func71 (by kernel_rfl) rfl #[.int .i64 a0_1, .int .i64 0, .int .i64 9007199254740992] (by rfl) rfl rfl gl_ ?_
    with_reducible refine (impl_within.calls a0_1 0 9007199254740992 true _ A4.out).mono ?_
    rintro e w' ⟨rfl, ⟨nd, rfl⟩⟩
    refine ⟨_, rfl, ?_⟩
    refine hK.out _ _ ⟨cy_ BK287 0, cy_ BK287 1, cy_ BK287 2, cy_ BK287 3, cy_ BK287 4, cy_ BK287 5, cy_ BK287 6, cy_ BK287 7, cy_ BK287 8, cy_ BK287 9, cy_ BK287 10⟩ (fun hHeld => ?_)
    clear hK K
    refine norm_ (a' := ?_) ?_ ?_
    rotate_left
    ·show Act.put _ (some 9) _ = _
     simp only [Act.put, q_]
     rfl
    refine pure_ (i := 7) (N := some 10) (v := ?_) (a' := ?_) tb50_ff_12 rfl rfl (any_of HT_.out (by kernel_rfl)) (fun _ _ _ h => h) (Or.inl ⟨by rfl, ?_⟩) ?_ ?_
    rotate_left
    ·intro w'
     go_simp
     with_reducible rfl
    rotate_left
    ·simp only [Act.put, q_]
     rfl
    refine pure_ (i := 8) (N := some 11) (v := ?_) (a' := ?_) tb50_1ff_12 rfl rfl (any_of HT_.out (by kernel_rfl)) (fun _ _ _ h => h) (Or.inl ⟨by rfl, ?_⟩) ?_ ?_
    rotate_left
    ·intro w'
     go_simp
     with_reducible rfl
    rotate_left
    ·simp only [Act.put, q_]
     rfl
    refine pure_ (i := 9) (N := some 12) (v := ?_) (a' := ?_) tb50_3ff_12 rfl rfl (any_of HT_.out (by kernel_rfl)) (fun _ _ _ h => h) (Or.inl ⟨by rfl, ?_⟩) ?_ ?_
    rotate_left
    ·intro w'
     go_simp
     with_reducible rfl
    rotate_left
    ·simp only [Act.put, q_]
     rfl
    refine take_ (i := 10) (N := some 13) (v := ?_) (a' := ?_) tb50_7ff_12 rfl rfl (take_ofW HT_.out HW_.out (by kernel_rfl)) (fun _ _ _ h => h) (Or.inl ⟨by rfl, ?_⟩) hHeld ?_ ?_
    rotate_left
    ·rintro w' ⟨s0, s1, s2, s3, s4, s5, s6, s7, s8, s9, s10⟩
     go_simp
     with_reducible rfl
    rotate_left
    ·simp only [Act.put, q_]
     rfl
    refine one_ (i := 11) (N := some 14) tb50_fff_12 rfl rfl (one_of HT_.out (by kernel_rfl)) (by decide) (fun K hK => ?_)
    refine goes_ Try.func71 (by kernel_rfl) rfl #[.int .i64 a0_3, .int .i64 0, .int .i64 1000] (by rfl) rfl rfl gl_ ?_
    with_reducible refine (impl_within.calls a0_3 0 1000 false _ A6.out).mono ?_
    rintro e w' ⟨rfl, ⟨nd, rfl⟩⟩
    refine ⟨_, rfl, ?_⟩
    refine hK.out _ _ ⟨cy_ BK287 0, cy_ BK287 1, cy_ BK287 2, cy_ BK287 3, cy_ BK287 4, cy_ BK287 5, cy_ BK287 6, cy_ BK287 7, cy_ BK287 8, cy_ BK287 9, cy_ BK287 10⟩ (fun hHeld => ?_)
    clear hK K
    refine norm_ (a' := ?_) ?_ ?_
    rotate_left
    ·show Act.put _ (some 14) _ = _
     simp only [Act.put, q_]
     rfl
    refine pure_ (i := 12) (N := some 15) (v := ?_) (a' := ?_) tb50_1fff_12 rfl rfl (any_of HT_.out (by kernel_rfl)) (fun _ _ _ h => h) (Or.inl ⟨by rfl, ?_⟩) ?_ ?_
    rotate_left
    ·intro w'
     go_simp
     with_reducible rfl
    rotate_left
    ·simp only [Act.put, q_]
     rfl
    refine pure_ (i := 13) (N := some 16) (v := ?_) (a' := ?_) tb50_3fff_12 rfl rfl (any_of HT_.out (by kernel_rfl)) (fun _ _ _ h => h) (Or.inl ⟨by rfl, ?_⟩) ?_ ?_
    rotate_left
    ·intro w'
     go_simp
     with_reducible rfl
    rotate_left
    ·simp only [Act.put, q_]
     rfl
    refine pure_ (i := 14) (N := some 17) (v := undef) (a' := ?_) tb50_7fff_12 rfl rfl (any_of HT_.out (by kernel_rfl)) (fun _ _ _ h => h) (Or.inr ⟨by rfl, rfl⟩) ?_ ?_
    rotate_left
    ·simp only [Act.put, q_]
     rfl
    refine pure_ (i := 15) (N := some 18) (v := undef) (a' := ?_) tb50_ffff_12 rfl rfl (any_of HT_.out (by kernel_rfl)) (fun _ _ _ h => h) (Or.inr ⟨by rfl, rfl⟩) ?_ ?_
    rotate_left
    ·simp only [Act.put, q_]
     rfl
    refine pure_ (i := 16) (N := some 19) (v := undef) (a' := ?_) tb50_1ffff_12 rfl rfl (any_of HT_.out (by kernel_rfl)) (fun _ _ _ h => h) (Or.inr ⟨by rfl, rfl⟩) ?_ ?_
    rotate_left
    ·simp only [Act.put, q_]
     rfl
    refine pure_ (i := 17) (N := some 20) (v := ?_) (a' := ?_) tb50_3ffff_12 rfl rfl (any_of HT_.out (by kernel_rfl)) (fun _ _ _ h => h) (Or.inl ⟨by rfl, ?_⟩) ?_ ?_
    rotate_left
    ·intro w'
     go_simp
     with_reducible rfl
    rotate_left
    ·simp only [Act.put, q_]
     rfl
    refine pure_ (i := 18) (N := some 21) (v := ?_) (a' := ?_) tb50_7ffff_12 rfl rfl (any_of HT_.out (by kernel_rfl)) (fun _ _ _ h => h) (Or.inl ⟨by rfl, ?_⟩) ?_ ?_
    rotate_left
    ·intro w'
     go_simp
     with_reducible rfl
    rotate_left
    ·simp only [Act.put, q_]
     rfl
    refine pure_ (i := 19) (N := some 22) (v := undef) (a' := ?_) tb50_fffff_12 rfl rfl (any_of HT_.out (by kernel_rfl)) (fun _ _ _ h => h) (Or.inr ⟨by rfl, rfl⟩) ?_ ?_
    rotate_left
    ·simp only [Act.put, q_]
     rfl
    refine pure_ (i := 20) (N := some 23) (v := undef) (a' := ?_) tb50_1fffff_12 rfl rfl (any_of HT_.out (by kernel_rfl)) (fun _ _ _ h => h) (Or.inr ⟨by rfl, rfl⟩) ?_ ?_
    rotate_left
    ·simp only [Act.put, q_]
     rfl
    refine pure_ (i := 21) (N := some 24) (v := undef) (a' := ?_) tb50_3fffff_12 rfl rfl (any_of HT_.out (by kernel_rfl)) (fun _ _ _ h => h) (Or.inr ⟨by rfl, rfl⟩) ?_ ?_
    rotate_left
    ·simp only [Act.put, q_]
     rfl
    refine pure_ (i := 22) (N := some 25) (v := ?_) (a' := ?_) tb50_7fffff_12 rfl rfl (any_of HT_.out (by kernel_rfl)) (fun _ _ _ h => h) (Or.inl ⟨by rfl, ?_⟩) ?_ ?_
    rotate_left
    ·intro w'
     go_simp
     with_reducible rfl
    rotate_left
    ·simp only [Act.put, q_]
     rfl
    refine pure_ (i := 23) (N := some 26) (v := ?_) (a' := ?_) tb50_ffffff_12 rfl rfl (any_of HT_.out (by kernel_rfl)) (fun _ _ _ h => h) (Or.inl ⟨by rfl, ?_⟩) ?_ ?_
    rotate_left
    ·intro w'
     go_simp
     with_reducible rfl
    rotate_left
    ·simp only [Act.put, q_]
     rfl
    refine pure_ (i := 24) (N := some 27) (v := undef) (a' := ?_) tb50_1ffffff_12 rfl rfl (any_of HT_.out (by kernel_rfl)) (fun _ _ _ h => h) (Or.inr ⟨by rfl, rfl⟩) ?_ ?_
    rotate_left
    ·simp only [Act.put, q_]
     rfl
    refine pure_ (i := 25) (N := some 28) (v := undef) (a' := ?_) tb50_3ffffff_12 rfl rfl (any_of HT_.out (by kernel_rfl)) (fun _ _ _ h => h) (Or.inr ⟨by rfl, rfl⟩) ?_ ?_
    rotate_left
    ·simp only [Act.put, q_]
     rfl
    refine pure_ (i := 26) (N := some 29) (v := undef) (a' := ?_) tb50_7ffffff_12 rfl rfl (any_of HT_.out (by kernel_rfl)) (fun _ _ _ h => h) (Or.inr ⟨by rfl, rfl⟩) ?_ ?_
    rotate_left
    ·simp only [Act.put, q_]
     rfl
    refine pure_ (i := 27) (N := some 30) (v := ?_) (a' := ?_) tb50_fffffff_12 rfl rfl (any_of HT_.out (by kernel_rfl)) (fun _ _ _ h => h) (Or.inl ⟨by rfl, ?_⟩) ?_ ?_
    rotate_left
    ·intro w'
     go_simp
     with_reducible rfl
    rotate_left
    ·simp only [Act.put, q_]
     rfl
    refine pure_ (i := 28) (N := some 31) (v := ?_) (a' := ?_) tb50_1fffffff_12 rfl rfl (any_of HT_.out (by kernel_rfl)) (fun _ _ _ h => h) (Or.inl ⟨by rfl, ?_⟩) ?_ ?_
    rotate_left
    ·intro w'
     go_simp
     with_reducible rfl
    rotate_left
    ·simp only [Act.put, q_]
     rfl
    refine pure_ (i := 29) (N := some 32) (v := undef) (a' := ?_) tb50_3fffffff_12 rfl rfl (any_of HT_.out (by kernel_rfl)) (fun _ _ _ h => h) (Or.inr ⟨by rfl, rfl⟩) ?_ ?_
    rotate_left
    ·simp only [Act.put, q_]
     rfl
    refine pure_ (i := 30) (N := some 33) (v := undef) (a' := ?_) tb50_7fffffff_12 rfl rfl (any_of HT_.out (by kernel_rfl)) (fun _ _ _ h => h) (Or.inr ⟨by rfl, rfl⟩) ?_ ?_
    rotate_left
    ·simp only [Act.put, q_]
     rfl
    refine pure_ (i := 31) (N := some 34) (v := undef) (a' := ?_) tb50_ffffffff_12 rfl rfl (any_of HT_.out (by kernel_rfl)) (fun _ _ _ h => h) (Or.inr ⟨by rfl, rfl⟩) ?_ ?_
    rotate_left
    ·simp only [Act.put, q_]
     rfl
    refine pure_ (i := 32) (N := some 35) (v := ?_) (a' := ?_) tb50_1ffffffff_12 rfl rfl (any_of HT_.out (by kernel_rfl)) (fun _ _ _ h => h) (Or.inl ⟨by rfl, ?_⟩) ?_ ?_
    rotate_left
    ·intro w'
     go_simp
     with_reducible rfl
    rotate_left
    ·simp only [Act.put, q_]
     rfl
    refine pure_ (i := 33) (N := some 36) (v := ?_) (a' := ?_) tb50_3ffffffff_12 rfl rfl (any_of HT_.out (by kernel_rfl)) (fun _ _ _ h => h) (Or.inl ⟨by rfl, ?_⟩) ?_ ?_
    rotate_left
    ·intro w'
     go_simp
     with_reducible rfl
    rotate_left
    ·simp only [Act.put, q_]
     rfl
    refine pure_ (i := 34) (N := some 37) (v := undef) (a' := ?_) tb50_7ffffffff_12 rfl rfl (any_of HT_.out (by kernel_rfl)) (fun _ _ _ h => h) (Or.inr ⟨by rfl, rfl⟩) ?_ ?_
    rotate_left
    ·simp only [Act.put, q_]
     rfl
    refine pure_ (i := 35) (N := some 38) (v := undef) (a' := ?_) tb50_fffffffff_12 rfl rfl (any_of HT_.out (by kernel_rfl)) (fun _ _ _ h => h) (Or.inr ⟨by rfl, rfl⟩) ?_ ?_
    rotate_left
    ·simp only [Act.put, q_]
     rfl
    refine pure_ (i := 36) (N := some 39) (v := undef) (a' := ?_) tb50_1fffffffff_12 rfl rfl (any_of HT_.out (by kernel_rfl)) (fun _ _ _ h => h) (Or.inr ⟨by rfl, rfl⟩) ?_ ?_
    rotate_left
    ·simp only [Act.put, q_]
     rfl
    refine pure_ (i := 37) (N := some 40) (v := ?_) (a' := ?_) tb50_3fffffffff_12 rfl rfl (any_of HT_.out (by kernel_rfl)) (fun _ _ _ h => h) (Or.inl ⟨by rfl, ?_⟩) ?_ ?_
    rotate_left
    ·intro w'
     go_simp
     with_reducible rfl
    rotate_left
    ·simp only [Act.put, q_]
     rfl
    refine pure_ (i := 38) (N := some 41) (v := ?_) (a' := ?_) tb50_7fffffffff_12 rfl rfl (any_of HT_.out (by kernel_rfl)) (fun _ _ _ h => h) (Or.inl ⟨by rfl, ?_⟩) ?_ ?_
    rotate_left
    ·intro w'
     go_simp
     with_reducible rfl
    rotate_left
    ·simp only [Act.put, q_]
     rfl
    refine pure_ (i := 39) (N := some 42) (v := undef) (a' := ?_) tb50_ffffffffff_12 rfl rfl (any_of HT_.out (by kernel_rfl)) (fun _ _ _ h => h) (Or.inr ⟨by rfl, rfl⟩) ?_ ?_
    rotate_left
    ·simp only [Act.put, q_]
     rfl
    refine pure_ (i := 40) (N := some 43) (v := undef) (a' := ?_) tb50_1ffffffffff_12 rfl rfl (any_of HT_.out (by kernel_rfl)) (fun _ _ _ h => h) (Or.inr ⟨by rfl, rfl⟩) ?_ ?_
    rotate_left
    ·simp only [Act.put, q_]
     rfl
    refine pure_ (i := 41) (N := some 44) (v := undef) (a' := ?_) tb50_3ffffffffff_12 rfl rfl (any_of HT_.out (by kernel_rfl)) (fun _ _ _ h => h) (Or.inr ⟨by rfl, rfl⟩) ?_ ?_
    rotate_left
    ·simp only [Act.put, q_]
     rfl
    refine pure_ (i := 42) (N := some 45) (v := undef) (a' := ?_) tb50_7ffffffffff_12 rfl rfl (any_of HT_.out (by kernel_rfl)) (fun _ _ _ h => h) (Or.inr ⟨by rfl, rfl⟩) ?_ ?_
    rotate_left
    ·simp only [Act.put, q_]
     rfl
    refine pure_ (i := 43) (N := some 46) (v := undef) (a' := ?_) tb50_fffffffffff_12 rfl rfl (any_of HT_.out (by kernel_rfl)) (fun _ _ _ h => h) (Or.inr ⟨by rfl, rfl⟩) ?_ ?_
    rotate_left
    ·simp only [Act.put, q_]
     rfl
    refine pure_ (i := 44) (N := some 47) (v := undef) (a' := ?_) tb50_1fffffffffff_12 rfl rfl (any_of HT_.out (by kernel_rfl)) (fun _ _ _ h => h) (Or.inr ⟨by rfl, rfl⟩) ?_ ?_
    rotate_left
    ·simp only [Act.put, q_]
     rfl
    refine pure_ (i := 45) (N := some 48) (v := undef) (a' := ?_) tb50_3fffffffffff_12 rfl rfl (any_of HT_.out (by kernel_rfl)) (fun _ _ _ h => h) (Or.inr ⟨by rfl, rfl⟩) ?_ ?_
    rotate_left
    ·simp only [Act.put, q_]
     rfl
    refine pure_ (i := 46) (N := some 49) (v := undef) (a' := ?_) tb50_7fffffffffff_12 rfl rfl (any_of HT_.out (by kernel_rfl)) (fun _ _ _ h => h) (Or.inr ⟨by rfl, rfl⟩) ?_ ?_
    rotate_left
    ·simp only [Act.put, q_]
     rfl
    refine pure_ (i := 47) (N := some 50) (v := undef) (a' := ?_) tb50_ffffffffffff_12 rfl rfl (any_of HT_.out (by kernel_rfl)) (fun _ _ _ h => h) (Or.inr ⟨by rfl, rfl⟩) ?_ ?_
    rotate_left
    ·simp only [Act.put, q_]
     rfl
    refine pure_ (i := 48) (N := some 51) (v := ?_) (a' := ?_) tb50_1ffffffffffff_12 rfl rfl (any_of HT_.out (by kernel_rfl)) (fun _ _ _ h => h) (Or.inl ⟨by rfl, ?_⟩) ?_ ?_
    rotate_left
    ·intro w'
     go_simp
     with_reducible rfl
    rotate_left
    ·simp only [Act.put, q_]
     rfl
    refine pure_ (i := 49) (N := some 2) (v := ?_) (a' := ?_) tb50_3ffffffffffff_12 rfl rfl (any_of HT_.out (by kernel_rfl)) (fun _ _ _ h => h) (Or.inl ⟨by rfl, ?_⟩) ?_ ?_
    rotate_left
    ·intro w'
     go_simp
     with_reducible rfl
    rotate_left
    ·simp only [Act.put, q_]
     rfl
    refine done_ (done_of HT_.out (by kernel_rfl)) ?_
    try go_wp2
    go_ret
    exact ⟨by first | rfl | (simp [errW_none, errW_some] <;> rfl) | (simp [*, errW_none, errW_some] <;> rfl), bl_⟩
  ·replace c5 := Bool.eq_false_iff.mpr c5
   subst c5
   have H1 : (some false) = some r := by rw [if_neg (show ¬ (false = true) by decide)] at H; exact H
   clear H
   have H := H1
   clear H1
   obtain rfl := Option.some.inj H
   go_enter Try.func20, Try.ntmps20
   try go_wp2_with (first | ((with_reducible refine gate_dst (N := 1) rfl ?_); refine box_event ?hg (N := 1) ?hd (cs := #[.string a0_0, .int .i64 a0_1, .int .i64 a0_2, .int .i64 a0_3, .int .i64 a0_4, .slice A0_5 l0_5.length c0_5, .int .i64 a0_6, .int .i64 a0_7, .slice A0_8 l0_8.length c0_8, .slice A0_9 l0_9.length c0_9, .slice A0_10 l0_10.length c0_10]) (t := 48) ?hr ?_; (case hd => rfl); (case hg => rfl); (case hr => first | (go_simp; done) | (go_simp; rfl)); intro gb287 hg w45 hbox hb; have n0_ := Aside0.mk (below_step bl_ hb); have n1_ := Aside0.mk (hbox); have n2_ := Aside0.mk ((by rw [hg]; exact (below_size bl_) : w.heap.size ≤ gb287)); have n3_ := Aside0.mk ((by rw [hg]; exact (below_size bl_) : w.heap.size ≤ gb287)); clear HB; have HB := n0_; have BK287 := n1_; have GW287 := n2_; have GE287 := n3_; clear n0_ n1_ n2_ n3_; clear hb hbox hg))
   have n0_ := Aside0.mk (blk_drew BK287.out)
   have n1_ := Aside0.mk (below_drew1 HB.out)
   clear BK287
   clear HB
   have BK287 := n0_
   have HB := n1_
   clear n0_ n1_
   refine start_ (n := 50) (S := fun w' => w'.cell? ⟨gb287, 0, none⟩ = some (.string a0_0) ∧ w'.cell? ⟨gb287, 1, none⟩ = some (.int .i64 a0_1) ∧ w'.cell? ⟨gb287, 2, none⟩ = some (.int .i64 a0_2) ∧ w'.cell? ⟨gb287, 3, none⟩ = some (.int .i64 a0_3) ∧ w'.cell? ⟨gb287, 4, none⟩ = some (.int .i64 a0_4) ∧ w'.cell? ⟨gb287, 5, none⟩ = some (.slice A0_5 l0_5.length c0_5) ∧ w'.cell? ⟨gb287, 6, none⟩ = some (.int .i64 a0_6) ∧ w'.cell? ⟨gb287, 7, none⟩ = some (.int .i64 a0_7) ∧ w'.cell? ⟨gb287, 8, none⟩ = some (.slice A0_8 l0_8.length c0_8) ∧ w'.cell? ⟨gb287, 9, none⟩ = some (.slice A0_9 l0_9.length c0_9) ∧ w'.cell? ⟨gb287, 10, none⟩ = some (.slice A0_10 l0_10.length c0_10)) (ds := []) tb50_0_12 (by kernel_rfl) rfl rfl ⟨cy_ BK287 0, cy_ BK287 1, cy_ BK287 2, cy_ BK287 3, cy_ BK287 4, cy_ BK287 5, cy_ BK287 6, cy_ BK287 7, cy_ BK287 8, cy_ BK287 9, cy_ BK287 10⟩ (fun hHeld => ?_); refine with_tabW impl_AcctOk.tab1 impl_AcctOk.bits1 (fun HT_ HW_ => ?_)
   generalize w45.drew = w46 at BK287 HB hHeld ⊢
   refine pure_ (i := 0) (N := some 3) (v := ?_) (a' := ?_) tb50_1_12 rfl rfl (any_of HT_.out (by kernel_rfl)) (fun _ _ _ h => h) (Or.inl ⟨by rfl, ?_⟩) ?_ ?_
   rotate_left
   ·intro w'
    go_simp
    with_reducible rfl
   rotate_left
   ·simp only [Act.put, q_]
    rfl
   refine take_ (i := 1) (N := some 4) (v := ?_) (a' := ?_) tb50_3_12 rfl rfl (take_ofW HT_.out HW_.out (by kernel_rfl)) (fun _ _ _ h => h) (Or.inl ⟨by rfl, ?_⟩) hHeld ?_ ?_
   rotate_left
   ·rintro w' ⟨s0, s1, s2, s3, s4, s5, s6, s7, s8, s9, s10⟩
    go_simp
    with_reducible rfl
   rotate_left
   ·simp only [Act.put, q_]
    rfl
   refine one_ (i := 2) (N := some 5) tb50_7_12 rfl rfl (one_of HT_.out (by kernel_rfl)) (by decide) (fun K hK => ?_)
   refine goes_ Try.func70 (by kernel_rfl) rfl #[.string a0_0] (by rfl) rfl rfl gl_ ?_
   with_reducible refine (impl_AcctIdOk.calls k a0_0 true _ A2.out).mono ?_
   rintro e w' ⟨rfl, ⟨nd, rfl⟩⟩
   refine ⟨_, rfl, ?_⟩
   refine hK.out _ _ ⟨cy_ BK287 0, cy_ BK287 1, cy_ BK287 2, cy_ BK287 3, cy_ BK287 4, cy_ BK287 5, cy_ BK287 6, cy_ BK287 7, cy_ BK287 8, cy_ BK287 9, cy_ BK287 10⟩ (fun hHeld => ?_)
   clear hK K
   refine norm_ (a' := ?_) ?_ ?_
   rotate_left
   ·show Act.put _ (some 5) _ = _
    simp only [Act.put, q_]
    rfl
   refine pure_ (i := 3) (N := some 6) (v := ?_) (a' := ?_) tb50_f_12 rfl rfl (any_of HT_.out (by kernel_rfl)) (fun _ _ _ h => h) (Or.inl ⟨by rfl, ?_⟩) ?_ ?_
   rotate_left
   ·intro w'
    go_simp
    with_reducible rfl
   rotate_left
   ·simp only [Act.put, q_]
    rfl
   refine pure_ (i := 4) (N := some 7) (v := ?_) (a' := ?_) tb50_1f_12 rfl rfl (any_of HT_.out (by kernel_rfl)) (fun _ _ _ h => h) (Or.inl ⟨by rfl, ?_⟩) ?_ ?_
   rotate_left
   ·intro w'
    go_simp
    with_reducible rfl
   rotate_left
   ·simp only [Act.put, q_]
    rfl
   refine take_ (i := 5) (N := some 8) (v := ?_) (a' := ?_) tb50_3f_12 rfl rfl (take_ofW HT_.out HW_.out (by kernel_rfl)) (fun _ _ _ h => h) (Or.inl ⟨by rfl, ?_⟩) hHeld ?_ ?_
   rotate_left
   ·rintro w' ⟨s0, s1, s2, s3, s4, s5, s6, s7, s8, s9, s10⟩
    go_simp
    with_reducible rfl
   rotate_left
   ·simp only [Act.put, q_]
    rfl
   refine one_ (i := 6) (N := some 9) tb50_7f_12 rfl rfl (one_of HT_.out (by kernel_rfl)) (by decide) (fun K hK => ?_)
   refine goes_ Try.func71 (by kernel_rfl) rfl #[.int .i64 a0_1, .int .i64 0, .int .i64 9007199254740992] (by rfl) rfl rfl gl_ ?_
   with_reducible refine (impl_within.calls a0_1 0 9007199254740992 false _ A4.out).mono ?_
   rintro e w' ⟨rfl, ⟨nd, rfl⟩⟩
   refine ⟨_, rfl, ?_⟩
   refine hK.out _ _ ⟨cy_ BK287 0, cy_ BK287 1, cy_ BK287 2, cy_ BK287 3, cy_ BK287 4, cy_ BK287 5, cy_ BK287 6, cy_ BK287 7, cy_ BK287 8, cy_ BK287 9, cy_ BK287 10⟩ (fun hHeld => ?_)
   clear hK K
   refine norm_ (a' := ?_) ?_ ?_
   rotate_left
   ·show Act.put _ (some 9) _ = _
    simp only [Act.put, q_]
    rfl
   refine pure_ (i := 7) (N := some 10) (v := ?_) (a' := ?_) tb50_ff_12 rfl rfl (any_of HT_.out (by kernel_rfl)) (fun _ _ _ h => h) (Or.inl ⟨by rfl, ?_⟩) ?_ ?_
   rotate_left
   ·intro w'
    go_simp
    with_reducible rfl
   rotate_left
   ·simp only [Act.put, q_]
    rfl
   refine pure_ (i := 8) (N := some 11) (v := ?_) (a' := ?_) tb50_1ff_12 rfl rfl (any_of HT_.out (by kernel_rfl)) (fun _ _ _ h => h) (Or.inl ⟨by rfl, ?_⟩) ?_ ?_
   rotate_left
   ·intro w'
    go_simp
    with_reducible rfl
   rotate_left
   ·simp only [Act.put, q_]
    rfl
   refine pure_ (i := 9) (N := some 12) (v := undef) (a' := ?_) tb50_3ff_12 rfl rfl (any_of HT_.out (by kernel_rfl)) (fun _ _ _ h => h) (Or.inr ⟨by rfl, rfl⟩) ?_ ?_
   rotate_left
   ·simp only [Act.put, q_]
    rfl
   refine pure_ (i := 10) (N := some 13) (v := undef) (a' := ?_) tb50_7ff_12 rfl rfl (any_of HT_.out (by kernel_rfl)) (fun _ _ _ h => h) (Or.inr ⟨by rfl, rfl⟩) ?_ ?_
   rotate_left
   ·simp only [Act.put, q_]
    rfl
   refine pure_ (i := 11) (N := some 14) (v := undef) (a' := ?_) tb50_fff_12 rfl rfl (any_of HT_.out (by kernel_rfl)) (fun _ _ _ h => h) (Or.inr ⟨by rfl, rfl⟩) ?_ ?_
   rotate_left
   ·simp only [Act.put, q_]
    rfl
   refine pure_ (i := 12) (N := some 15) (v := ?_) (a' := ?_) tb50_1fff_12 rfl rfl (any_of HT_.out (by kernel_rfl)) (fun _ _ _ h => h) (Or.inl ⟨by rfl, ?_⟩) ?_ ?_
   rotate_left
   ·intro w'
    go_simp
    with_reducible rfl
   rotate_left
   ·simp only [Act.put, q_]
    rfl
   refine pure_ (i := 13) (N := some 16) (v := ?_) (a' := ?_) tb50_3fff_12 rfl rfl (any_of HT_.out (by kernel_rfl)) (fun _ _ _ h => h) (Or.inl ⟨by rfl, ?_⟩) ?_ ?_
   rotate_left
   ·intro w'
    go_simp
    with_reducible rfl
   rotate_left
   ·simp only [Act.put, q_]
    rfl
   refine pure_ (i := 14) (N := some 17) (v := undef) (a' := ?_) tb50_7fff_12 rfl rfl (any_of HT_.out (by kernel_rfl)) (fun _ _ _ h => h) (Or.inr ⟨by rfl, rfl⟩) ?_ ?_
   rotate_left
   ·simp only [Act.put, q_]
    rfl
   refine pure_ (i := 15) (N := some 18) (v := undef) (a' := ?_) tb50_ffff_12 rfl rfl (any_of HT_.out (by kernel_rfl)) (fun _ _ _ h => h) (Or.inr ⟨by rfl, rfl⟩) ?_ ?_
   rotate_left
   ·simp only [Act.put, q_]
    rfl
   refine pure_ (i := 16) (N := some 19) (v := undef) (a' := ?_) tb50_1ffff_12 rfl rfl (any_of HT_.out (by kernel_rfl)) (fun _ _ _ h => h) (Or.inr ⟨by rfl, rfl⟩) ?_ ?_
   rotate_left
   ·simp only [Act.put, q_]
    rfl
   refine pure_ (i := 17) (N := some 20) (v := ?_) (a' := ?_) tb50_3ffff_12 rfl rfl (any_of HT_.out (by kernel_rfl)) (fun _ _ _ h => h) (Or.inl ⟨by rfl, ?_⟩) ?_ ?_
   rotate_left
   ·intro w'
    go_simp
    with_reducible rfl
   rotate_left
   ·simp only [Act.put, q_]
    rfl
   refine pure_ (i := 18) (N := some 21) (v := ?_) (a' := ?_) tb50_7ffff_12 rfl rfl (any_of HT_.out (by kernel_rfl)) (fun _ _ _ h => h) (Or.inl ⟨by rfl, ?_⟩) ?_ ?_
   rotate_left
   ·intro w'
    go_simp
    with_reducible rfl
   rotate_left
   ·simp only [Act.put, q_]
    rfl
   refine pure_ (i := 19) (N := some 22) (v := undef) (a' := ?_) tb50_fffff_12 rfl rfl (any_of HT_.out (by kernel_rfl)) (fun _ _ _ h => h) (Or.inr ⟨by rfl, rfl⟩) ?_ ?_
   rotate_left
   ·simp only [Act.put, q_]
    rfl
   refine pure_ (i := 20) (N := some 23) (v := undef) (a' := ?_) tb50_1fffff_12 rfl rfl (any_of HT_.out (by kernel_rfl)) (fun _ _ _ h => h) (Or.inr ⟨by rfl, rfl⟩) ?_ ?_
   rotate_left
   ·simp only [Act.put, q_]
    rfl
   refine pure_ (i := 21) (N := some 24) (v := undef) (a' := ?_) tb50_3fffff_12 rfl rfl (any_of HT_.out (by kernel_rfl)) (fun _ _ _ h => h) (Or.inr ⟨by rfl, rfl⟩) ?_ ?_
   rotate_left
   ·simp only [Act.put, q_]
    rfl
   refine pure_ (i := 22) (N := some 25) (v := ?_) (a' := ?_) tb50_7fffff_12 rfl rfl (any_of HT_.out (by kernel_rfl)) (fun _ _ _ h => h) (Or.inl ⟨by rfl, ?_⟩) ?_ ?_
   rotate_left
   ·intro w'
    go_simp
    with_reducible rfl
   rotate_left
   ·simp only [Act.put, q_]
    rfl
   refine pure_ (i := 23) (N := some 26) (v := ?_) (a' := ?_) tb50_ffffff_12 rfl rfl (any_of HT_.out (by kernel_rfl)) (fun _ _ _ h => h) (Or.inl ⟨by rfl, ?_⟩) ?_ ?_
   rotate_left
   ·intro w'
    go_simp
    with_reducible rfl
   rotate_left
   ·simp only [Act.put, q_]
    rfl
   refine pure_ (i := 24) (N := some 27) (v := undef) (a' := ?_) tb50_1ffffff_12 rfl rfl (any_of HT_.out (by kernel_rfl)) (fun _ _ _ h => h) (Or.inr ⟨by rfl, rfl⟩) ?_ ?_
   rotate_left
   ·simp only [Act.put, q_]
    rfl
   refine pure_ (i := 25) (N := some 28) (v := undef) (a' := ?_) tb50_3ffffff_12 rfl rfl (any_of HT_.out (by kernel_rfl)) (fun _ _ _ h => h) (Or.inr ⟨by rfl, rfl⟩) ?_ ?_
   rotate_left
   ·simp only [Act.put, q_]
    rfl
   refine pure_ (i := 26) (N := some 29) (v := undef) (a' := ?_) tb50_7ffffff_12 rfl rfl (any_of HT_.out (by kernel_rfl)) (fun _ _ _ h => h) (Or.inr ⟨by rfl, rfl⟩) ?_ ?_
   rotate_left
   ·simp only [Act.put, q_]
    rfl
   refine pure_ (i := 27) (N := some 30) (v := ?_) (a' := ?_) tb50_fffffff_12 rfl rfl (any_of HT_.out (by kernel_rfl)) (fun _ _ _ h => h) (Or.inl ⟨by rfl, ?_⟩) ?_ ?_
   rotate_left
   ·intro w'
    go_simp
    with_reducible rfl
   rotate_left
   ·simp only [Act.put, q_]
    rfl
   refine pure_ (i := 28) (N := some 31) (v := ?_) (a' := ?_) tb50_1fffffff_12 rfl rfl (any_of HT_.out (by kernel_rfl)) (fun _ _ _ h => h) (Or.inl ⟨by rfl, ?_⟩) ?_ ?_
   rotate_left
   ·intro w'
    go_simp
    with_reducible rfl
   rotate_left
   ·simp only [Act.put, q_]
    rfl
   refine pure_ (i := 29) (N := some 32) (v := undef) (a' := ?_) tb50_3fffffff_12 rfl rfl (any_of HT_.out (by kernel_rfl)) (fun _ _ _ h => h) (Or.inr ⟨by rfl, rfl⟩) ?_ ?_
   rotate_left
   ·simp only [Act.put, q_]
    rfl
   refine pure_ (i := 30) (N := some 33) (v := undef) (a' := ?_) tb50_7fffffff_12 rfl rfl (any_of HT_.out (by kernel_rfl)) (fun _ _ _ h => h) (Or.inr ⟨by rfl, rfl⟩) ?_ ?_
   rotate_left
   ·simp only [Act.put, q_]
    rfl
   refine pure_ (i := 31) (N := some 34) (v := undef) (a' := ?_) tb50_ffffffff_12 rfl rfl (any_of HT_.out (by kernel_rfl)) (fun _ _ _ h => h) (Or.inr ⟨by rfl, rfl⟩) ?_ ?_
   rotate_left
   ·simp only [Act.put, q_]
    rfl
   refine pure_ (i := 32) (N := some 35) (v := ?_) (a' := ?_) tb50_1ffffffff_12 rfl rfl (any_of HT_.out (by kernel_rfl)) (fun _ _ _ h => h) (Or.inl ⟨by rfl, ?_⟩) ?_ ?_
   rotate_left
   ·intro w'
    go_simp
    with_reducible rfl
   rotate_left
   ·simp only [Act.put, q_]
    rfl
   refine pure_ (i := 33) (N := some 36) (v := ?_) (a' := ?_) tb50_3ffffffff_12 rfl rfl (any_of HT_.out (by kernel_rfl)) (fun _ _ _ h => h) (Or.inl ⟨by rfl, ?_⟩) ?_ ?_
   rotate_left
   ·intro w'
    go_simp
    with_reducible rfl
   rotate_left
   ·simp only [Act.put, q_]
    rfl
   refine pure_ (i := 34) (N := some 37) (v := undef) (a' := ?_) tb50_7ffffffff_12 rfl rfl (any_of HT_.out (by kernel_rfl)) (fun _ _ _ h => h) (Or.inr ⟨by rfl, rfl⟩) ?_ ?_
   rotate_left
   ·simp only [Act.put, q_]
    rfl
   refine pure_ (i := 35) (N := some 38) (v := undef) (a' := ?_) tb50_fffffffff_12 rfl rfl (any_of HT_.out (by kernel_rfl)) (fun _ _ _ h => h) (Or.inr ⟨by rfl, rfl⟩) ?_ ?_
   rotate_left
   ·simp only [Act.put, q_]
    rfl
   refine pure_ (i := 36) (N := some 39) (v := undef) (a' := ?_) tb50_1fffffffff_12 rfl rfl (any_of HT_.out (by kernel_rfl)) (fun _ _ _ h => h) (Or.inr ⟨by rfl, rfl⟩) ?_ ?_
   rotate_left
   ·simp only [Act.put, q_]
    rfl
   refine pure_ (i := 37) (N := some 40) (v := ?_) (a' := ?_) tb50_3fffffffff_12 rfl rfl (any_of HT_.out (by kernel_rfl)) (fun _ _ _ h => h) (Or.inl ⟨by rfl, ?_⟩) ?_ ?_
   rotate_left
   ·intro w'
    go_simp
    with_reducible rfl
   rotate_left
   ·simp only [Act.put, q_]
    rfl
   refine pure_ (i := 38) (N := some 41) (v := ?_) (a' := ?_) tb50_7fffffffff_12 rfl rfl (any_of HT_.out (by kernel_rfl)) (fun _ _ _ h => h) (Or.inl ⟨by rfl, ?_⟩) ?_ ?_
   rotate_left
   ·intro w'
    go_simp
    with_reducible rfl
   rotate_left
   ·simp only [Act.put, q_]
    rfl
   refine pure_ (i := 39) (N := some 42) (v := undef) (a' := ?_) tb50_ffffffffff_12 rfl rfl (any_of HT_.out (by kernel_rfl)) (fun _ _ _ h => h) (Or.inr ⟨by rfl, rfl⟩) ?_ ?_
   rotate_left
   ·simp only [Act.put, q_]
    rfl
   refine pure_ (i := 40) (N := some 43) (v := undef) (a' := ?_) tb50_1ffffffffff_12 rfl rfl (any_of HT_.out (by kernel_rfl)) (fun _ _ _ h => h) (Or.inr ⟨by rfl, rfl⟩) ?_ ?_
   rotate_left
   ·simp only [Act.put, q_]
    rfl
   refine pure_ (i := 41) (N := some 44) (v := undef) (a' := ?_) tb50_3ffffffffff_12 rfl rfl (any_of HT_.out (by kernel_rfl)) (fun _ _ _ h => h) (Or.inr ⟨by rfl, rfl⟩) ?_ ?_
   rotate_left
   ·simp only [Act.put, q_]
    rfl
   refine pure_ (i := 42) (N := some 45) (v := undef) (a' := ?_) tb50_7ffffffffff_12 rfl rfl (any_of HT_.out (by kernel_rfl)) (fun _ _ _ h => h) (Or.inr ⟨by rfl, rfl⟩) ?_ ?_
   rotate_left
   ·simp only [Act.put, q_]
    rfl
   refine pure_ (i := 43) (N := some 46) (v := undef) (a' := ?_) tb50_fffffffffff_12 rfl rfl (any_of HT_.out (by kernel_rfl)) (fun _ _ _ h => h) (Or.inr ⟨by rfl, rfl⟩) ?_ ?_
   rotate_left
   ·simp only [Act.put, q_]
    rfl
   refine pure_ (i := 44) (N := some 47) (v := undef) (a' := ?_) tb50_1fffffffffff_12 rfl rfl (any_of HT_.out (by kernel_rfl)) (fun _ _ _ h => h) (Or.inr ⟨by rfl, rfl⟩) ?_ ?_
   rotate_left
   ·simp only [Act.put, q_]
    rfl
   refine pure_ (i := 45) (N := some 48) (v := undef) (a' := ?_) tb50_3fffffffffff_12 rfl rfl (any_of HT_.out (by kernel_rfl)) (fun _ _ _ h => h) (Or.inr ⟨by rfl, rfl⟩) ?_ ?_
   rotate_left
   ·simp only [Act.put, q_]
    rfl
   refine pure_ (i := 46) (N := some 49) (v := undef) (a' := ?_) tb50_7fffffffffff_12 rfl rfl (any_of HT_.out (by kernel_rfl)) (fun _ _ _ h => h) (Or.inr ⟨by rfl, rfl⟩) ?_ ?_
   rotate_left
   ·simp only [Act.put, q_]
    rfl
   refine pure_ (i := 47) (N := some 50) (v := undef) (a' := ?_) tb50_ffffffffffff_12 rfl rfl (any_of HT_.out (by kernel_rfl)) (fun _ _ _ h => h) (Or.inr ⟨by rfl, rfl⟩) ?_ ?_
   rotate_left
   ·simp only [Act.put, q_]
    rfl
   refine pure_ (i := 48) (N := some 51) (v := ?_) (a' := ?_) tb50_1ffffffffffff_12 rfl rfl (any_of HT_.out (by kernel_rfl)) (fun _ _ _ h => h) (Or.inl ⟨by rfl, ?_⟩) ?_ ?_
   rotate_left
   ·intro w'
    go_simp
    with_reducible rfl
   rotate_left
   ·simp only [Act.put, q_]
    rfl
   refine pure_ (i := 49) (N := some 2) (v := ?_) (a' := ?_) tb50_3ffffffffffff_12 rfl rfl (any_of HT_.out (by kernel_rfl)) (fun _ _ _ h => h) (Or.inl ⟨by rfl, ?_⟩) ?_ ?_
   rotate_left
   ·intro w'
    go_simp
    with_reducible rfl
   rotate_left
   ·simp only [Act.put, q_]
    rfl
   refine done_ (done_of HT_.out (by kernel_rfl)) ?_
   try go_wp2
   go_ret
   exact ⟨by first | rfl | (simp [errW_none, errW_some] <;> rfl) | (simp [*, errW_none, errW_some] <;> rfl), bl_⟩
 ·replace c3 := Bool.eq_false_iff.mpr c3
  subst c3
  have H1 : (some false) = some r := by rw [if_neg (show ¬ (false = true) by decide)] at H; exact H
  clear H
  have H := H1
  clear H1
  obtain rfl := Option.some.inj H
  go_enter Try.func20, Try.ntmps20
  try go_wp2_with (first | ((with_reducible refine gate_dst (N := 1) rfl ?_); refine box_event ?hg (N := 1) ?hd (cs := #[.string a0_0, .int .i64 a0_1, .int .i64 a0_2, .int .i64 a0_3, .int .i64 a0_4, .slice A0_5 l0_5.length c0_5, .int .i64 a0_6, .int .i64 a0_7, .slice A0_8 l0_8.length c0_8, .slice A0_9 l0_9.length c0_9, .slice A0_10 l0_10.length c0_10]) (t := 48) ?hr ?_; (case hd => rfl); (case hg => rfl); (case hr => first | (go_simp; done) | (go_simp; rfl)); intro gb287 hg w47 hbox hb; have n0_ := Aside0.mk (below_step bl_ hb); have n1_ := Aside0.mk (hbox); have n2_ := Aside0.mk ((by rw [hg]; exact (below_size bl_) : w.heap.size ≤ gb287)); have n3_ := Aside0.mk ((by rw [hg]; exact (below_size bl_) : w.heap.size ≤ gb287)); clear HB; have HB := n0_; have BK287 := n1_; have GW287 := n2_; have GE287 := n3_; clear n0_ n1_ n2_ n3_; clear hb hbox hg))
  have n0_ := Aside0.mk (blk_drew BK287.out)
  have n1_ := Aside0.mk (below_drew1 HB.out)
  clear BK287
  clear HB
  have BK287 := n0_
  have HB := n1_
  clear n0_ n1_
  refine start_ (n := 50) (S := fun w' => w'.cell? ⟨gb287, 0, none⟩ = some (.string a0_0) ∧ w'.cell? ⟨gb287, 1, none⟩ = some (.int .i64 a0_1) ∧ w'.cell? ⟨gb287, 2, none⟩ = some (.int .i64 a0_2) ∧ w'.cell? ⟨gb287, 3, none⟩ = some (.int .i64 a0_3) ∧ w'.cell? ⟨gb287, 4, none⟩ = some (.int .i64 a0_4) ∧ w'.cell? ⟨gb287, 5, none⟩ = some (.slice A0_5 l0_5.length c0_5) ∧ w'.cell? ⟨gb287, 6, none⟩ = some (.int .i64 a0_6) ∧ w'.cell? ⟨gb287, 7, none⟩ = some (.int .i64 a0_7) ∧ w'.cell? ⟨gb287, 8, none⟩ = some (.slice A0_8 l0_8.length c0_8) ∧ w'.cell? ⟨gb287, 9, none⟩ = some (.slice A0_9 l0_9.length c0_9) ∧ w'.cell? ⟨gb287, 10, none⟩ = some (.slice A0_10 l0_10.length c0_10)) (ds := []) tb50_0_12 (by kernel_rfl) rfl rfl ⟨cy_ BK287 0, cy_ BK287 1, cy_ BK287 2, cy_ BK287 3, cy_ BK287 4, cy_ BK287 5, cy_ BK287 6, cy_ BK287 7, cy_ BK287 8, cy_ BK287 9, cy_ BK287 10⟩ (fun hHeld => ?_); refine with_tabW impl_AcctOk.tab1 impl_AcctOk.bits1 (fun HT_ HW_ => ?_)
  generalize w47.drew = w48 at BK287 HB hHeld ⊢
  refine pure_ (i := 0) (N := some 3) (v := ?_) (a' := ?_) tb50_1_12 rfl rfl (any_of HT_.out (by kernel_rfl)) (fun _ _ _ h => h) (Or.inl ⟨by rfl, ?_⟩) ?_ ?_
  rotate_left
  ·intro w'
   go_simp
   with_reducible rfl
  rotate_left
  ·simp only [Act.put, q_]
   rfl
  refine take_ (i := 1) (N := some 4) (v := ?_) (a' := ?_) tb50_3_12 rfl rfl (take_ofW HT_.out HW_.out (by kernel_rfl)) (fun _ _ _ h => h) (Or.inl ⟨by rfl, ?_⟩) hHeld ?_ ?_
  rotate_left
  ·rintro w' ⟨s0, s1, s2, s3, s4, s5, s6, s7, s8, s9, s10⟩
   go_simp
   with_reducible rfl
  rotate_left
  ·simp only [Act.put, q_]
   rfl
  refine one_ (i := 2) (N := some 5) tb50_7_12 rfl rfl (one_of HT_.out (by kernel_rfl)) (by decide) (fun K hK => ?_)
  refine goes_ Try.func70 (by kernel_rfl) rfl #[.string a0_0] (by rfl) rfl rfl gl_ ?_
  with_reducible refine (impl_AcctIdOk.calls k a0_0 false _ A2.out).mono ?_
  rintro e w' ⟨rfl, ⟨nd, rfl⟩⟩
  refine ⟨_, rfl, ?_⟩
  refine hK.out _ _ ⟨cy_ BK287 0, cy_ BK287 1, cy_ BK287 2, cy_ BK287 3, cy_ BK287 4, cy_ BK287 5, cy_ BK287 6, cy_ BK287 7, cy_ BK287 8, cy_ BK287 9, cy_ BK287 10⟩ (fun hHeld => ?_)
  clear hK K
  refine norm_ (a' := ?_) ?_ ?_
  rotate_left
  ·show Act.put _ (some 5) _ = _
   simp only [Act.put, q_]
   rfl
  refine pure_ (i := 3) (N := some 6) (v := ?_) (a' := ?_) tb50_f_12 rfl rfl (any_of HT_.out (by kernel_rfl)) (fun _ _ _ h => h) (Or.inl ⟨by rfl, ?_⟩) ?_ ?_
  rotate_left
  ·intro w'
   go_simp
   with_reducible rfl
  rotate_left
  ·simp only [Act.put, q_]
   rfl
  refine pure_ (i := 4) (N := some 7) (v := undef) (a' := ?_) tb50_1f_12 rfl rfl (any_of HT_.out (by kernel_rfl)) (fun _ _ _ h => h) (Or.inr ⟨by rfl, rfl⟩) ?_ ?_
  rotate_left
  ·simp only [Act.put, q_]
   rfl
  refine pure_ (i := 5) (N := some 8) (v := undef) (a' := ?_) tb50_3f_12 rfl rfl (any_of HT_.out (by kernel_rfl)) (fun _ _ _ h => h) (Or.inr ⟨by rfl, rfl⟩) ?_ ?_
  rotate_left
  ·simp only [Act.put, q_]
   rfl
  refine pure_ (i := 6) (N := some 9) (v := undef) (a' := ?_) tb50_7f_12 rfl rfl (any_of HT_.out (by kernel_rfl)) (fun _ _ _ h => h) (Or.inr ⟨by rfl, rfl⟩) ?_ ?_
  rotate_left
  ·simp only [Act.put, q_]
   rfl
  refine pure_ (i := 7) (N := some 10) (v := ?_) (a' := ?_) tb50_ff_12 rfl rfl (any_of HT_.out (by kernel_rfl)) (fun _ _ _ h => h) (Or.inl ⟨by rfl, ?_⟩) ?_ ?_
  rotate_left
  ·intro w'
   go_simp
   with_reducible rfl
  rotate_left
  ·simp only [Act.put, q_]
   rfl
  refine pure_ (i := 8) (N := some 11) (v := ?_) (a' := ?_) tb50_1ff_12 rfl rfl (any_of HT_.out (by kernel_rfl)) (fun _ _ _ h => h) (Or.inl ⟨by rfl, ?_⟩) ?_ ?_
  rotate_left
  ·intro w'
   go_simp
   with_reducible rfl
  rotate_left
  ·simp only [Act.put, q_]
   rfl
  refine pure_ (i := 9) (N := some 12) (v := undef) (a' := ?_) tb50_3ff_12 rfl rfl (any_of HT_.out (by kernel_rfl)) (fun _ _ _ h => h) (Or.inr ⟨by rfl, rfl⟩) ?_ ?_
  rotate_left
  ·simp only [Act.put, q_]
   rfl
  refine pure_ (i := 10) (N := some 13) (v := undef) (a' := ?_) tb50_7ff_12 rfl rfl (any_of HT_.out (by kernel_rfl)) (fun _ _ _ h => h) (Or.inr ⟨by rfl, rfl⟩) ?_ ?_
  rotate_left
  ·simp only [Act.put, q_]
   rfl
  refine pure_ (i := 11) (N := some 14) (v := undef) (a' := ?_) tb50_fff_12 rfl rfl (any_of HT_.out (by kernel_rfl)) (fun _ _ _ h => h) (Or.inr ⟨by rfl, rfl⟩) ?_ ?_
  rotate_left
  ·simp only [Act.put, q_]
   rfl
  refine pure_ (i := 12) (N := some 15) (v := ?_) (a' := ?_) tb50_1fff_12 rfl rfl (any_of HT_.out (by kernel_rfl)) (fun _ _ _ h => h) (Or.inl ⟨by rfl, ?_⟩) ?_ ?_
  rotate_left
  ·intro w'
   go_simp
   with_reducible rfl
  rotate_left
  ·simp only [Act.put, q_]
   rfl
  refine pure_ (i := 13) (N := some 16) (v := ?_) (a' := ?_) tb50_3fff_12 rfl rfl (any_of HT_.out (by kernel_rfl)) (fun _ _ _ h => h) (Or.inl ⟨by rfl, ?_⟩) ?_ ?_
  rotate_left
  ·intro w'
   go_simp
   with_reducible rfl
  rotate_left
  ·simp only [Act.put, q_]
   rfl
  refine pure_ (i := 14) (N := some 17) (v := undef) (a' := ?_) tb50_7fff_12 rfl rfl (any_of HT_.out (by kernel_rfl)) (fun _ _ _ h => h) (Or.inr ⟨by rfl, rfl⟩) ?_ ?_
  rotate_left
  ·simp only [Act.put, q_]
   rfl
  refine pure_ (i := 15) (N := some 18) (v := undef) (a' := ?_) tb50_ffff_12 rfl rfl (any_of HT_.out (by kernel_rfl)) (fun _ _ _ h => h) (Or.inr ⟨by rfl, rfl⟩) ?_ ?_
  rotate_left
  ·simp only [Act.put, q_]
   rfl
  refine pure_ (i := 16) (N := some 19) (v := undef) (a' := ?_) tb50_1ffff_12 rfl rfl (any_of HT_.out (by kernel_rfl)) (fun _ _ _ h => h) (Or.inr ⟨by rfl, rfl⟩) ?_ ?_
  rotate_left
  ·simp only [Act.put, q_]
   rfl
  refine pure_ (i := 17) (N := some 20) (v := ?_) (a' := ?_) tb50_3ffff_12 rfl rfl (any_of HT_.out (by kernel_rfl)) (fun _ _ _ h => h) (Or.inl ⟨by rfl, ?_⟩) ?_ ?_
  rotate_left
  ·intro w'
   go_simp
   with_reducible rfl
  rotate_left
  ·simp only [Act.put, q_]
   rfl
  refine pure_ (i := 18) (N := some 21) (v := ?_) (a' := ?_) tb50_7ffff_12 rfl rfl (any_of HT_.out (by kernel_rfl)) (fun _ _ _ h => h) (Or.inl ⟨by rfl, ?_⟩) ?_ ?_
  rotate_left
  ·intro w'
   go_simp
   with_reducible rfl
  rotate_left
  ·simp only [Act.put, q_]
   rfl
  refine pure_ (i := 19) (N := some 22) (v := undef) (a' := ?_) tb50_fffff_12 rfl rfl (any_of HT_.out (by kernel_rfl)) (fun _ _ _ h => h) (Or.inr ⟨by rfl, rfl⟩) ?_ ?_
  rotate_left
  ·simp only [Act.put, q_]
   rfl
  refine pure_ (i := 20) (N := some 23) (v := undef) (a' := ?_) tb50_1fffff_12 rfl rfl (any_of HT_.out (by kernel_rfl)) (fun _ _ _ h => h) (Or.inr ⟨by rfl, rfl⟩) ?_ ?_
  rotate_left
  ·simp only [Act.put, q_]
   rfl
  refine pure_ (i := 21) (N := some 24) (v := undef) (a' := ?_) tb50_3fffff_12 rfl rfl (any_of HT_.out (by kernel_rfl)) (fun _ _ _ h => h) (Or.inr ⟨by rfl, rfl⟩) ?_ ?_
  rotate_left
  ·simp only [Act.put, q_]
   rfl
  refine pure_ (i := 22) (N := some 25) (v := ?_) (a' := ?_) tb50_7fffff_12 rfl rfl (any_of HT_.out (by kernel_rfl)) (fun _ _ _ h => h) (Or.inl ⟨by rfl, ?_⟩) ?_ ?_
  rotate_left
  ·intro w'
   go_simp
   with_reducible rfl
  rotate_left
  ·simp only [Act.put, q_]
   rfl
  refine pure_ (i := 23) (N := some 26) (v := ?_) (a' := ?_) tb50_ffffff_12 rfl rfl (any_of HT_.out (by kernel_rfl)) (fun _ _ _ h => h) (Or.inl ⟨by rfl, ?_⟩) ?_ ?_
  rotate_left
  ·intro w'
   go_simp
   with_reducible rfl
  rotate_left
  ·simp only [Act.put, q_]
   rfl
  refine pure_ (i := 24) (N := some 27) (v := undef) (a' := ?_) tb50_1ffffff_12 rfl rfl (any_of HT_.out (by kernel_rfl)) (fun _ _ _ h => h) (Or.inr ⟨by rfl, rfl⟩) ?_ ?_
  rotate_left
  ·simp only [Act.put, q_]
   rfl
  refine pure_ (i := 25) (N := some 28) (v := undef) (a' := ?_) tb50_3ffffff_12 rfl rfl (any_of HT_.out (by kernel_rfl)) (fun _ _ _ h => h) (Or.inr ⟨by rfl, rfl⟩) ?_ ?_
  rotate_left
  ·simp only [Act.put, q_]
   rfl
  refine pure_ (i := 26) (N := some 29) (v := undef) (a' := ?_) tb50_7ffffff_12 rfl rfl (any_of HT_.out (by kernel_rfl)) (fun _ _ _ h => h) (Or.inr ⟨by rfl, rfl⟩) ?_ ?_
  rotate_left
  ·simp only [Act.put, q_]
   rfl
  refine pure_ (i := 27) (N := some 30) (v := ?_) (a' := ?_) tb50_fffffff_12 rfl rfl (any_of HT_.out (by kernel_rfl)) (fun _ _ _ h => h) (Or.inl ⟨by rfl, ?_⟩) ?_ ?_
  rotate_left
  ·intro w'
   go_simp
   with_reducible rfl
  rotate_left
  ·simp only [Act.put, q_]
   rfl
  refine pure_ (i := 28) (N := some 31) (v := ?_) (a' := ?_) tb50_1fffffff_12 rfl rfl (any_of HT_.out (by kernel_rfl)) (fun _ _ _ h => h) (Or.inl ⟨by rfl, ?_⟩) ?_ ?_
  rotate_left
  ·intro w'
   go_simp
   with_reducible rfl
  rotate_left
  ·simp only [Act.put, q_]
   rfl
  refine pure_ (i := 29) (N := some 32) (v := undef) (a' := ?_) tb50_3fffffff_12 rfl rfl (any_of HT_.out (by kernel_rfl)) (fun _ _ _ h => h) (Or.inr ⟨by rfl, rfl⟩) ?_ ?_
  rotate_left
  ·simp only [Act.put, q_]
   rfl
  refine pure_ (i := 30) (N := some 33) (v := undef) (a' := ?_) tb50_7fffffff_12 rfl rfl (any_of HT_.out (by kernel_rfl)) (fun _ _ _ h => h) (Or.inr ⟨by rfl, rfl⟩) ?_ ?_
  rotate_left
  ·simp only [Act.put, q_]
   rfl
  refine pure_ (i := 31) (N := some 34) (v := undef) (a' := ?_) tb50_ffffffff_12 rfl rfl (any_of HT_.out (by kernel_rfl)) (fun _ _ _ h => h) (Or.inr ⟨by rfl, rfl⟩) ?_ ?_
  rotate_left
  ·simp only [Act.put, q_]
   rfl
  refine pure_ (i := 32) (N := some 35) (v := ?_) (a' := ?_) tb50_1ffffffff_12 rfl rfl (any_of HT_.out (by kernel_rfl)) (fun _ _ _ h => h) (Or.inl ⟨by rfl, ?_⟩) ?_ ?_
  rotate_left
  ·intro w'
   go_simp
   with_reducible rfl
  rotate_left
  ·simp only [Act.put, q_]
   rfl
  refine pure_ (i := 33) (N := some 36) (v := ?_) (a' := ?_) tb50_3ffffffff_12 rfl rfl (any_of HT_.out (by kernel_rfl)) (fun _ _ _ h => h) (Or.inl ⟨by rfl, ?_⟩) ?_ ?_
  rotate_left
  ·intro w'
   go_simp
   with_reducible rfl
  rotate_left
  ·simp only [Act.put, q_]
   rfl
  refine pure_ (i := 34) (N := some 37) (v := undef) (a' := ?_) tb50_7ffffffff_12 rfl rfl (any_of HT_.out (by kernel_rfl)) (fun _ _ _ h => h) (Or.inr ⟨by rfl, rfl⟩) ?_ ?_
  rotate_left
  ·simp only [Act.put, q_]
   rfl
  refine pure_ (i := 35) (N := some 38) (v := undef) (a' := ?_) tb50_fffffffff_12 rfl rfl (any_of HT_.out (by kernel_rfl)) (fun _ _ _ h => h) (Or.inr ⟨by rfl, rfl⟩) ?_ ?_
  rotate_left
  ·simp only [Act.put, q_]
   rfl
  refine pure_ (i := 36) (N := some 39) (v := undef) (a' := ?_) tb50_1fffffffff_12 rfl rfl (any_of HT_.out (by kernel_rfl)) (fun _ _ _ h => h) (Or.inr ⟨by rfl, rfl⟩) ?_ ?_
  rotate_left
  ·simp only [Act.put, q_]
   rfl
  refine pure_ (i := 37) (N := some 40) (v := ?_) (a' := ?_) tb50_3fffffffff_12 rfl rfl (any_of HT_.out (by kernel_rfl)) (fun _ _ _ h => h) (Or.inl ⟨by rfl, ?_⟩) ?_ ?_
  rotate_left
  ·intro w'
   go_simp
   with_reducible rfl
  rotate_left
  ·simp only [Act.put, q_]
   rfl
  refine pure_ (i := 38) (N := some 41) (v := ?_) (a' := ?_) tb50_7fffffffff_12 rfl rfl (any_of HT_.out (by kernel_rfl)) (fun _ _ _ h => h) (Or.inl ⟨by rfl, ?_⟩) ?_ ?_
  rotate_left
  ·intro w'
   go_simp
   with_reducible rfl
  rotate_left
  ·simp only [Act.put, q_]
   rfl
  refine pure_ (i := 39) (N := some 42) (v := undef) (a' := ?_) tb50_ffffffffff_12 rfl rfl (any_of HT_.out (by kernel_rfl)) (fun _ _ _ h => h) (Or.inr ⟨by rfl, rfl⟩) ?_ ?_
  rotate_left
  ·simp only [Act.put, q_]
   rfl
  refine pure_ (i := 40) (N := some 43) (v := undef) (a' := ?_) tb50_1ffffffffff_12 rfl rfl (any_of HT_.out (by kernel_rfl)) (fun _ _ _ h => h) (Or.inr ⟨by rfl, rfl⟩) ?_ ?_
  rotate_left
  ·simp only [Act.put, q_]
   rfl
  refine pure_ (i := 41) (N := some 44) (v := undef) (a' := ?_) tb50_3ffffffffff_12 rfl rfl (any_of HT_.out (by kernel_rfl)) (fun _ _ _ h => h) (Or.inr ⟨by rfl, rfl⟩) ?_ ?_
  rotate_left
  ·simp only [Act.put, q_]
   rfl
  refine pure_ (i := 42) (N := some 45) (v := undef) (a' := ?_) tb50_7ffffffffff_12 rfl rfl (any_of HT_.out (by kernel_rfl)) (fun _ _ _ h => h) (Or.inr ⟨by rfl, rfl⟩) ?_ ?_
  rotate_left
  ·simp only [Act.put, q_]
   rfl
  refine pure_ (i := 43) (N := some 46) (v := undef) (a' := ?_) tb50_fffffffffff_12 rfl rfl (any_of HT_.out (by kernel_rfl)) (fun _ _ _ h => h) (Or.inr ⟨by rfl, rfl⟩) ?_ ?_
  rotate_left
  ·simp only [Act.put, q_]
   rfl
  refine pure_ (i := 44) (N := some 47) (v := undef) (a' := ?_) tb50_1fffffffffff_12 rfl rfl (any_of HT_.out (by kernel_rfl)) (fun _ _ _ h => h) (Or.inr ⟨by rfl, rfl⟩) ?_ ?_
  rotate_left
  ·simp only [Act.put, q_]
   rfl
  refine pure_ (i := 45) (N := some 48) (v := undef) (a' := ?_) tb50_3fffffffffff_12 rfl rfl (any_of HT_.out (by kernel_rfl)) (fun _ _ _ h => h) (Or.inr ⟨by rfl, rfl⟩) ?_ ?_
  rotate_left
  ·simp only [Act.put, q_]
   rfl
  refine pure_ (i := 46) (N := some 49) (v := undef) (a' := ?_) tb50_7fffffffffff_12 rfl rfl (any_of HT_.out (by kernel_rfl)) (fun _ _ _ h => h) (Or.inr ⟨by rfl, rfl⟩) ?_ ?_
  rotate_left
  ·simp only [Act.put, q_]
   rfl
  refine pure_ (i := 47) (N := some 50) (v := undef) (a' := ?_) tb50_ffffffffffff_12 rfl rfl (any_of HT_.out (by kernel_rfl)) (fun _ _ _ h => h) (Or.inr ⟨by rfl, rfl⟩) ?_ ?_
  rotate_left
  ·simp only [Act.put, q_]
   rfl
  refine pure_ (i := 48) (N := some 51) (v := ?_) (a' := ?_) tb50_1ffffffffffff_12 rfl rfl (any_of HT_.out (by kernel_rfl)) (fun _ _ _ h => h) (Or.inl ⟨by rfl, ?_⟩) ?_ ?_
  rotate_left
  ·intro w'
   go_simp
   with_reducible rfl
  rotate_left
  ·simp only [Act.put, q_]
   rfl
  refine pure_ (i := 49) (N := some 2) (v := ?_) (a' := ?_) tb50_3ffffffffffff_12 rfl rfl (any_of HT_.out (by kernel_rfl)) (fun _ _ _ h => h) (Or.inl ⟨by rfl, ?_⟩) ?_ ?_
  rotate_left
  ·intro w'
   go_simp
   with_reducible rfl
  rotate_left
  ·simp only [Act.put, q_]
   rfl
  refine done_ (done_of HT_.out (by kernel_rfl)) ?_
  try go_wp2
  go_ret
  exact ⟨by first | rfl | (simp [errW_none, errW_some] <;> rfl) | (simp [*, errW_none, errW_some] <;> rfl), bl_⟩

end Go.Proofs.Ytgcggfoailaalaa.QFnExactAcctOk
