/-
  No cell of these rows narrows 'for every input' (looked for: loops, veiled, ifaces, maps, wideKeys, modest, calm, conditions, laid).
  DERIVED. THE GIVEN ROWS OF THIS SEAT. 12 by the template 'for every input the law returns true; each argument reads behind the call as it read before'; 0 by the template 'total and deterministic' (their statements: YtcojjdfbdgpajaaTotals.lean).
  GIVEN WITH THE SEED: the statements are not yours to turn. If you find one false, say at which input.
  Laid BY PROGRAM, IN A SANDBOX (cutbox-rows.mjs): the forced cells as the released guide's own fill.sh prints them over the translation ea539add84dce9fc… (all of the seat's roots in one cut). By AI agents, Wed Nov 11 2026. No macro, syntax, notation, axiom, sorry.
-/
import Derived.Test.YtcojjdfbdgpajaaChecked
import GoSem.Claim
import GoSem.ClaimJoined
import GoSem.ClaimMapViews
import Derived.JoinedTies
import Derived.KernelRfl
namespace Go.Proofs.Ytcojjdfbdgpajaa
/- THE CELL 'sum', in the pinned program and in every row, IS THE sha256 OF THE DUMP (.gsa) THAT YtcojjdfbdgpajaaProg.lean LOADS. Nothing in Lean hashes anything: it is a label: what it is worth is what the hold of that sum in a sandbox is worth. -/
noncomputable def Try.pinned : Pinned := { name := "ytcojjdfbdgpajaa", sum := "ea539add84dce9fc4e21cd895a71c1efaa0cc1f0b6e63b60e857e00f02b4735a", checked := Try.checked }
namespace Rows
def none {H : Type} : Left H := { results := [], args := [] }

/-- 'laws.FnExactSlotOf': WHATEVER THE INPUT: true; the input reads as it did. -/
def fnExactSlotOfSpec : ChangeSpec := { name := "fnExactSlotOf", fn := fun _ => fun
  | [d1, d2, d3] => { results := [.lit (.bool true)], args := [d1, d2, d3] }
  | _ => none }
def fnExactSlotOfRow : OpenClaim := { program := "ytcojjdfbdgpajaa", sum := "ea539add84dce9fc4e21cd895a71c1efaa0cc1f0b6e63b60e857e00f02b4735a", func := "loop.example/g00735/laws.FnExactSlotOf", spec := "fnExactSlotOf", unfollowed := true, recurses := true, apart := false }
def FnExactSlotOfSaid : Prop := fnExactSlotOfRow.holds Try.pinned (OpenSpec.ofChange fnExactSlotOfSpec)

/-- ITS FALSE NEIGHBOUR: 'it returns false'. Refute it at one input. -/
def fnExactSlotOfWrong : ChangeSpec := { name := "fnExactSlotOf", fn := fun _ => fun
  | [d1, d2, d3] => { results := [.lit (.bool false)], args := [d1, d2, d3] }
  | _ => none }
def FnExactSlotOfWrongFalsely : Prop := fnExactSlotOfRow.holds Try.pinned (OpenSpec.ofChange fnExactSlotOfWrong)

/-- 'laws.FnExactReqOk': WHATEVER THE INPUT: true; the input reads as it did. -/
def fnExactReqOkSpec : ChangeSpec := { name := "fnExactReqOk", fn := fun _ => fun
  | [d] => { results := [.lit (.bool true)], args := [d] }
  | _ => none }
def fnExactReqOkRow : OpenClaim := { program := "ytcojjdfbdgpajaa", sum := "ea539add84dce9fc4e21cd895a71c1efaa0cc1f0b6e63b60e857e00f02b4735a", func := "loop.example/g00735/laws.FnExactReqOk", spec := "fnExactReqOk", apart := false }
def FnExactReqOkSaid : Prop := fnExactReqOkRow.holds Try.pinned (OpenSpec.ofChange fnExactReqOkSpec)

/-- ITS FALSE NEIGHBOUR: 'it returns false'. Refute it at one input. -/
def fnExactReqOkWrong : ChangeSpec := { name := "fnExactReqOk", fn := fun _ => fun
  | [d] => { results := [.lit (.bool false)], args := [d] }
  | _ => none }
def FnExactReqOkWrongFalsely : Prop := fnExactReqOkRow.holds Try.pinned (OpenSpec.ofChange fnExactReqOkWrong)

/-- 'laws.FnExactSlotPut': WHATEVER THE INPUT: true; the input reads as it did. -/
def fnExactSlotPutSpec : ChangeSpec := { name := "fnExactSlotPut", fn := fun _ => fun
  | [d1, d2] => { results := [.lit (.bool true)], args := [d1, d2] }
  | _ => none }
def fnExactSlotPutRow : OpenClaim := { program := "ytcojjdfbdgpajaa", sum := "ea539add84dce9fc4e21cd895a71c1efaa0cc1f0b6e63b60e857e00f02b4735a", func := "loop.example/g00735/laws.FnExactSlotPut", spec := "fnExactSlotPut", unfollowed := true, recurses := true, apart := false }
def FnExactSlotPutSaid : Prop := fnExactSlotPutRow.holds Try.pinned (OpenSpec.ofChange fnExactSlotPutSpec)

/-- ITS FALSE NEIGHBOUR: 'it returns false'. Refute it at one input. -/
def fnExactSlotPutWrong : ChangeSpec := { name := "fnExactSlotPut", fn := fun _ => fun
  | [d1, d2] => { results := [.lit (.bool false)], args := [d1, d2] }
  | _ => none }
def FnExactSlotPutWrongFalsely : Prop := fnExactSlotPutRow.holds Try.pinned (OpenSpec.ofChange fnExactSlotPutWrong)

/-- 'laws.FnExactHoldPut': WHATEVER THE INPUT: true; the input reads as it did. -/
def fnExactHoldPutSpec : ChangeSpec := { name := "fnExactHoldPut", fn := fun _ => fun
  | [d1, d2] => { results := [.lit (.bool true)], args := [d1, d2] }
  | _ => none }
def fnExactHoldPutRow : OpenClaim := { program := "ytcojjdfbdgpajaa", sum := "ea539add84dce9fc4e21cd895a71c1efaa0cc1f0b6e63b60e857e00f02b4735a", func := "loop.example/g00735/laws.FnExactHoldPut", spec := "fnExactHoldPut", inPlace := ["slices.overlaps[loop.example/g00735/impl.Hold]"], unfollowed := true, recurses := true, apart := false }
def FnExactHoldPutSaid : Prop := fnExactHoldPutRow.holds Try.pinned (OpenSpec.ofChange fnExactHoldPutSpec)

/-- ITS FALSE NEIGHBOUR: 'it returns false'. Refute it at one input. -/
def fnExactHoldPutWrong : ChangeSpec := { name := "fnExactHoldPut", fn := fun _ => fun
  | [d1, d2] => { results := [.lit (.bool false)], args := [d1, d2] }
  | _ => none }
def FnExactHoldPutWrongFalsely : Prop := fnExactHoldPutRow.holds Try.pinned (OpenSpec.ofChange fnExactHoldPutWrong)

/-- 'laws.FnExactBookAt': WHATEVER THE INPUT: true; the input reads as it did. -/
def fnExactBookAtSpec : ChangeSpec := { name := "fnExactBookAt", fn := fun _ => fun
  | [d1, d2] => { results := [.lit (.bool true)], args := [d1, d2] }
  | _ => none }
def fnExactBookAtRow : OpenClaim := { program := "ytcojjdfbdgpajaa", sum := "ea539add84dce9fc4e21cd895a71c1efaa0cc1f0b6e63b60e857e00f02b4735a", func := "loop.example/g00735/laws.FnExactBookAt", spec := "fnExactBookAt", unfollowed := true, recurses := true, apart := false }
def FnExactBookAtSaid : Prop := fnExactBookAtRow.holds Try.pinned (OpenSpec.ofChange fnExactBookAtSpec)

/-- ITS FALSE NEIGHBOUR: 'it returns false'. Refute it at one input. -/
def fnExactBookAtWrong : ChangeSpec := { name := "fnExactBookAt", fn := fun _ => fun
  | [d1, d2] => { results := [.lit (.bool false)], args := [d1, d2] }
  | _ => none }
def FnExactBookAtWrongFalsely : Prop := fnExactBookAtRow.holds Try.pinned (OpenSpec.ofChange fnExactBookAtWrong)

/-- 'laws.FnExactAcctSame': WHATEVER THE INPUT: true; the input reads as it did. -/
def fnExactAcctSameSpec : ChangeSpec := { name := "fnExactAcctSame", fn := fun _ => fun
  | [d1, d2] => { results := [.lit (.bool true)], args := [d1, d2] }
  | _ => none }
def fnExactAcctSameRow : OpenClaim := { program := "ytcojjdfbdgpajaa", sum := "ea539add84dce9fc4e21cd895a71c1efaa0cc1f0b6e63b60e857e00f02b4735a", func := "loop.example/g00735/laws.FnExactAcctSame", spec := "fnExactAcctSame", unfollowed := true, recurses := true, apart := false }
def FnExactAcctSameSaid : Prop := fnExactAcctSameRow.holds Try.pinned (OpenSpec.ofChange fnExactAcctSameSpec)

/-- ITS FALSE NEIGHBOUR: 'it returns false'. Refute it at one input. -/
def fnExactAcctSameWrong : ChangeSpec := { name := "fnExactAcctSame", fn := fun _ => fun
  | [d1, d2] => { results := [.lit (.bool false)], args := [d1, d2] }
  | _ => none }
def FnExactAcctSameWrongFalsely : Prop := fnExactAcctSameRow.holds Try.pinned (OpenSpec.ofChange fnExactAcctSameWrong)

/-- 'laws.FnExactPostedAll': WHATEVER THE INPUT: true; the input reads as it did. -/
def fnExactPostedAllSpec : ChangeSpec := { name := "fnExactPostedAll", fn := fun _ => fun
  | [d] => { results := [.lit (.bool true)], args := [d] }
  | _ => none }
def fnExactPostedAllRow : OpenClaim := { program := "ytcojjdfbdgpajaa", sum := "ea539add84dce9fc4e21cd895a71c1efaa0cc1f0b6e63b60e857e00f02b4735a", func := "loop.example/g00735/laws.FnExactPostedAll", spec := "fnExactPostedAll", apart := false }
def FnExactPostedAllSaid : Prop := fnExactPostedAllRow.holds Try.pinned (OpenSpec.ofChange fnExactPostedAllSpec)

/-- ITS FALSE NEIGHBOUR: 'it returns false'. Refute it at one input. -/
def fnExactPostedAllWrong : ChangeSpec := { name := "fnExactPostedAll", fn := fun _ => fun
  | [d] => { results := [.lit (.bool false)], args := [d] }
  | _ => none }
def FnExactPostedAllWrongFalsely : Prop := fnExactPostedAllRow.holds Try.pinned (OpenSpec.ofChange fnExactPostedAllWrong)

/-- 'laws.FnExactHeldAll': WHATEVER THE INPUT: true; the input reads as it did. -/
def fnExactHeldAllSpec : ChangeSpec := { name := "fnExactHeldAll", fn := fun _ => fun
  | [d] => { results := [.lit (.bool true)], args := [d] }
  | _ => none }
def fnExactHeldAllRow : OpenClaim := { program := "ytcojjdfbdgpajaa", sum := "ea539add84dce9fc4e21cd895a71c1efaa0cc1f0b6e63b60e857e00f02b4735a", func := "loop.example/g00735/laws.FnExactHeldAll", spec := "fnExactHeldAll", apart := false }
def FnExactHeldAllSaid : Prop := fnExactHeldAllRow.holds Try.pinned (OpenSpec.ofChange fnExactHeldAllSpec)

/-- ITS FALSE NEIGHBOUR: 'it returns false'. Refute it at one input. -/
def fnExactHeldAllWrong : ChangeSpec := { name := "fnExactHeldAll", fn := fun _ => fun
  | [d] => { results := [.lit (.bool false)], args := [d] }
  | _ => none }
def FnExactHeldAllWrongFalsely : Prop := fnExactHeldAllRow.holds Try.pinned (OpenSpec.ofChange fnExactHeldAllWrong)

/-- 'laws.FnExactSound': WHATEVER THE INPUT: true; the input reads as it did. -/
def fnExactSoundSpec : ChangeSpec := { name := "fnExactSound", fn := fun _ => fun
  | [d] => { results := [.lit (.bool true)], args := [d] }
  | _ => none }
def fnExactSoundRow : OpenClaim := { program := "ytcojjdfbdgpajaa", sum := "ea539add84dce9fc4e21cd895a71c1efaa0cc1f0b6e63b60e857e00f02b4735a", func := "loop.example/g00735/laws.FnExactSound", spec := "fnExactSound", apart := false }
def FnExactSoundSaid : Prop := fnExactSoundRow.holds Try.pinned (OpenSpec.ofChange fnExactSoundSpec)

/-- ITS FALSE NEIGHBOUR: 'it returns false'. Refute it at one input. -/
def fnExactSoundWrong : ChangeSpec := { name := "fnExactSound", fn := fun _ => fun
  | [d] => { results := [.lit (.bool false)], args := [d] }
  | _ => none }
def FnExactSoundWrongFalsely : Prop := fnExactSoundRow.holds Try.pinned (OpenSpec.ofChange fnExactSoundWrong)

/-- 'laws.FnExactBookSame': WHATEVER THE INPUT: true; the input reads as it did. -/
def fnExactBookSameSpec : ChangeSpec := { name := "fnExactBookSame", fn := fun _ => fun
  | [d1, d2] => { results := [.lit (.bool true)], args := [d1, d2] }
  | _ => none }
def fnExactBookSameRow : OpenClaim := { program := "ytcojjdfbdgpajaa", sum := "ea539add84dce9fc4e21cd895a71c1efaa0cc1f0b6e63b60e857e00f02b4735a", func := "loop.example/g00735/laws.FnExactBookSame", spec := "fnExactBookSame", unfollowed := true, recurses := true, apart := false }
def FnExactBookSameSaid : Prop := fnExactBookSameRow.holds Try.pinned (OpenSpec.ofChange fnExactBookSameSpec)

/-- ITS FALSE NEIGHBOUR: 'it returns false'. Refute it at one input. -/
def fnExactBookSameWrong : ChangeSpec := { name := "fnExactBookSame", fn := fun _ => fun
  | [d1, d2] => { results := [.lit (.bool false)], args := [d1, d2] }
  | _ => none }
def FnExactBookSameWrongFalsely : Prop := fnExactBookSameRow.holds Try.pinned (OpenSpec.ofChange fnExactBookSameWrong)

/-- 'laws.FnExactLockSet': WHATEVER THE INPUT: true; the input reads as it did. -/
def fnExactLockSetSpec : ChangeSpec := { name := "fnExactLockSet", fn := fun _ => fun
  | [d1, d2] => { results := [.lit (.bool true)], args := [d1, d2] }
  | _ => none }
def fnExactLockSetRow : OpenClaim := { program := "ytcojjdfbdgpajaa", sum := "ea539add84dce9fc4e21cd895a71c1efaa0cc1f0b6e63b60e857e00f02b4735a", func := "loop.example/g00735/laws.FnExactLockSet", spec := "fnExactLockSet", recurses := true, apart := false }
def FnExactLockSetSaid : Prop := fnExactLockSetRow.holds Try.pinned (OpenSpec.ofChange fnExactLockSetSpec)

/-- ITS FALSE NEIGHBOUR: 'it returns false'. Refute it at one input. -/
def fnExactLockSetWrong : ChangeSpec := { name := "fnExactLockSet", fn := fun _ => fun
  | [d1, d2] => { results := [.lit (.bool false)], args := [d1, d2] }
  | _ => none }
def FnExactLockSetWrongFalsely : Prop := fnExactLockSetRow.holds Try.pinned (OpenSpec.ofChange fnExactLockSetWrong)

/-- 'laws.FnExactIdle': WHATEVER THE INPUT: true; the input reads as it did. -/
def fnExactIdleSpec : ChangeSpec := { name := "fnExactIdle", fn := fun _ => fun
  | [d] => { results := [.lit (.bool true)], args := [d] }
  | _ => none }
def fnExactIdleRow : OpenClaim := { program := "ytcojjdfbdgpajaa", sum := "ea539add84dce9fc4e21cd895a71c1efaa0cc1f0b6e63b60e857e00f02b4735a", func := "loop.example/g00735/laws.FnExactIdle", spec := "fnExactIdle", unfollowed := true, recurses := true, apart := false }
def FnExactIdleSaid : Prop := fnExactIdleRow.holds Try.pinned (OpenSpec.ofChange fnExactIdleSpec)

/-- ITS FALSE NEIGHBOUR: 'it returns false'. Refute it at one input. -/
def fnExactIdleWrong : ChangeSpec := { name := "fnExactIdle", fn := fun _ => fun
  | [d] => { results := [.lit (.bool false)], args := [d] }
  | _ => none }
def FnExactIdleWrongFalsely : Prop := fnExactIdleRow.holds Try.pinned (OpenSpec.ofChange fnExactIdleWrong)

/- THE SECOND FORM. 'bulk': how many values and letters a reading holds, each counted each time it is reached (what is shared counts as often as it is met; a slice's spare places count too). A statement '..UptoSaid' is the law's where the arguments, and the package variables that the reading takes, are together of bulk at most 1048576: NARROWER than '..Said'. Prove '..Said' where nothing that the law and all that it calls make is longer than what came in: it says more and counts as full. Else prove '..UptoSaid'. A law counts once. -/
mutual
def uptoBulk {H : Type} : DataW H → Nat
  | .lit (.string bytes) => bytes.length + 1
  | .lit _ => 1
  | .nil => 1
  | .ptr d => uptoBulk d + 1
  | .slice elems spare => uptoBulkAll elems + uptoBulkAll spare + 1
  | .agg parts => uptoBulkAll parts + 1
  | .iface _ d => uptoBulk d + 1
  | .map entries => uptoBulkEntries entries + 1
  | .held _ => 1
def uptoBulkAll {H : Type} : List (DataW H) → Nat
  | [] => 0
  | d :: r => uptoBulk d + uptoBulkAll r
def uptoBulkEntries {H : Type} : List (Lit × DataW H) → Nat
  | [] => 0
  | x :: r => uptoBulkEntry x + uptoBulkEntries r
def uptoBulkEntry {H : Type} : Lit × DataW H → Nat
  | (.string bytes, d) => bytes.length + uptoBulk d + 1
  | (_, d) => uptoBulk d + 1
 end
def uptoSmall : (H : Type) → List (DataW H) → Bool := fun _ ds => decide (uptoBulkAll ds ≤ 1048576)
def OpenSpec.upto (s : _root_.Go.ChangeSpec) : _root_.Go.OpenSpec := { _root_.Go.OpenSpec.ofChange s with cond := some uptoSmall }

/-- 'laws.FnExactSlotOf', WHERE WHAT IT READS IS OF BULK AT MOST 1048576: true; the input reads as it did. -/
def fnExactSlotOfUptoRow : OpenClaim := { program := "ytcojjdfbdgpajaa", sum := "ea539add84dce9fc4e21cd895a71c1efaa0cc1f0b6e63b60e857e00f02b4735a", func := "loop.example/g00735/laws.FnExactSlotOf", spec := "fnExactSlotOf", unfollowed := true, recurses := true, apart := false, narrowed := true }
def FnExactSlotOfUptoSaid : Prop := fnExactSlotOfUptoRow.holds Try.pinned (OpenSpec.upto fnExactSlotOfSpec)

/-- 'laws.FnExactReqOk', WHERE WHAT IT READS IS OF BULK AT MOST 1048576: true; the input reads as it did. -/
def fnExactReqOkUptoRow : OpenClaim := { program := "ytcojjdfbdgpajaa", sum := "ea539add84dce9fc4e21cd895a71c1efaa0cc1f0b6e63b60e857e00f02b4735a", func := "loop.example/g00735/laws.FnExactReqOk", spec := "fnExactReqOk", apart := false, narrowed := true }
def FnExactReqOkUptoSaid : Prop := fnExactReqOkUptoRow.holds Try.pinned (OpenSpec.upto fnExactReqOkSpec)

/-- 'laws.FnExactSlotPut', WHERE WHAT IT READS IS OF BULK AT MOST 1048576: true; the input reads as it did. -/
def fnExactSlotPutUptoRow : OpenClaim := { program := "ytcojjdfbdgpajaa", sum := "ea539add84dce9fc4e21cd895a71c1efaa0cc1f0b6e63b60e857e00f02b4735a", func := "loop.example/g00735/laws.FnExactSlotPut", spec := "fnExactSlotPut", unfollowed := true, recurses := true, apart := false, narrowed := true }
def FnExactSlotPutUptoSaid : Prop := fnExactSlotPutUptoRow.holds Try.pinned (OpenSpec.upto fnExactSlotPutSpec)

/-- 'laws.FnExactHoldPut', WHERE WHAT IT READS IS OF BULK AT MOST 1048576: true; the input reads as it did. -/
def fnExactHoldPutUptoRow : OpenClaim := { program := "ytcojjdfbdgpajaa", sum := "ea539add84dce9fc4e21cd895a71c1efaa0cc1f0b6e63b60e857e00f02b4735a", func := "loop.example/g00735/laws.FnExactHoldPut", spec := "fnExactHoldPut", inPlace := ["slices.overlaps[loop.example/g00735/impl.Hold]"], unfollowed := true, recurses := true, apart := false, narrowed := true }
def FnExactHoldPutUptoSaid : Prop := fnExactHoldPutUptoRow.holds Try.pinned (OpenSpec.upto fnExactHoldPutSpec)

/-- 'laws.FnExactBookAt', WHERE WHAT IT READS IS OF BULK AT MOST 1048576: true; the input reads as it did. -/
def fnExactBookAtUptoRow : OpenClaim := { program := "ytcojjdfbdgpajaa", sum := "ea539add84dce9fc4e21cd895a71c1efaa0cc1f0b6e63b60e857e00f02b4735a", func := "loop.example/g00735/laws.FnExactBookAt", spec := "fnExactBookAt", unfollowed := true, recurses := true, apart := false, narrowed := true }
def FnExactBookAtUptoSaid : Prop := fnExactBookAtUptoRow.holds Try.pinned (OpenSpec.upto fnExactBookAtSpec)

/-- 'laws.FnExactAcctSame', WHERE WHAT IT READS IS OF BULK AT MOST 1048576: true; the input reads as it did. -/
def fnExactAcctSameUptoRow : OpenClaim := { program := "ytcojjdfbdgpajaa", sum := "ea539add84dce9fc4e21cd895a71c1efaa0cc1f0b6e63b60e857e00f02b4735a", func := "loop.example/g00735/laws.FnExactAcctSame", spec := "fnExactAcctSame", unfollowed := true, recurses := true, apart := false, narrowed := true }
def FnExactAcctSameUptoSaid : Prop := fnExactAcctSameUptoRow.holds Try.pinned (OpenSpec.upto fnExactAcctSameSpec)

/-- 'laws.FnExactPostedAll', WHERE WHAT IT READS IS OF BULK AT MOST 1048576: true; the input reads as it did. -/
def fnExactPostedAllUptoRow : OpenClaim := { program := "ytcojjdfbdgpajaa", sum := "ea539add84dce9fc4e21cd895a71c1efaa0cc1f0b6e63b60e857e00f02b4735a", func := "loop.example/g00735/laws.FnExactPostedAll", spec := "fnExactPostedAll", apart := false, narrowed := true }
def FnExactPostedAllUptoSaid : Prop := fnExactPostedAllUptoRow.holds Try.pinned (OpenSpec.upto fnExactPostedAllSpec)

/-- 'laws.FnExactHeldAll', WHERE WHAT IT READS IS OF BULK AT MOST 1048576: true; the input reads as it did. -/
def fnExactHeldAllUptoRow : OpenClaim := { program := "ytcojjdfbdgpajaa", sum := "ea539add84dce9fc4e21cd895a71c1efaa0cc1f0b6e63b60e857e00f02b4735a", func := "loop.example/g00735/laws.FnExactHeldAll", spec := "fnExactHeldAll", apart := false, narrowed := true }
def FnExactHeldAllUptoSaid : Prop := fnExactHeldAllUptoRow.holds Try.pinned (OpenSpec.upto fnExactHeldAllSpec)

/-- 'laws.FnExactSound', WHERE WHAT IT READS IS OF BULK AT MOST 1048576: true; the input reads as it did. -/
def fnExactSoundUptoRow : OpenClaim := { program := "ytcojjdfbdgpajaa", sum := "ea539add84dce9fc4e21cd895a71c1efaa0cc1f0b6e63b60e857e00f02b4735a", func := "loop.example/g00735/laws.FnExactSound", spec := "fnExactSound", apart := false, narrowed := true }
def FnExactSoundUptoSaid : Prop := fnExactSoundUptoRow.holds Try.pinned (OpenSpec.upto fnExactSoundSpec)

/-- 'laws.FnExactBookSame', WHERE WHAT IT READS IS OF BULK AT MOST 1048576: true; the input reads as it did. -/
def fnExactBookSameUptoRow : OpenClaim := { program := "ytcojjdfbdgpajaa", sum := "ea539add84dce9fc4e21cd895a71c1efaa0cc1f0b6e63b60e857e00f02b4735a", func := "loop.example/g00735/laws.FnExactBookSame", spec := "fnExactBookSame", unfollowed := true, recurses := true, apart := false, narrowed := true }
def FnExactBookSameUptoSaid : Prop := fnExactBookSameUptoRow.holds Try.pinned (OpenSpec.upto fnExactBookSameSpec)

/-- 'laws.FnExactLockSet', WHERE WHAT IT READS IS OF BULK AT MOST 1048576: true; the input reads as it did. -/
def fnExactLockSetUptoRow : OpenClaim := { program := "ytcojjdfbdgpajaa", sum := "ea539add84dce9fc4e21cd895a71c1efaa0cc1f0b6e63b60e857e00f02b4735a", func := "loop.example/g00735/laws.FnExactLockSet", spec := "fnExactLockSet", recurses := true, apart := false, narrowed := true }
def FnExactLockSetUptoSaid : Prop := fnExactLockSetUptoRow.holds Try.pinned (OpenSpec.upto fnExactLockSetSpec)

/-- 'laws.FnExactIdle', WHERE WHAT IT READS IS OF BULK AT MOST 1048576: true; the input reads as it did. -/
def fnExactIdleUptoRow : OpenClaim := { program := "ytcojjdfbdgpajaa", sum := "ea539add84dce9fc4e21cd895a71c1efaa0cc1f0b6e63b60e857e00f02b4735a", func := "loop.example/g00735/laws.FnExactIdle", spec := "fnExactIdle", unfollowed := true, recurses := true, apart := false, narrowed := true }
def FnExactIdleUptoSaid : Prop := fnExactIdleUptoRow.holds Try.pinned (OpenSpec.upto fnExactIdleSpec)

end Rows
end Go.Proofs.Ytcojjdfbdgpajaa
