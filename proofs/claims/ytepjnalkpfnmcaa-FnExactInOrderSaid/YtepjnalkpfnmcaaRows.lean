/-
  No cell of these rows narrows 'for every input' (looked for: loops, veiled, ifaces, maps, wideKeys, modest, calm, conditions, laid).
  DERIVED. THE GIVEN ROWS OF THIS SEAT. 12 by the template 'for every input the law returns true; each argument reads behind the call as it read before'; 0 by the template 'total and deterministic' (their statements: YtepjnalkpfnmcaaTotals.lean).
  GIVEN WITH THE SEED: the statements are not yours to turn. If you find one false, say at which input.
  Laid BY PROGRAM, IN A SANDBOX (cutbox-rows.mjs): the forced cells as the released guide's own fill.sh prints them over the translation cbef4fc3392c22d8… (all of the seat's roots in one cut). By AI agents, Wed Nov 11 2026. No macro, syntax, notation, axiom, sorry.
-/
import Derived.Test.YtepjnalkpfnmcaaChecked
import GoSem.Claim
import GoSem.ClaimJoined
import GoSem.ClaimMapViews
import Derived.JoinedTies
import Derived.KernelRfl
namespace Go.Proofs.Ytepjnalkpfnmcaa
/- THE CELL 'sum', in the pinned program and in every row, IS THE sha256 OF THE DUMP (.gsa) THAT YtepjnalkpfnmcaaProg.lean LOADS. Nothing in Lean hashes anything: it is a label: what it is worth is what the hold of that sum in a sandbox is worth. -/
noncomputable def Try.pinned : Pinned := { name := "ytepjnalkpfnmcaa", sum := "cbef4fc3392c22d8312f689e4f4e1cad3456a24a217536d5a9b8e00656b5d5bc", checked := Try.checked }
namespace Rows
def none {H : Type} : Left H := { results := [], args := [] }

/-- 'laws.FnExactHoldDrop': WHATEVER THE INPUT: true; the input reads as it did. -/
def fnExactHoldDropSpec : ChangeSpec := { name := "fnExactHoldDrop", fn := fun _ => fun
  | [d1, d2] => { results := [.lit (.bool true)], args := [d1, d2] }
  | _ => none }
def fnExactHoldDropRow : OpenClaim := { program := "ytepjnalkpfnmcaa", sum := "cbef4fc3392c22d8312f689e4f4e1cad3456a24a217536d5a9b8e00656b5d5bc", func := "loop.example/g00735/laws.FnExactHoldDrop", spec := "fnExactHoldDrop", unfollowed := true, recurses := true, apart := false }
def FnExactHoldDropSaid : Prop := fnExactHoldDropRow.holds Try.pinned (OpenSpec.ofChange fnExactHoldDropSpec)

/-- ITS FALSE NEIGHBOUR: 'it returns false'. Refute it at one input. -/
def fnExactHoldDropWrong : ChangeSpec := { name := "fnExactHoldDrop", fn := fun _ => fun
  | [d1, d2] => { results := [.lit (.bool false)], args := [d1, d2] }
  | _ => none }
def FnExactHoldDropWrongFalsely : Prop := fnExactHoldDropRow.holds Try.pinned (OpenSpec.ofChange fnExactHoldDropWrong)

/-- 'laws.FnExactLiveOnes': WHATEVER THE INPUT: true; the input reads as it did. -/
def fnExactLiveOnesSpec : ChangeSpec := { name := "fnExactLiveOnes", fn := fun _ => fun
  | [d1, d2] => { results := [.lit (.bool true)], args := [d1, d2] }
  | _ => none }
def fnExactLiveOnesRow : OpenClaim := { program := "ytepjnalkpfnmcaa", sum := "cbef4fc3392c22d8312f689e4f4e1cad3456a24a217536d5a9b8e00656b5d5bc", func := "loop.example/g00735/laws.FnExactLiveOnes", spec := "fnExactLiveOnes", unfollowed := true, recurses := true, apart := false }
def FnExactLiveOnesSaid : Prop := fnExactLiveOnesRow.holds Try.pinned (OpenSpec.ofChange fnExactLiveOnesSpec)

/-- ITS FALSE NEIGHBOUR: 'it returns false'. Refute it at one input. -/
def fnExactLiveOnesWrong : ChangeSpec := { name := "fnExactLiveOnes", fn := fun _ => fun
  | [d1, d2] => { results := [.lit (.bool false)], args := [d1, d2] }
  | _ => none }
def FnExactLiveOnesWrongFalsely : Prop := fnExactLiveOnesRow.holds Try.pinned (OpenSpec.ofChange fnExactLiveOnesWrong)

/-- 'laws.FnExactLiveSum': WHATEVER THE INPUT: true; the input reads as it did. -/
def fnExactLiveSumSpec : ChangeSpec := { name := "fnExactLiveSum", fn := fun _ => fun
  | [d1, d2] => { results := [.lit (.bool true)], args := [d1, d2] }
  | _ => none }
def fnExactLiveSumRow : OpenClaim := { program := "ytepjnalkpfnmcaa", sum := "cbef4fc3392c22d8312f689e4f4e1cad3456a24a217536d5a9b8e00656b5d5bc", func := "loop.example/g00735/laws.FnExactLiveSum", spec := "fnExactLiveSum", unfollowed := true, recurses := true, apart := false }
def FnExactLiveSumSaid : Prop := fnExactLiveSumRow.holds Try.pinned (OpenSpec.ofChange fnExactLiveSumSpec)

/-- ITS FALSE NEIGHBOUR: 'it returns false'. Refute it at one input. -/
def fnExactLiveSumWrong : ChangeSpec := { name := "fnExactLiveSum", fn := fun _ => fun
  | [d1, d2] => { results := [.lit (.bool false)], args := [d1, d2] }
  | _ => none }
def FnExactLiveSumWrongFalsely : Prop := fnExactLiveSumRow.holds Try.pinned (OpenSpec.ofChange fnExactLiveSumWrong)

/-- 'laws.FnExactRoom': WHATEVER THE INPUT: true; the input reads as it did. -/
def fnExactRoomSpec : ChangeSpec := { name := "fnExactRoom", fn := fun _ => fun
  | [d1, d2] => { results := [.lit (.bool true)], args := [d1, d2] }
  | _ => none }
def fnExactRoomRow : OpenClaim := { program := "ytepjnalkpfnmcaa", sum := "cbef4fc3392c22d8312f689e4f4e1cad3456a24a217536d5a9b8e00656b5d5bc", func := "loop.example/g00735/laws.FnExactRoom", spec := "fnExactRoom", unfollowed := true, recurses := true, apart := false }
def FnExactRoomSaid : Prop := fnExactRoomRow.holds Try.pinned (OpenSpec.ofChange fnExactRoomSpec)

/-- ITS FALSE NEIGHBOUR: 'it returns false'. Refute it at one input. -/
def fnExactRoomWrong : ChangeSpec := { name := "fnExactRoom", fn := fun _ => fun
  | [d1, d2] => { results := [.lit (.bool false)], args := [d1, d2] }
  | _ => none }
def FnExactRoomWrongFalsely : Prop := fnExactRoomRow.holds Try.pinned (OpenSpec.ofChange fnExactRoomWrong)

/-- 'laws.FnExactWorldSame': WHATEVER THE INPUT: true; the input reads as it did. -/
def fnExactWorldSameSpec : ChangeSpec := { name := "fnExactWorldSame", fn := fun _ => fun
  | [d1, d2] => { results := [.lit (.bool true)], args := [d1, d2] }
  | _ => none }
def fnExactWorldSameRow : OpenClaim := { program := "ytepjnalkpfnmcaa", sum := "cbef4fc3392c22d8312f689e4f4e1cad3456a24a217536d5a9b8e00656b5d5bc", func := "loop.example/g00735/laws.FnExactWorldSame", spec := "fnExactWorldSame", unfollowed := true, recurses := true, apart := false }
def FnExactWorldSameSaid : Prop := fnExactWorldSameRow.holds Try.pinned (OpenSpec.ofChange fnExactWorldSameSpec)

/-- ITS FALSE NEIGHBOUR: 'it returns false'. Refute it at one input. -/
def fnExactWorldSameWrong : ChangeSpec := { name := "fnExactWorldSame", fn := fun _ => fun
  | [d1, d2] => { results := [.lit (.bool false)], args := [d1, d2] }
  | _ => none }
def FnExactWorldSameWrongFalsely : Prop := fnExactWorldSameRow.holds Try.pinned (OpenSpec.ofChange fnExactWorldSameWrong)

/-- 'laws.FnExactSlotOf': WHATEVER THE INPUT: true; the input reads as it did. -/
def fnExactSlotOfSpec : ChangeSpec := { name := "fnExactSlotOf", fn := fun _ => fun
  | [d1, d2, d3] => { results := [.lit (.bool true)], args := [d1, d2, d3] }
  | _ => none }
def fnExactSlotOfRow : OpenClaim := { program := "ytepjnalkpfnmcaa", sum := "cbef4fc3392c22d8312f689e4f4e1cad3456a24a217536d5a9b8e00656b5d5bc", func := "loop.example/g00735/laws.FnExactSlotOf", spec := "fnExactSlotOf", unfollowed := true, recurses := true, apart := false }
def FnExactSlotOfSaid : Prop := fnExactSlotOfRow.holds Try.pinned (OpenSpec.ofChange fnExactSlotOfSpec)

/-- ITS FALSE NEIGHBOUR: 'it returns false'. Refute it at one input. -/
def fnExactSlotOfWrong : ChangeSpec := { name := "fnExactSlotOf", fn := fun _ => fun
  | [d1, d2, d3] => { results := [.lit (.bool false)], args := [d1, d2, d3] }
  | _ => none }
def FnExactSlotOfWrongFalsely : Prop := fnExactSlotOfRow.holds Try.pinned (OpenSpec.ofChange fnExactSlotOfWrong)

/-- 'laws.FnExactSlotPut': WHATEVER THE INPUT: true; the input reads as it did. -/
def fnExactSlotPutSpec : ChangeSpec := { name := "fnExactSlotPut", fn := fun _ => fun
  | [d1, d2] => { results := [.lit (.bool true)], args := [d1, d2] }
  | _ => none }
def fnExactSlotPutRow : OpenClaim := { program := "ytepjnalkpfnmcaa", sum := "cbef4fc3392c22d8312f689e4f4e1cad3456a24a217536d5a9b8e00656b5d5bc", func := "loop.example/g00735/laws.FnExactSlotPut", spec := "fnExactSlotPut", unfollowed := true, recurses := true, apart := false }
def FnExactSlotPutSaid : Prop := fnExactSlotPutRow.holds Try.pinned (OpenSpec.ofChange fnExactSlotPutSpec)

/-- ITS FALSE NEIGHBOUR: 'it returns false'. Refute it at one input. -/
def fnExactSlotPutWrong : ChangeSpec := { name := "fnExactSlotPut", fn := fun _ => fun
  | [d1, d2] => { results := [.lit (.bool false)], args := [d1, d2] }
  | _ => none }
def FnExactSlotPutWrongFalsely : Prop := fnExactSlotPutRow.holds Try.pinned (OpenSpec.ofChange fnExactSlotPutWrong)

/-- 'laws.FnExactAcctNew': WHATEVER THE INPUT: true; the input reads as it did. -/
def fnExactAcctNewSpec : ChangeSpec := { name := "fnExactAcctNew", fn := fun _ => fun
  | [d1, d2, d3, d4, d5, d6] => { results := [.lit (.bool true)], args := [d1, d2, d3, d4, d5, d6] }
  | _ => none }
def fnExactAcctNewRow : OpenClaim := { program := "ytepjnalkpfnmcaa", sum := "cbef4fc3392c22d8312f689e4f4e1cad3456a24a217536d5a9b8e00656b5d5bc", func := "loop.example/g00735/laws.FnExactAcctNew", spec := "fnExactAcctNew", unfollowed := true, recurses := true, apart := false }
def FnExactAcctNewSaid : Prop := fnExactAcctNewRow.holds Try.pinned (OpenSpec.ofChange fnExactAcctNewSpec)

/-- ITS FALSE NEIGHBOUR: 'it returns false'. Refute it at one input. -/
def fnExactAcctNewWrong : ChangeSpec := { name := "fnExactAcctNew", fn := fun _ => fun
  | [d1, d2, d3, d4, d5, d6] => { results := [.lit (.bool false)], args := [d1, d2, d3, d4, d5, d6] }
  | _ => none }
def FnExactAcctNewWrongFalsely : Prop := fnExactAcctNewRow.holds Try.pinned (OpenSpec.ofChange fnExactAcctNewWrong)

/-- 'laws.FnExactEventsOf': WHATEVER THE INPUT: true; the input reads as it did. -/
def fnExactEventsOfSpec : ChangeSpec := { name := "fnExactEventsOf", fn := fun _ => fun
  | [d] => { results := [.lit (.bool true)], args := [d] }
  | _ => none }
def fnExactEventsOfRow : OpenClaim := { program := "ytepjnalkpfnmcaa", sum := "cbef4fc3392c22d8312f689e4f4e1cad3456a24a217536d5a9b8e00656b5d5bc", func := "loop.example/g00735/laws.FnExactEventsOf", spec := "fnExactEventsOf", apart := false }
def FnExactEventsOfSaid : Prop := fnExactEventsOfRow.holds Try.pinned (OpenSpec.ofChange fnExactEventsOfSpec)

/-- ITS FALSE NEIGHBOUR: 'it returns false'. Refute it at one input. -/
def fnExactEventsOfWrong : ChangeSpec := { name := "fnExactEventsOf", fn := fun _ => fun
  | [d] => { results := [.lit (.bool false)], args := [d] }
  | _ => none }
def FnExactEventsOfWrongFalsely : Prop := fnExactEventsOfRow.holds Try.pinned (OpenSpec.ofChange fnExactEventsOfWrong)

/-- 'laws.FnExactHoldPut': WHATEVER THE INPUT: true; the input reads as it did. -/
def fnExactHoldPutSpec : ChangeSpec := { name := "fnExactHoldPut", fn := fun _ => fun
  | [d1, d2] => { results := [.lit (.bool true)], args := [d1, d2] }
  | _ => none }
def fnExactHoldPutRow : OpenClaim := { program := "ytepjnalkpfnmcaa", sum := "cbef4fc3392c22d8312f689e4f4e1cad3456a24a217536d5a9b8e00656b5d5bc", func := "loop.example/g00735/laws.FnExactHoldPut", spec := "fnExactHoldPut", inPlace := ["slices.overlaps[loop.example/g00735/impl.Hold]"], unfollowed := true, recurses := true, apart := false }
def FnExactHoldPutSaid : Prop := fnExactHoldPutRow.holds Try.pinned (OpenSpec.ofChange fnExactHoldPutSpec)

/-- ITS FALSE NEIGHBOUR: 'it returns false'. Refute it at one input. -/
def fnExactHoldPutWrong : ChangeSpec := { name := "fnExactHoldPut", fn := fun _ => fun
  | [d1, d2] => { results := [.lit (.bool false)], args := [d1, d2] }
  | _ => none }
def FnExactHoldPutWrongFalsely : Prop := fnExactHoldPutRow.holds Try.pinned (OpenSpec.ofChange fnExactHoldPutWrong)

/-- 'laws.FnExactLockSet': WHATEVER THE INPUT: true; the input reads as it did. -/
def fnExactLockSetSpec : ChangeSpec := { name := "fnExactLockSet", fn := fun _ => fun
  | [d1, d2] => { results := [.lit (.bool true)], args := [d1, d2] }
  | _ => none }
def fnExactLockSetRow : OpenClaim := { program := "ytepjnalkpfnmcaa", sum := "cbef4fc3392c22d8312f689e4f4e1cad3456a24a217536d5a9b8e00656b5d5bc", func := "loop.example/g00735/laws.FnExactLockSet", spec := "fnExactLockSet", recurses := true, apart := false }
def FnExactLockSetSaid : Prop := fnExactLockSetRow.holds Try.pinned (OpenSpec.ofChange fnExactLockSetSpec)

/-- ITS FALSE NEIGHBOUR: 'it returns false'. Refute it at one input. -/
def fnExactLockSetWrong : ChangeSpec := { name := "fnExactLockSet", fn := fun _ => fun
  | [d1, d2] => { results := [.lit (.bool false)], args := [d1, d2] }
  | _ => none }
def FnExactLockSetWrongFalsely : Prop := fnExactLockSetRow.holds Try.pinned (OpenSpec.ofChange fnExactLockSetWrong)

/-- 'laws.FnExactInOrder': WHATEVER THE INPUT: true; the input reads as it did. -/
def fnExactInOrderSpec : ChangeSpec := { name := "fnExactInOrder", fn := fun _ => fun
  | [d] => { results := [.lit (.bool true)], args := [d] }
  | _ => none }
def fnExactInOrderRow : OpenClaim := { program := "ytepjnalkpfnmcaa", sum := "cbef4fc3392c22d8312f689e4f4e1cad3456a24a217536d5a9b8e00656b5d5bc", func := "loop.example/g00735/laws.FnExactInOrder", spec := "fnExactInOrder", unfollowed := true, recurses := true, apart := false }
def FnExactInOrderSaid : Prop := fnExactInOrderRow.holds Try.pinned (OpenSpec.ofChange fnExactInOrderSpec)

/-- ITS FALSE NEIGHBOUR: 'it returns false'. Refute it at one input. -/
def fnExactInOrderWrong : ChangeSpec := { name := "fnExactInOrder", fn := fun _ => fun
  | [d] => { results := [.lit (.bool false)], args := [d] }
  | _ => none }
def FnExactInOrderWrongFalsely : Prop := fnExactInOrderRow.holds Try.pinned (OpenSpec.ofChange fnExactInOrderWrong)

/- THE SECOND FORM. 'bulk': how many values and letters a reading holds, each counted each time it is reached (what is shared counts as often as it is met; a slice's spare places count too). A statement '..UptoSaid' is the law's where the arguments, and the package variables that the reading takes, are together of bulk at most 1048576: NARROWER than '..Said'. Prove '..Said' where nothing that the law and all that it calls make is longer than what came in: it says more and counts as full. Else prove '..UptoSaid'. A law counts once. -/
mutual
def uptoBulk {H : Type} : DataW H → Nat
  | .lit (.string bytes) => bytes.length + 1
  | .lit _ => 1
  | .nil => 1
  | .ptr d => uptoBulk d + 1
  | .slice elems spare => uptoBulkAll elems + uptoBulkAll spare + 1
  | .agg parts => uptoBulkAll parts + 1
  | .iface _ d => uptoBulk d + 1
  | .map entries => uptoBulkEntries entries + 1
  | .held _ => 1
def uptoBulkAll {H : Type} : List (DataW H) → Nat
  | [] => 0
  | d :: r => uptoBulk d + uptoBulkAll r
def uptoBulkEntries {H : Type} : List (Lit × DataW H) → Nat
  | [] => 0
  | x :: r => uptoBulkEntry x + uptoBulkEntries r
def uptoBulkEntry {H : Type} : Lit × DataW H → Nat
  | (.string bytes, d) => bytes.length + uptoBulk d + 1
  | (_, d) => uptoBulk d + 1
 end
def uptoSmall : (H : Type) → List (DataW H) → Bool := fun _ ds => decide (uptoBulkAll ds ≤ 1048576)
def OpenSpec.upto (s : _root_.Go.ChangeSpec) : _root_.Go.OpenSpec := { _root_.Go.OpenSpec.ofChange s with cond := some uptoSmall }

/-- 'laws.FnExactHoldDrop', WHERE WHAT IT READS IS OF BULK AT MOST 1048576: true; the input reads as it did. -/
def fnExactHoldDropUptoRow : OpenClaim := { program := "ytepjnalkpfnmcaa", sum := "cbef4fc3392c22d8312f689e4f4e1cad3456a24a217536d5a9b8e00656b5d5bc", func := "loop.example/g00735/laws.FnExactHoldDrop", spec := "fnExactHoldDrop", unfollowed := true, recurses := true, apart := false, narrowed := true }
def FnExactHoldDropUptoSaid : Prop := fnExactHoldDropUptoRow.holds Try.pinned (OpenSpec.upto fnExactHoldDropSpec)

/-- 'laws.FnExactLiveOnes', WHERE WHAT IT READS IS OF BULK AT MOST 1048576: true; the input reads as it did. -/
def fnExactLiveOnesUptoRow : OpenClaim := { program := "ytepjnalkpfnmcaa", sum := "cbef4fc3392c22d8312f689e4f4e1cad3456a24a217536d5a9b8e00656b5d5bc", func := "loop.example/g00735/laws.FnExactLiveOnes", spec := "fnExactLiveOnes", unfollowed := true, recurses := true, apart := false, narrowed := true }
def FnExactLiveOnesUptoSaid : Prop := fnExactLiveOnesUptoRow.holds Try.pinned (OpenSpec.upto fnExactLiveOnesSpec)

/-- 'laws.FnExactLiveSum', WHERE WHAT IT READS IS OF BULK AT MOST 1048576: true; the input reads as it did. -/
def fnExactLiveSumUptoRow : OpenClaim := { program := "ytepjnalkpfnmcaa", sum := "cbef4fc3392c22d8312f689e4f4e1cad3456a24a217536d5a9b8e00656b5d5bc", func := "loop.example/g00735/laws.FnExactLiveSum", spec := "fnExactLiveSum", unfollowed := true, recurses := true, apart := false, narrowed := true }
def FnExactLiveSumUptoSaid : Prop := fnExactLiveSumUptoRow.holds Try.pinned (OpenSpec.upto fnExactLiveSumSpec)

/-- 'laws.FnExactRoom', WHERE WHAT IT READS IS OF BULK AT MOST 1048576: true; the input reads as it did. -/
def fnExactRoomUptoRow : OpenClaim := { program := "ytepjnalkpfnmcaa", sum := "cbef4fc3392c22d8312f689e4f4e1cad3456a24a217536d5a9b8e00656b5d5bc", func := "loop.example/g00735/laws.FnExactRoom", spec := "fnExactRoom", unfollowed := true, recurses := true, apart := false, narrowed := true }
def FnExactRoomUptoSaid : Prop := fnExactRoomUptoRow.holds Try.pinned (OpenSpec.upto fnExactRoomSpec)

/-- 'laws.FnExactWorldSame', WHERE WHAT IT READS IS OF BULK AT MOST 1048576: true; the input reads as it did. -/
def fnExactWorldSameUptoRow : OpenClaim := { program := "ytepjnalkpfnmcaa", sum := "cbef4fc3392c22d8312f689e4f4e1cad3456a24a217536d5a9b8e00656b5d5bc", func := "loop.example/g00735/laws.FnExactWorldSame", spec := "fnExactWorldSame", unfollowed := true, recurses := true, apart := false, narrowed := true }
def FnExactWorldSameUptoSaid : Prop := fnExactWorldSameUptoRow.holds Try.pinned (OpenSpec.upto fnExactWorldSameSpec)

/-- 'laws.FnExactSlotOf', WHERE WHAT IT READS IS OF BULK AT MOST 1048576: true; the input reads as it did. -/
def fnExactSlotOfUptoRow : OpenClaim := { program := "ytepjnalkpfnmcaa", sum := "cbef4fc3392c22d8312f689e4f4e1cad3456a24a217536d5a9b8e00656b5d5bc", func := "loop.example/g00735/laws.FnExactSlotOf", spec := "fnExactSlotOf", unfollowed := true, recurses := true, apart := false, narrowed := true }
def FnExactSlotOfUptoSaid : Prop := fnExactSlotOfUptoRow.holds Try.pinned (OpenSpec.upto fnExactSlotOfSpec)

/-- 'laws.FnExactSlotPut', WHERE WHAT IT READS IS OF BULK AT MOST 1048576: true; the input reads as it did. -/
def fnExactSlotPutUptoRow : OpenClaim := { program := "ytepjnalkpfnmcaa", sum := "cbef4fc3392c22d8312f689e4f4e1cad3456a24a217536d5a9b8e00656b5d5bc", func := "loop.example/g00735/laws.FnExactSlotPut", spec := "fnExactSlotPut", unfollowed := true, recurses := true, apart := false, narrowed := true }
def FnExactSlotPutUptoSaid : Prop := fnExactSlotPutUptoRow.holds Try.pinned (OpenSpec.upto fnExactSlotPutSpec)

/-- 'laws.FnExactAcctNew', WHERE WHAT IT READS IS OF BULK AT MOST 1048576: true; the input reads as it did. -/
def fnExactAcctNewUptoRow : OpenClaim := { program := "ytepjnalkpfnmcaa", sum := "cbef4fc3392c22d8312f689e4f4e1cad3456a24a217536d5a9b8e00656b5d5bc", func := "loop.example/g00735/laws.FnExactAcctNew", spec := "fnExactAcctNew", unfollowed := true, recurses := true, apart := false, narrowed := true }
def FnExactAcctNewUptoSaid : Prop := fnExactAcctNewUptoRow.holds Try.pinned (OpenSpec.upto fnExactAcctNewSpec)

/-- 'laws.FnExactEventsOf', WHERE WHAT IT READS IS OF BULK AT MOST 1048576: true; the input reads as it did. -/
def fnExactEventsOfUptoRow : OpenClaim := { program := "ytepjnalkpfnmcaa", sum := "cbef4fc3392c22d8312f689e4f4e1cad3456a24a217536d5a9b8e00656b5d5bc", func := "loop.example/g00735/laws.FnExactEventsOf", spec := "fnExactEventsOf", apart := false, narrowed := true }
def FnExactEventsOfUptoSaid : Prop := fnExactEventsOfUptoRow.holds Try.pinned (OpenSpec.upto fnExactEventsOfSpec)

/-- 'laws.FnExactHoldPut', WHERE WHAT IT READS IS OF BULK AT MOST 1048576: true; the input reads as it did. -/
def fnExactHoldPutUptoRow : OpenClaim := { program := "ytepjnalkpfnmcaa", sum := "cbef4fc3392c22d8312f689e4f4e1cad3456a24a217536d5a9b8e00656b5d5bc", func := "loop.example/g00735/laws.FnExactHoldPut", spec := "fnExactHoldPut", inPlace := ["slices.overlaps[loop.example/g00735/impl.Hold]"], unfollowed := true, recurses := true, apart := false, narrowed := true }
def FnExactHoldPutUptoSaid : Prop := fnExactHoldPutUptoRow.holds Try.pinned (OpenSpec.upto fnExactHoldPutSpec)

/-- 'laws.FnExactLockSet', WHERE WHAT IT READS IS OF BULK AT MOST 1048576: true; the input reads as it did. -/
def fnExactLockSetUptoRow : OpenClaim := { program := "ytepjnalkpfnmcaa", sum := "cbef4fc3392c22d8312f689e4f4e1cad3456a24a217536d5a9b8e00656b5d5bc", func := "loop.example/g00735/laws.FnExactLockSet", spec := "fnExactLockSet", recurses := true, apart := false, narrowed := true }
def FnExactLockSetUptoSaid : Prop := fnExactLockSetUptoRow.holds Try.pinned (OpenSpec.upto fnExactLockSetSpec)

/-- 'laws.FnExactInOrder', WHERE WHAT IT READS IS OF BULK AT MOST 1048576: true; the input reads as it did. -/
def fnExactInOrderUptoRow : OpenClaim := { program := "ytepjnalkpfnmcaa", sum := "cbef4fc3392c22d8312f689e4f4e1cad3456a24a217536d5a9b8e00656b5d5bc", func := "loop.example/g00735/laws.FnExactInOrder", spec := "fnExactInOrder", unfollowed := true, recurses := true, apart := false, narrowed := true }
def FnExactInOrderUptoSaid : Prop := fnExactInOrderUptoRow.holds Try.pinned (OpenSpec.upto fnExactInOrderSpec)

end Rows
end Go.Proofs.Ytepjnalkpfnmcaa
