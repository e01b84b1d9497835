/-
  No cell of these rows narrows 'for every input' (looked for: loops, veiled, ifaces, maps, wideKeys, modest, calm, conditions, laid).
  DERIVED. THE GIVEN ROWS OF THIS SEAT. 9 by the template 'for every input the law returns true; each argument reads behind the call as it read before'; 0 by the template 'total and deterministic' (their statements: YtgcggfoailaalaaTotals.lean).
  GIVEN WITH THE SEED: the statements are not yours to turn. If you find one false, say at which input.
  Laid BY PROGRAM, IN A SANDBOX (cutbox-rows.mjs): the forced cells as the released guide's own fill.sh prints them over the translation 001b29715d44efa9… (all of the seat's roots in one cut). By AI agents, Wed Nov 11 2026. No macro, syntax, notation, axiom, sorry.
-/
import Derived.Test.YtgcggfoailaalaaChecked
import GoSem.Claim
import GoSem.ClaimJoined
import GoSem.ClaimMapViews
import Derived.JoinedTies
import Derived.KernelRfl
namespace Go.Proofs.Ytgcggfoailaalaa
/- THE CELL 'sum', in the pinned program and in every row, IS THE sha256 OF THE DUMP (.gsa) THAT YtgcggfoailaalaaProg.lean LOADS. Nothing in Lean hashes anything: it is a label: what it is worth is what the hold of that sum in a sandbox is worth. -/
noncomputable def Try.pinned : Pinned := { name := "ytgcggfoailaalaa", sum := "001b29715d44efa9bc98481b30ec4687eb3ac7ad82617719ef4555e6d19c99d2", checked := Try.checked }
namespace Rows
def none {H : Type} : Left H := { results := [], args := [] }

/-- 'laws.FnExactUnlocked': WHATEVER THE INPUT: true; the input reads as it did. -/
def fnExactUnlockedSpec : ChangeSpec := { name := "fnExactUnlocked", fn := fun _ => fun
  | [d] => { results := [.lit (.bool true)], args := [d] }
  | _ => none }
def fnExactUnlockedRow : OpenClaim := { program := "ytgcggfoailaalaa", sum := "001b29715d44efa9bc98481b30ec4687eb3ac7ad82617719ef4555e6d19c99d2", func := "loop.example/g00735/laws.FnExactUnlocked", spec := "fnExactUnlocked", unfollowed := true, recurses := true, apart := false }
def FnExactUnlockedSaid : Prop := fnExactUnlockedRow.holds Try.pinned (OpenSpec.ofChange fnExactUnlockedSpec)

/-- ITS FALSE NEIGHBOUR: 'it returns false'. Refute it at one input. -/
def fnExactUnlockedWrong : ChangeSpec := { name := "fnExactUnlocked", fn := fun _ => fun
  | [d] => { results := [.lit (.bool false)], args := [d] }
  | _ => none }
def FnExactUnlockedWrongFalsely : Prop := fnExactUnlockedRow.holds Try.pinned (OpenSpec.ofChange fnExactUnlockedWrong)

/-- 'laws.FnExactAcctOk': WHATEVER THE INPUT: true; the input reads as it did. -/
def fnExactAcctOkSpec : ChangeSpec := { name := "fnExactAcctOk", fn := fun _ => fun
  | [d] => { results := [.lit (.bool true)], args := [d] }
  | _ => none }
def fnExactAcctOkRow : OpenClaim := { program := "ytgcggfoailaalaa", sum := "001b29715d44efa9bc98481b30ec4687eb3ac7ad82617719ef4555e6d19c99d2", func := "loop.example/g00735/laws.FnExactAcctOk", spec := "fnExactAcctOk", unfollowed := true, recurses := true, apart := false }
def FnExactAcctOkSaid : Prop := fnExactAcctOkRow.holds Try.pinned (OpenSpec.ofChange fnExactAcctOkSpec)

/-- ITS FALSE NEIGHBOUR: 'it returns false'. Refute it at one input. -/
def fnExactAcctOkWrong : ChangeSpec := { name := "fnExactAcctOk", fn := fun _ => fun
  | [d] => { results := [.lit (.bool false)], args := [d] }
  | _ => none }
def FnExactAcctOkWrongFalsely : Prop := fnExactAcctOkRow.holds Try.pinned (OpenSpec.ofChange fnExactAcctOkWrong)

/-- 'laws.FnExactAcctNew': WHATEVER THE INPUT: true; the input reads as it did. -/
def fnExactAcctNewSpec : ChangeSpec := { name := "fnExactAcctNew", fn := fun _ => fun
  | [d1, d2, d3, d4, d5, d6] => { results := [.lit (.bool true)], args := [d1, d2, d3, d4, d5, d6] }
  | _ => none }
def fnExactAcctNewRow : OpenClaim := { program := "ytgcggfoailaalaa", sum := "001b29715d44efa9bc98481b30ec4687eb3ac7ad82617719ef4555e6d19c99d2", func := "loop.example/g00735/laws.FnExactAcctNew", spec := "fnExactAcctNew", unfollowed := true, recurses := true, apart := false }
def FnExactAcctNewSaid : Prop := fnExactAcctNewRow.holds Try.pinned (OpenSpec.ofChange fnExactAcctNewSpec)

/-- ITS FALSE NEIGHBOUR: 'it returns false'. Refute it at one input. -/
def fnExactAcctNewWrong : ChangeSpec := { name := "fnExactAcctNew", fn := fun _ => fun
  | [d1, d2, d3, d4, d5, d6] => { results := [.lit (.bool false)], args := [d1, d2, d3, d4, d5, d6] }
  | _ => none }
def FnExactAcctNewWrongFalsely : Prop := fnExactAcctNewRow.holds Try.pinned (OpenSpec.ofChange fnExactAcctNewWrong)

/-- 'laws.FnExactRoom': WHATEVER THE INPUT: true; the input reads as it did. -/
def fnExactRoomSpec : ChangeSpec := { name := "fnExactRoom", fn := fun _ => fun
  | [d1, d2] => { results := [.lit (.bool true)], args := [d1, d2] }
  | _ => none }
def fnExactRoomRow : OpenClaim := { program := "ytgcggfoailaalaa", sum := "001b29715d44efa9bc98481b30ec4687eb3ac7ad82617719ef4555e6d19c99d2", func := "loop.example/g00735/laws.FnExactRoom", spec := "fnExactRoom", unfollowed := true, recurses := true, apart := false }
def FnExactRoomSaid : Prop := fnExactRoomRow.holds Try.pinned (OpenSpec.ofChange fnExactRoomSpec)

/-- ITS FALSE NEIGHBOUR: 'it returns false'. Refute it at one input. -/
def fnExactRoomWrong : ChangeSpec := { name := "fnExactRoom", fn := fun _ => fun
  | [d1, d2] => { results := [.lit (.bool false)], args := [d1, d2] }
  | _ => none }
def FnExactRoomWrongFalsely : Prop := fnExactRoomRow.holds Try.pinned (OpenSpec.ofChange fnExactRoomWrong)

/-- 'laws.FnExactBookOk': WHATEVER THE INPUT: true; the input reads as it did. -/
def fnExactBookOkSpec : ChangeSpec := { name := "fnExactBookOk", fn := fun _ => fun
  | [d] => { results := [.lit (.bool true)], args := [d] }
  | _ => none }
def fnExactBookOkRow : OpenClaim := { program := "ytgcggfoailaalaa", sum := "001b29715d44efa9bc98481b30ec4687eb3ac7ad82617719ef4555e6d19c99d2", func := "loop.example/g00735/laws.FnExactBookOk", spec := "fnExactBookOk", unfollowed := true, recurses := true, apart := false }
def FnExactBookOkSaid : Prop := fnExactBookOkRow.holds Try.pinned (OpenSpec.ofChange fnExactBookOkSpec)

/-- ITS FALSE NEIGHBOUR: 'it returns false'. Refute it at one input. -/
def fnExactBookOkWrong : ChangeSpec := { name := "fnExactBookOk", fn := fun _ => fun
  | [d] => { results := [.lit (.bool false)], args := [d] }
  | _ => none }
def FnExactBookOkWrongFalsely : Prop := fnExactBookOkRow.holds Try.pinned (OpenSpec.ofChange fnExactBookOkWrong)

/-- 'laws.FnExactWorldSame': WHATEVER THE INPUT: true; the input reads as it did. -/
def fnExactWorldSameSpec : ChangeSpec := { name := "fnExactWorldSame", fn := fun _ => fun
  | [d1, d2] => { results := [.lit (.bool true)], args := [d1, d2] }
  | _ => none }
def fnExactWorldSameRow : OpenClaim := { program := "ytgcggfoailaalaa", sum := "001b29715d44efa9bc98481b30ec4687eb3ac7ad82617719ef4555e6d19c99d2", func := "loop.example/g00735/laws.FnExactWorldSame", spec := "fnExactWorldSame", unfollowed := true, recurses := true, apart := false }
def FnExactWorldSameSaid : Prop := fnExactWorldSameRow.holds Try.pinned (OpenSpec.ofChange fnExactWorldSameSpec)

/-- ITS FALSE NEIGHBOUR: 'it returns false'. Refute it at one input. -/
def fnExactWorldSameWrong : ChangeSpec := { name := "fnExactWorldSame", fn := fun _ => fun
  | [d1, d2] => { results := [.lit (.bool false)], args := [d1, d2] }
  | _ => none }
def FnExactWorldSameWrongFalsely : Prop := fnExactWorldSameRow.holds Try.pinned (OpenSpec.ofChange fnExactWorldSameWrong)

/-- 'laws.FnExactEventsOf': WHATEVER THE INPUT: true; the input reads as it did. -/
def fnExactEventsOfSpec : ChangeSpec := { name := "fnExactEventsOf", fn := fun _ => fun
  | [d] => { results := [.lit (.bool true)], args := [d] }
  | _ => none }
def fnExactEventsOfRow : OpenClaim := { program := "ytgcggfoailaalaa", sum := "001b29715d44efa9bc98481b30ec4687eb3ac7ad82617719ef4555e6d19c99d2", func := "loop.example/g00735/laws.FnExactEventsOf", spec := "fnExactEventsOf", apart := false }
def FnExactEventsOfSaid : Prop := fnExactEventsOfRow.holds Try.pinned (OpenSpec.ofChange fnExactEventsOfSpec)

/-- ITS FALSE NEIGHBOUR: 'it returns false'. Refute it at one input. -/
def fnExactEventsOfWrong : ChangeSpec := { name := "fnExactEventsOf", fn := fun _ => fun
  | [d] => { results := [.lit (.bool false)], args := [d] }
  | _ => none }
def FnExactEventsOfWrongFalsely : Prop := fnExactEventsOfRow.holds Try.pinned (OpenSpec.ofChange fnExactEventsOfWrong)

/-- 'laws.FnExactInOrder': WHATEVER THE INPUT: true; the input reads as it did. -/
def fnExactInOrderSpec : ChangeSpec := { name := "fnExactInOrder", fn := fun _ => fun
  | [d] => { results := [.lit (.bool true)], args := [d] }
  | _ => none }
def fnExactInOrderRow : OpenClaim := { program := "ytgcggfoailaalaa", sum := "001b29715d44efa9bc98481b30ec4687eb3ac7ad82617719ef4555e6d19c99d2", func := "loop.example/g00735/laws.FnExactInOrder", spec := "fnExactInOrder", unfollowed := true, recurses := true, apart := false }
def FnExactInOrderSaid : Prop := fnExactInOrderRow.holds Try.pinned (OpenSpec.ofChange fnExactInOrderSpec)

/-- ITS FALSE NEIGHBOUR: 'it returns false'. Refute it at one input. -/
def fnExactInOrderWrong : ChangeSpec := { name := "fnExactInOrder", fn := fun _ => fun
  | [d] => { results := [.lit (.bool false)], args := [d] }
  | _ => none }
def FnExactInOrderWrongFalsely : Prop := fnExactInOrderRow.holds Try.pinned (OpenSpec.ofChange fnExactInOrderWrong)

/-- 'laws.FnExactOrderOf': WHATEVER THE INPUT: true; the input reads as it did. -/
def fnExactOrderOfSpec : ChangeSpec := { name := "fnExactOrderOf", fn := fun _ => fun
  | [d] => { results := [.lit (.bool true)], args := [d] }
  | _ => none }
def fnExactOrderOfRow : OpenClaim := { program := "ytgcggfoailaalaa", sum := "001b29715d44efa9bc98481b30ec4687eb3ac7ad82617719ef4555e6d19c99d2", func := "loop.example/g00735/laws.FnExactOrderOf", spec := "fnExactOrderOf", unfollowed := true, recurses := true, apart := false }
def FnExactOrderOfSaid : Prop := fnExactOrderOfRow.holds Try.pinned (OpenSpec.ofChange fnExactOrderOfSpec)

/-- ITS FALSE NEIGHBOUR: 'it returns false'. Refute it at one input. -/
def fnExactOrderOfWrong : ChangeSpec := { name := "fnExactOrderOf", fn := fun _ => fun
  | [d] => { results := [.lit (.bool false)], args := [d] }
  | _ => none }
def FnExactOrderOfWrongFalsely : Prop := fnExactOrderOfRow.holds Try.pinned (OpenSpec.ofChange fnExactOrderOfWrong)

/- THE SECOND FORM. 'bulk': how many values and letters a reading holds, each counted each time it is reached (what is shared counts as often as it is met; a slice's spare places count too). A statement '..UptoSaid' is the law's where the arguments, and the package variables that the reading takes, are together of bulk at most 1048576: NARROWER than '..Said'. Prove '..Said' where nothing that the law and all that it calls make is longer than what came in: it says more and counts as full. Else prove '..UptoSaid'. A law counts once. -/
mutual
def uptoBulk {H : Type} : DataW H → Nat
  | .lit (.string bytes) => bytes.length + 1
  | .lit _ => 1
  | .nil => 1
  | .ptr d => uptoBulk d + 1
  | .slice elems spare => uptoBulkAll elems + uptoBulkAll spare + 1
  | .agg parts => uptoBulkAll parts + 1
  | .iface _ d => uptoBulk d + 1
  | .map entries => uptoBulkEntries entries + 1
  | .held _ => 1
def uptoBulkAll {H : Type} : List (DataW H) → Nat
  | [] => 0
  | d :: r => uptoBulk d + uptoBulkAll r
def uptoBulkEntries {H : Type} : List (Lit × DataW H) → Nat
  | [] => 0
  | x :: r => uptoBulkEntry x + uptoBulkEntries r
def uptoBulkEntry {H : Type} : Lit × DataW H → Nat
  | (.string bytes, d) => bytes.length + uptoBulk d + 1
  | (_, d) => uptoBulk d + 1
 end
def uptoSmall : (H : Type) → List (DataW H) → Bool := fun _ ds => decide (uptoBulkAll ds ≤ 1048576)
def OpenSpec.upto (s : _root_.Go.ChangeSpec) : _root_.Go.OpenSpec := { _root_.Go.OpenSpec.ofChange s with cond := some uptoSmall }

/-- 'laws.FnExactUnlocked', WHERE WHAT IT READS IS OF BULK AT MOST 1048576: true; the input reads as it did. -/
def fnExactUnlockedUptoRow : OpenClaim := { program := "ytgcggfoailaalaa", sum := "001b29715d44efa9bc98481b30ec4687eb3ac7ad82617719ef4555e6d19c99d2", func := "loop.example/g00735/laws.FnExactUnlocked", spec := "fnExactUnlocked", unfollowed := true, recurses := true, apart := false, narrowed := true }
def FnExactUnlockedUptoSaid : Prop := fnExactUnlockedUptoRow.holds Try.pinned (OpenSpec.upto fnExactUnlockedSpec)

/-- 'laws.FnExactAcctOk', WHERE WHAT IT READS IS OF BULK AT MOST 1048576: true; the input reads as it did. -/
def fnExactAcctOkUptoRow : OpenClaim := { program := "ytgcggfoailaalaa", sum := "001b29715d44efa9bc98481b30ec4687eb3ac7ad82617719ef4555e6d19c99d2", func := "loop.example/g00735/laws.FnExactAcctOk", spec := "fnExactAcctOk", unfollowed := true, recurses := true, apart := false, narrowed := true }
def FnExactAcctOkUptoSaid : Prop := fnExactAcctOkUptoRow.holds Try.pinned (OpenSpec.upto fnExactAcctOkSpec)

/-- 'laws.FnExactAcctNew', WHERE WHAT IT READS IS OF BULK AT MOST 1048576: true; the input reads as it did. -/
def fnExactAcctNewUptoRow : OpenClaim := { program := "ytgcggfoailaalaa", sum := "001b29715d44efa9bc98481b30ec4687eb3ac7ad82617719ef4555e6d19c99d2", func := "loop.example/g00735/laws.FnExactAcctNew", spec := "fnExactAcctNew", unfollowed := true, recurses := true, apart := false, narrowed := true }
def FnExactAcctNewUptoSaid : Prop := fnExactAcctNewUptoRow.holds Try.pinned (OpenSpec.upto fnExactAcctNewSpec)

/-- 'laws.FnExactRoom', WHERE WHAT IT READS IS OF BULK AT MOST 1048576: true; the input reads as it did. -/
def fnExactRoomUptoRow : OpenClaim := { program := "ytgcggfoailaalaa", sum := "001b29715d44efa9bc98481b30ec4687eb3ac7ad82617719ef4555e6d19c99d2", func := "loop.example/g00735/laws.FnExactRoom", spec := "fnExactRoom", unfollowed := true, recurses := true, apart := false, narrowed := true }
def FnExactRoomUptoSaid : Prop := fnExactRoomUptoRow.holds Try.pinned (OpenSpec.upto fnExactRoomSpec)

/-- 'laws.FnExactBookOk', WHERE WHAT IT READS IS OF BULK AT MOST 1048576: true; the input reads as it did. -/
def fnExactBookOkUptoRow : OpenClaim := { program := "ytgcggfoailaalaa", sum := "001b29715d44efa9bc98481b30ec4687eb3ac7ad82617719ef4555e6d19c99d2", func := "loop.example/g00735/laws.FnExactBookOk", spec := "fnExactBookOk", unfollowed := true, recurses := true, apart := false, narrowed := true }
def FnExactBookOkUptoSaid : Prop := fnExactBookOkUptoRow.holds Try.pinned (OpenSpec.upto fnExactBookOkSpec)

/-- 'laws.FnExactWorldSame', WHERE WHAT IT READS IS OF BULK AT MOST 1048576: true; the input reads as it did. -/
def fnExactWorldSameUptoRow : OpenClaim := { program := "ytgcggfoailaalaa", sum := "001b29715d44efa9bc98481b30ec4687eb3ac7ad82617719ef4555e6d19c99d2", func := "loop.example/g00735/laws.FnExactWorldSame", spec := "fnExactWorldSame", unfollowed := true, recurses := true, apart := false, narrowed := true }
def FnExactWorldSameUptoSaid : Prop := fnExactWorldSameUptoRow.holds Try.pinned (OpenSpec.upto fnExactWorldSameSpec)

/-- 'laws.FnExactEventsOf', WHERE WHAT IT READS IS OF BULK AT MOST 1048576: true; the input reads as it did. -/
def fnExactEventsOfUptoRow : OpenClaim := { program := "ytgcggfoailaalaa", sum := "001b29715d44efa9bc98481b30ec4687eb3ac7ad82617719ef4555e6d19c99d2", func := "loop.example/g00735/laws.FnExactEventsOf", spec := "fnExactEventsOf", apart := false, narrowed := true }
def FnExactEventsOfUptoSaid : Prop := fnExactEventsOfUptoRow.holds Try.pinned (OpenSpec.upto fnExactEventsOfSpec)

/-- 'laws.FnExactInOrder', WHERE WHAT IT READS IS OF BULK AT MOST 1048576: true; the input reads as it did. -/
def fnExactInOrderUptoRow : OpenClaim := { program := "ytgcggfoailaalaa", sum := "001b29715d44efa9bc98481b30ec4687eb3ac7ad82617719ef4555e6d19c99d2", func := "loop.example/g00735/laws.FnExactInOrder", spec := "fnExactInOrder", unfollowed := true, recurses := true, apart := false, narrowed := true }
def FnExactInOrderUptoSaid : Prop := fnExactInOrderUptoRow.holds Try.pinned (OpenSpec.upto fnExactInOrderSpec)

/-- 'laws.FnExactOrderOf', WHERE WHAT IT READS IS OF BULK AT MOST 1048576: true; the input reads as it did. -/
def fnExactOrderOfUptoRow : OpenClaim := { program := "ytgcggfoailaalaa", sum := "001b29715d44efa9bc98481b30ec4687eb3ac7ad82617719ef4555e6d19c99d2", func := "loop.example/g00735/laws.FnExactOrderOf", spec := "fnExactOrderOf", unfollowed := true, recurses := true, apart := false, narrowed := true }
def FnExactOrderOfUptoSaid : Prop := fnExactOrderOfUptoRow.holds Try.pinned (OpenSpec.upto fnExactOrderOfSpec)

end Rows
end Go.Proofs.Ytgcggfoailaalaa
