/-
  No cell of these rows narrows 'for every input' (looked for: loops, veiled, ifaces, maps, wideKeys, modest, calm, conditions, laid).
  DERIVED. THE GIVEN ROWS OF THIS SEAT. 12 by the template 'for every input the law returns true; each argument reads behind the call as it read before'; 0 by the template 'total and deterministic' (their statements: YtbllcjgccpdbkaaTotals.lean).
  GIVEN WITH THE SEED: the statements are not yours to turn. If you find one false, say at which input.
  Laid BY PROGRAM, IN A SANDBOX (cutbox-rows.mjs): the forced cells as the released guide's own fill.sh prints them over the translation 7d601e08a8e3689a… (all of the seat's roots in one cut). By AI agents, Wed Nov 11 2026. No macro, syntax, notation, axiom, sorry.
-/
import Derived.Test.YtbllcjgccpdbkaaChecked
import GoSem.Claim
import GoSem.ClaimJoined
import GoSem.ClaimMapViews
import Derived.JoinedTies
import Derived.KernelRfl
namespace Go.Proofs.Ytbllcjgccpdbkaa
/- THE CELL 'sum', in the pinned program and in every row, IS THE sha256 OF THE DUMP (.gsa) THAT YtbllcjgccpdbkaaProg.lean LOADS. Nothing in Lean hashes anything: it is a label: what it is worth is what the hold of that sum in a sandbox is worth. -/
noncomputable def Try.pinned : Pinned := { name := "ytbllcjgccpdbkaa", sum := "7d601e08a8e3689ac9b2b05f38ba5d2b082ef2510ff982c48db2201dfbf52ce7", checked := Try.checked }
namespace Rows
def none {H : Type} : Left H := { results := [], args := [] }

/-- 'laws.FnExactPcName': WHATEVER THE INPUT: true; the input reads as it did. -/
def fnExactPcNameSpec : ChangeSpec := { name := "fnExactPcName", fn := fun _ => fun
  | [d] => { results := [.lit (.bool true)], args := [d] }
  | _ => none }
def fnExactPcNameRow : OpenClaim := { program := "ytbllcjgccpdbkaa", sum := "7d601e08a8e3689ac9b2b05f38ba5d2b082ef2510ff982c48db2201dfbf52ce7", func := "loop.example/g00735/laws.FnExactPcName", spec := "fnExactPcName", apart := false }
def FnExactPcNameSaid : Prop := fnExactPcNameRow.holds Try.pinned (OpenSpec.ofChange fnExactPcNameSpec)

/-- ITS FALSE NEIGHBOUR: 'it returns false'. Refute it at one input. -/
def fnExactPcNameWrong : ChangeSpec := { name := "fnExactPcName", fn := fun _ => fun
  | [d] => { results := [.lit (.bool false)], args := [d] }
  | _ => none }
def FnExactPcNameWrongFalsely : Prop := fnExactPcNameRow.holds Try.pinned (OpenSpec.ofChange fnExactPcNameWrong)

/-- 'laws.FnExactHoldIdOk': WHATEVER THE INPUT: true; the input reads as it did. -/
def fnExactHoldIdOkSpec : ChangeSpec := { name := "fnExactHoldIdOk", fn := fun _ => fun
  | [d] => { results := [.lit (.bool true)], args := [d] }
  | _ => none }
def fnExactHoldIdOkRow : OpenClaim := { program := "ytbllcjgccpdbkaa", sum := "7d601e08a8e3689ac9b2b05f38ba5d2b082ef2510ff982c48db2201dfbf52ce7", func := "loop.example/g00735/laws.FnExactHoldIdOk", spec := "fnExactHoldIdOk", apart := false }
def FnExactHoldIdOkSaid : Prop := fnExactHoldIdOkRow.holds Try.pinned (OpenSpec.ofChange fnExactHoldIdOkSpec)

/-- ITS FALSE NEIGHBOUR: 'it returns false'. Refute it at one input. -/
def fnExactHoldIdOkWrong : ChangeSpec := { name := "fnExactHoldIdOk", fn := fun _ => fun
  | [d] => { results := [.lit (.bool false)], args := [d] }
  | _ => none }
def FnExactHoldIdOkWrongFalsely : Prop := fnExactHoldIdOkRow.holds Try.pinned (OpenSpec.ofChange fnExactHoldIdOkWrong)

/-- 'laws.FnExactOpName': WHATEVER THE INPUT: true; the input reads as it did. -/
def fnExactOpNameSpec : ChangeSpec := { name := "fnExactOpName", fn := fun _ => fun
  | [d] => { results := [.lit (.bool true)], args := [d] }
  | _ => none }
def fnExactOpNameRow : OpenClaim := { program := "ytbllcjgccpdbkaa", sum := "7d601e08a8e3689ac9b2b05f38ba5d2b082ef2510ff982c48db2201dfbf52ce7", func := "loop.example/g00735/laws.FnExactOpName", spec := "fnExactOpName", apart := false }
def FnExactOpNameSaid : Prop := fnExactOpNameRow.holds Try.pinned (OpenSpec.ofChange fnExactOpNameSpec)

/-- ITS FALSE NEIGHBOUR: 'it returns false'. Refute it at one input. -/
def fnExactOpNameWrong : ChangeSpec := { name := "fnExactOpName", fn := fun _ => fun
  | [d] => { results := [.lit (.bool false)], args := [d] }
  | _ => none }
def FnExactOpNameWrongFalsely : Prop := fnExactOpNameRow.holds Try.pinned (OpenSpec.ofChange fnExactOpNameWrong)

/-- 'laws.FnExactOpCode': WHATEVER THE INPUT: true; the input reads as it did. -/
def fnExactOpCodeSpec : ChangeSpec := { name := "fnExactOpCode", fn := fun _ => fun
  | [d] => { results := [.lit (.bool true)], args := [d] }
  | _ => none }
def fnExactOpCodeRow : OpenClaim := { program := "ytbllcjgccpdbkaa", sum := "7d601e08a8e3689ac9b2b05f38ba5d2b082ef2510ff982c48db2201dfbf52ce7", func := "loop.example/g00735/laws.FnExactOpCode", spec := "fnExactOpCode", apart := false }
def FnExactOpCodeSaid : Prop := fnExactOpCodeRow.holds Try.pinned (OpenSpec.ofChange fnExactOpCodeSpec)

/-- ITS FALSE NEIGHBOUR: 'it returns false'. Refute it at one input. -/
def fnExactOpCodeWrong : ChangeSpec := { name := "fnExactOpCode", fn := fun _ => fun
  | [d] => { results := [.lit (.bool false)], args := [d] }
  | _ => none }
def FnExactOpCodeWrongFalsely : Prop := fnExactOpCodeRow.holds Try.pinned (OpenSpec.ofChange fnExactOpCodeWrong)

/-- 'laws.FnExactOpMti': WHATEVER THE INPUT: true; the input reads as it did. -/
def fnExactOpMtiSpec : ChangeSpec := { name := "fnExactOpMti", fn := fun _ => fun
  | [d] => { results := [.lit (.bool true)], args := [d] }
  | _ => none }
def fnExactOpMtiRow : OpenClaim := { program := "ytbllcjgccpdbkaa", sum := "7d601e08a8e3689ac9b2b05f38ba5d2b082ef2510ff982c48db2201dfbf52ce7", func := "loop.example/g00735/laws.FnExactOpMti", spec := "fnExactOpMti", apart := false }
def FnExactOpMtiSaid : Prop := fnExactOpMtiRow.holds Try.pinned (OpenSpec.ofChange fnExactOpMtiSpec)

/-- ITS FALSE NEIGHBOUR: 'it returns false'. Refute it at one input. -/
def fnExactOpMtiWrong : ChangeSpec := { name := "fnExactOpMti", fn := fun _ => fun
  | [d] => { results := [.lit (.bool false)], args := [d] }
  | _ => none }
def FnExactOpMtiWrongFalsely : Prop := fnExactOpMtiRow.holds Try.pinned (OpenSpec.ofChange fnExactOpMtiWrong)

/-- 'laws.FnExactStripeNo': WHATEVER THE INPUT: true; the input reads as it did. -/
def fnExactStripeNoSpec : ChangeSpec := { name := "fnExactStripeNo", fn := fun _ => fun
  | [d1, d2] => { results := [.lit (.bool true)], args := [d1, d2] }
  | _ => none }
def fnExactStripeNoRow : OpenClaim := { program := "ytbllcjgccpdbkaa", sum := "7d601e08a8e3689ac9b2b05f38ba5d2b082ef2510ff982c48db2201dfbf52ce7", func := "loop.example/g00735/laws.FnExactStripeNo", spec := "fnExactStripeNo", apart := false }
def FnExactStripeNoSaid : Prop := fnExactStripeNoRow.holds Try.pinned (OpenSpec.ofChange fnExactStripeNoSpec)

/-- ITS FALSE NEIGHBOUR: 'it returns false'. Refute it at one input. -/
def fnExactStripeNoWrong : ChangeSpec := { name := "fnExactStripeNo", fn := fun _ => fun
  | [d1, d2] => { results := [.lit (.bool false)], args := [d1, d2] }
  | _ => none }
def FnExactStripeNoWrongFalsely : Prop := fnExactStripeNoRow.holds Try.pinned (OpenSpec.ofChange fnExactStripeNoWrong)

/-- 'laws.FnExactNameOp': WHATEVER THE INPUT: true; the input reads as it did. -/
def fnExactNameOpSpec : ChangeSpec := { name := "fnExactNameOp", fn := fun _ => fun
  | [d] => { results := [.lit (.bool true)], args := [d] }
  | _ => none }
def fnExactNameOpRow : OpenClaim := { program := "ytbllcjgccpdbkaa", sum := "7d601e08a8e3689ac9b2b05f38ba5d2b082ef2510ff982c48db2201dfbf52ce7", func := "loop.example/g00735/laws.FnExactNameOp", spec := "fnExactNameOp", unfollowed := true, recurses := true, apart := false }
def FnExactNameOpSaid : Prop := fnExactNameOpRow.holds Try.pinned (OpenSpec.ofChange fnExactNameOpSpec)

/-- ITS FALSE NEIGHBOUR: 'it returns false'. Refute it at one input. -/
def fnExactNameOpWrong : ChangeSpec := { name := "fnExactNameOp", fn := fun _ => fun
  | [d] => { results := [.lit (.bool false)], args := [d] }
  | _ => none }
def FnExactNameOpWrongFalsely : Prop := fnExactNameOpRow.holds Try.pinned (OpenSpec.ofChange fnExactNameOpWrong)

/-- 'laws.FnExactHoldOk': WHATEVER THE INPUT: true; the input reads as it did. -/
def fnExactHoldOkSpec : ChangeSpec := { name := "fnExactHoldOk", fn := fun _ => fun
  | [d] => { results := [.lit (.bool true)], args := [d] }
  | _ => none }
def fnExactHoldOkRow : OpenClaim := { program := "ytbllcjgccpdbkaa", sum := "7d601e08a8e3689ac9b2b05f38ba5d2b082ef2510ff982c48db2201dfbf52ce7", func := "loop.example/g00735/laws.FnExactHoldOk", spec := "fnExactHoldOk", apart := false }
def FnExactHoldOkSaid : Prop := fnExactHoldOkRow.holds Try.pinned (OpenSpec.ofChange fnExactHoldOkSpec)

/-- ITS FALSE NEIGHBOUR: 'it returns false'. Refute it at one input. -/
def fnExactHoldOkWrong : ChangeSpec := { name := "fnExactHoldOk", fn := fun _ => fun
  | [d] => { results := [.lit (.bool false)], args := [d] }
  | _ => none }
def FnExactHoldOkWrongFalsely : Prop := fnExactHoldOkRow.holds Try.pinned (OpenSpec.ofChange fnExactHoldOkWrong)

/-- 'laws.FnExactAcctIdOk': WHATEVER THE INPUT: true; the input reads as it did. -/
def fnExactAcctIdOkSpec : ChangeSpec := { name := "fnExactAcctIdOk", fn := fun _ => fun
  | [d] => { results := [.lit (.bool true)], args := [d] }
  | _ => none }
def fnExactAcctIdOkRow : OpenClaim := { program := "ytbllcjgccpdbkaa", sum := "7d601e08a8e3689ac9b2b05f38ba5d2b082ef2510ff982c48db2201dfbf52ce7", func := "loop.example/g00735/laws.FnExactAcctIdOk", spec := "fnExactAcctIdOk", apart := false }
def FnExactAcctIdOkSaid : Prop := fnExactAcctIdOkRow.holds Try.pinned (OpenSpec.ofChange fnExactAcctIdOkSpec)

/-- ITS FALSE NEIGHBOUR: 'it returns false'. Refute it at one input. -/
def fnExactAcctIdOkWrong : ChangeSpec := { name := "fnExactAcctIdOk", fn := fun _ => fun
  | [d] => { results := [.lit (.bool false)], args := [d] }
  | _ => none }
def FnExactAcctIdOkWrongFalsely : Prop := fnExactAcctIdOkRow.holds Try.pinned (OpenSpec.ofChange fnExactAcctIdOkWrong)

/-- 'laws.FnExactEventOk': WHATEVER THE INPUT: true; the input reads as it did. -/
def fnExactEventOkSpec : ChangeSpec := { name := "fnExactEventOk", fn := fun _ => fun
  | [d] => { results := [.lit (.bool true)], args := [d] }
  | _ => none }
def fnExactEventOkRow : OpenClaim := { program := "ytbllcjgccpdbkaa", sum := "7d601e08a8e3689ac9b2b05f38ba5d2b082ef2510ff982c48db2201dfbf52ce7", func := "loop.example/g00735/laws.FnExactEventOk", spec := "fnExactEventOk", apart := false }
def FnExactEventOkSaid : Prop := fnExactEventOkRow.holds Try.pinned (OpenSpec.ofChange fnExactEventOkSpec)

/-- ITS FALSE NEIGHBOUR: 'it returns false'. Refute it at one input. -/
def fnExactEventOkWrong : ChangeSpec := { name := "fnExactEventOk", fn := fun _ => fun
  | [d] => { results := [.lit (.bool false)], args := [d] }
  | _ => none }
def FnExactEventOkWrongFalsely : Prop := fnExactEventOkRow.holds Try.pinned (OpenSpec.ofChange fnExactEventOkWrong)

/-- 'laws.FnExactHoldAt': WHATEVER THE INPUT: true; the input reads as it did. -/
def fnExactHoldAtSpec : ChangeSpec := { name := "fnExactHoldAt", fn := fun _ => fun
  | [d1, d2] => { results := [.lit (.bool true)], args := [d1, d2] }
  | _ => none }
def fnExactHoldAtRow : OpenClaim := { program := "ytbllcjgccpdbkaa", sum := "7d601e08a8e3689ac9b2b05f38ba5d2b082ef2510ff982c48db2201dfbf52ce7", func := "loop.example/g00735/laws.FnExactHoldAt", spec := "fnExactHoldAt", unfollowed := true, recurses := true, apart := false }
def FnExactHoldAtSaid : Prop := fnExactHoldAtRow.holds Try.pinned (OpenSpec.ofChange fnExactHoldAtSpec)

/-- ITS FALSE NEIGHBOUR: 'it returns false'. Refute it at one input. -/
def fnExactHoldAtWrong : ChangeSpec := { name := "fnExactHoldAt", fn := fun _ => fun
  | [d1, d2] => { results := [.lit (.bool false)], args := [d1, d2] }
  | _ => none }
def FnExactHoldAtWrongFalsely : Prop := fnExactHoldAtRow.holds Try.pinned (OpenSpec.ofChange fnExactHoldAtWrong)

/-- 'laws.FnExactSlotOk': WHATEVER THE INPUT: true; the input reads as it did. -/
def fnExactSlotOkSpec : ChangeSpec := { name := "fnExactSlotOk", fn := fun _ => fun
  | [d] => { results := [.lit (.bool true)], args := [d] }
  | _ => none }
def fnExactSlotOkRow : OpenClaim := { program := "ytbllcjgccpdbkaa", sum := "7d601e08a8e3689ac9b2b05f38ba5d2b082ef2510ff982c48db2201dfbf52ce7", func := "loop.example/g00735/laws.FnExactSlotOk", spec := "fnExactSlotOk", apart := false }
def FnExactSlotOkSaid : Prop := fnExactSlotOkRow.holds Try.pinned (OpenSpec.ofChange fnExactSlotOkSpec)

/-- ITS FALSE NEIGHBOUR: 'it returns false'. Refute it at one input. -/
def fnExactSlotOkWrong : ChangeSpec := { name := "fnExactSlotOk", fn := fun _ => fun
  | [d] => { results := [.lit (.bool false)], args := [d] }
  | _ => none }
def FnExactSlotOkWrongFalsely : Prop := fnExactSlotOkRow.holds Try.pinned (OpenSpec.ofChange fnExactSlotOkWrong)

/- THE SECOND FORM. 'bulk': how many values and letters a reading holds, each counted each time it is reached (what is shared counts as often as it is met; a slice's spare places count too). A statement '..UptoSaid' is the law's where the arguments, and the package variables that the reading takes, are together of bulk at most 1048576: NARROWER than '..Said'. Prove '..Said' where nothing that the law and all that it calls make is longer than what came in: it says more and counts as full. Else prove '..UptoSaid'. A law counts once. -/
mutual
def uptoBulk {H : Type} : DataW H → Nat
  | .lit (.string bytes) => bytes.length + 1
  | .lit _ => 1
  | .nil => 1
  | .ptr d => uptoBulk d + 1
  | .slice elems spare => uptoBulkAll elems + uptoBulkAll spare + 1
  | .agg parts => uptoBulkAll parts + 1
  | .iface _ d => uptoBulk d + 1
  | .map entries => uptoBulkEntries entries + 1
  | .held _ => 1
def uptoBulkAll {H : Type} : List (DataW H) → Nat
  | [] => 0
  | d :: r => uptoBulk d + uptoBulkAll r
def uptoBulkEntries {H : Type} : List (Lit × DataW H) → Nat
  | [] => 0
  | x :: r => uptoBulkEntry x + uptoBulkEntries r
def uptoBulkEntry {H : Type} : Lit × DataW H → Nat
  | (.string bytes, d) => bytes.length + uptoBulk d + 1
  | (_, d) => uptoBulk d + 1
 end
def uptoSmall : (H : Type) → List (DataW H) → Bool := fun _ ds => decide (uptoBulkAll ds ≤ 1048576)
def OpenSpec.upto (s : _root_.Go.ChangeSpec) : _root_.Go.OpenSpec := { _root_.Go.OpenSpec.ofChange s with cond := some uptoSmall }

/-- 'laws.FnExactPcName', WHERE WHAT IT READS IS OF BULK AT MOST 1048576: true; the input reads as it did. -/
def fnExactPcNameUptoRow : OpenClaim := { program := "ytbllcjgccpdbkaa", sum := "7d601e08a8e3689ac9b2b05f38ba5d2b082ef2510ff982c48db2201dfbf52ce7", func := "loop.example/g00735/laws.FnExactPcName", spec := "fnExactPcName", apart := false, narrowed := true }
def FnExactPcNameUptoSaid : Prop := fnExactPcNameUptoRow.holds Try.pinned (OpenSpec.upto fnExactPcNameSpec)

/-- 'laws.FnExactHoldIdOk', WHERE WHAT IT READS IS OF BULK AT MOST 1048576: true; the input reads as it did. -/
def fnExactHoldIdOkUptoRow : OpenClaim := { program := "ytbllcjgccpdbkaa", sum := "7d601e08a8e3689ac9b2b05f38ba5d2b082ef2510ff982c48db2201dfbf52ce7", func := "loop.example/g00735/laws.FnExactHoldIdOk", spec := "fnExactHoldIdOk", apart := false, narrowed := true }
def FnExactHoldIdOkUptoSaid : Prop := fnExactHoldIdOkUptoRow.holds Try.pinned (OpenSpec.upto fnExactHoldIdOkSpec)

/-- 'laws.FnExactOpName', WHERE WHAT IT READS IS OF BULK AT MOST 1048576: true; the input reads as it did. -/
def fnExactOpNameUptoRow : OpenClaim := { program := "ytbllcjgccpdbkaa", sum := "7d601e08a8e3689ac9b2b05f38ba5d2b082ef2510ff982c48db2201dfbf52ce7", func := "loop.example/g00735/laws.FnExactOpName", spec := "fnExactOpName", apart := false, narrowed := true }
def FnExactOpNameUptoSaid : Prop := fnExactOpNameUptoRow.holds Try.pinned (OpenSpec.upto fnExactOpNameSpec)

/-- 'laws.FnExactOpCode', WHERE WHAT IT READS IS OF BULK AT MOST 1048576: true; the input reads as it did. -/
def fnExactOpCodeUptoRow : OpenClaim := { program := "ytbllcjgccpdbkaa", sum := "7d601e08a8e3689ac9b2b05f38ba5d2b082ef2510ff982c48db2201dfbf52ce7", func := "loop.example/g00735/laws.FnExactOpCode", spec := "fnExactOpCode", apart := false, narrowed := true }
def FnExactOpCodeUptoSaid : Prop := fnExactOpCodeUptoRow.holds Try.pinned (OpenSpec.upto fnExactOpCodeSpec)

/-- 'laws.FnExactOpMti', WHERE WHAT IT READS IS OF BULK AT MOST 1048576: true; the input reads as it did. -/
def fnExactOpMtiUptoRow : OpenClaim := { program := "ytbllcjgccpdbkaa", sum := "7d601e08a8e3689ac9b2b05f38ba5d2b082ef2510ff982c48db2201dfbf52ce7", func := "loop.example/g00735/laws.FnExactOpMti", spec := "fnExactOpMti", apart := false, narrowed := true }
def FnExactOpMtiUptoSaid : Prop := fnExactOpMtiUptoRow.holds Try.pinned (OpenSpec.upto fnExactOpMtiSpec)

/-- 'laws.FnExactStripeNo', WHERE WHAT IT READS IS OF BULK AT MOST 1048576: true; the input reads as it did. -/
def fnExactStripeNoUptoRow : OpenClaim := { program := "ytbllcjgccpdbkaa", sum := "7d601e08a8e3689ac9b2b05f38ba5d2b082ef2510ff982c48db2201dfbf52ce7", func := "loop.example/g00735/laws.FnExactStripeNo", spec := "fnExactStripeNo", apart := false, narrowed := true }
def FnExactStripeNoUptoSaid : Prop := fnExactStripeNoUptoRow.holds Try.pinned (OpenSpec.upto fnExactStripeNoSpec)

/-- 'laws.FnExactNameOp', WHERE WHAT IT READS IS OF BULK AT MOST 1048576: true; the input reads as it did. -/
def fnExactNameOpUptoRow : OpenClaim := { program := "ytbllcjgccpdbkaa", sum := "7d601e08a8e3689ac9b2b05f38ba5d2b082ef2510ff982c48db2201dfbf52ce7", func := "loop.example/g00735/laws.FnExactNameOp", spec := "fnExactNameOp", unfollowed := true, recurses := true, apart := false, narrowed := true }
def FnExactNameOpUptoSaid : Prop := fnExactNameOpUptoRow.holds Try.pinned (OpenSpec.upto fnExactNameOpSpec)

/-- 'laws.FnExactHoldOk', WHERE WHAT IT READS IS OF BULK AT MOST 1048576: true; the input reads as it did. -/
def fnExactHoldOkUptoRow : OpenClaim := { program := "ytbllcjgccpdbkaa", sum := "7d601e08a8e3689ac9b2b05f38ba5d2b082ef2510ff982c48db2201dfbf52ce7", func := "loop.example/g00735/laws.FnExactHoldOk", spec := "fnExactHoldOk", apart := false, narrowed := true }
def FnExactHoldOkUptoSaid : Prop := fnExactHoldOkUptoRow.holds Try.pinned (OpenSpec.upto fnExactHoldOkSpec)

/-- 'laws.FnExactAcctIdOk', WHERE WHAT IT READS IS OF BULK AT MOST 1048576: true; the input reads as it did. -/
def fnExactAcctIdOkUptoRow : OpenClaim := { program := "ytbllcjgccpdbkaa", sum := "7d601e08a8e3689ac9b2b05f38ba5d2b082ef2510ff982c48db2201dfbf52ce7", func := "loop.example/g00735/laws.FnExactAcctIdOk", spec := "fnExactAcctIdOk", apart := false, narrowed := true }
def FnExactAcctIdOkUptoSaid : Prop := fnExactAcctIdOkUptoRow.holds Try.pinned (OpenSpec.upto fnExactAcctIdOkSpec)

/-- 'laws.FnExactEventOk', WHERE WHAT IT READS IS OF BULK AT MOST 1048576: true; the input reads as it did. -/
def fnExactEventOkUptoRow : OpenClaim := { program := "ytbllcjgccpdbkaa", sum := "7d601e08a8e3689ac9b2b05f38ba5d2b082ef2510ff982c48db2201dfbf52ce7", func := "loop.example/g00735/laws.FnExactEventOk", spec := "fnExactEventOk", apart := false, narrowed := true }
def FnExactEventOkUptoSaid : Prop := fnExactEventOkUptoRow.holds Try.pinned (OpenSpec.upto fnExactEventOkSpec)

/-- 'laws.FnExactHoldAt', WHERE WHAT IT READS IS OF BULK AT MOST 1048576: true; the input reads as it did. -/
def fnExactHoldAtUptoRow : OpenClaim := { program := "ytbllcjgccpdbkaa", sum := "7d601e08a8e3689ac9b2b05f38ba5d2b082ef2510ff982c48db2201dfbf52ce7", func := "loop.example/g00735/laws.FnExactHoldAt", spec := "fnExactHoldAt", unfollowed := true, recurses := true, apart := false, narrowed := true }
def FnExactHoldAtUptoSaid : Prop := fnExactHoldAtUptoRow.holds Try.pinned (OpenSpec.upto fnExactHoldAtSpec)

/-- 'laws.FnExactSlotOk', WHERE WHAT IT READS IS OF BULK AT MOST 1048576: true; the input reads as it did. -/
def fnExactSlotOkUptoRow : OpenClaim := { program := "ytbllcjgccpdbkaa", sum := "7d601e08a8e3689ac9b2b05f38ba5d2b082ef2510ff982c48db2201dfbf52ce7", func := "loop.example/g00735/laws.FnExactSlotOk", spec := "fnExactSlotOk", apart := false, narrowed := true }
def FnExactSlotOkUptoSaid : Prop := fnExactSlotOkUptoRow.holds Try.pinned (OpenSpec.upto fnExactSlotOkSpec)

end Rows
end Go.Proofs.Ytbllcjgccpdbkaa
