/-
  No cell of these rows narrows 'for every input' (looked for: loops, veiled, ifaces, maps, wideKeys, modest, calm, conditions, laid).
  DERIVED. THE GIVEN ROWS OF THIS SEAT. 12 by the template 'for every input the law returns true; each argument reads behind the call as it read before'; 0 by the template 'total and deterministic' (their statements: YtninpllnlhlclaaTotals.lean).
  GIVEN WITH THE SEED: the statements are not yours to turn. If you find one false, say at which input.
  Laid BY PROGRAM, IN A SANDBOX (cutbox-rows.mjs): the forced cells as the released guide's own fill.sh prints them over the translation 6f7bcd136314a42e… (all of the seat's roots in one cut). By AI agents, Wed Nov 11 2026. No macro, syntax, notation, axiom, sorry.
-/
import Derived.Test.YtninpllnlhlclaaChecked
import GoSem.Claim
import GoSem.ClaimJoined
import GoSem.ClaimMapViews
import Derived.JoinedTies
import Derived.KernelRfl
namespace Go.Proofs.Ytninpllnlhlclaa
/- THE CELL 'sum', in the pinned program and in every row, IS THE sha256 OF THE DUMP (.gsa) THAT YtninpllnlhlclaaProg.lean LOADS. Nothing in Lean hashes anything: it is a label: what it is worth is what the hold of that sum in a sandbox is worth. -/
noncomputable def Try.pinned : Pinned := { name := "ytninpllnlhlclaa", sum := "6f7bcd136314a42eb5a7964023b62189732870c72b01b274e26cad2a68f378fa", checked := Try.checked }
namespace Rows
def none {H : Type} : Left H := { results := [], args := [] }

/-- 'laws.FnExactHoldsOk': WHATEVER THE INPUT: true; the input reads as it did. -/
def fnExactHoldsOkSpec : ChangeSpec := { name := "fnExactHoldsOk", fn := fun _ => fun
  | [d] => { results := [.lit (.bool true)], args := [d] }
  | _ => none }
def fnExactHoldsOkRow : OpenClaim := { program := "ytninpllnlhlclaa", sum := "6f7bcd136314a42eb5a7964023b62189732870c72b01b274e26cad2a68f378fa", func := "loop.example/g00735/laws.FnExactHoldsOk", spec := "fnExactHoldsOk", apart := false }
def FnExactHoldsOkSaid : Prop := fnExactHoldsOkRow.holds Try.pinned (OpenSpec.ofChange fnExactHoldsOkSpec)

/-- ITS FALSE NEIGHBOUR: 'it returns false'. Refute it at one input. -/
def fnExactHoldsOkWrong : ChangeSpec := { name := "fnExactHoldsOk", fn := fun _ => fun
  | [d] => { results := [.lit (.bool false)], args := [d] }
  | _ => none }
def FnExactHoldsOkWrongFalsely : Prop := fnExactHoldsOkRow.holds Try.pinned (OpenSpec.ofChange fnExactHoldsOkWrong)

/-- 'laws.FnExactStored': WHATEVER THE INPUT: true; the input reads as it did. -/
def fnExactStoredSpec : ChangeSpec := { name := "fnExactStored", fn := fun _ => fun
  | [d] => { results := [.lit (.bool true)], args := [d] }
  | _ => none }
def fnExactStoredRow : OpenClaim := { program := "ytninpllnlhlclaa", sum := "6f7bcd136314a42eb5a7964023b62189732870c72b01b274e26cad2a68f378fa", func := "loop.example/g00735/laws.FnExactStored", spec := "fnExactStored", apart := false }
def FnExactStoredSaid : Prop := fnExactStoredRow.holds Try.pinned (OpenSpec.ofChange fnExactStoredSpec)

/-- ITS FALSE NEIGHBOUR: 'it returns false'. Refute it at one input. -/
def fnExactStoredWrong : ChangeSpec := { name := "fnExactStored", fn := fun _ => fun
  | [d] => { results := [.lit (.bool false)], args := [d] }
  | _ => none }
def FnExactStoredWrongFalsely : Prop := fnExactStoredRow.holds Try.pinned (OpenSpec.ofChange fnExactStoredWrong)

/-- 'laws.FnExactBefore': WHATEVER THE INPUT: true; the input reads as it did. -/
def fnExactBeforeSpec : ChangeSpec := { name := "fnExactBefore", fn := fun _ => fun
  | [d1, d2] => { results := [.lit (.bool true)], args := [d1, d2] }
  | _ => none }
def fnExactBeforeRow : OpenClaim := { program := "ytninpllnlhlclaa", sum := "6f7bcd136314a42eb5a7964023b62189732870c72b01b274e26cad2a68f378fa", func := "loop.example/g00735/laws.FnExactBefore", spec := "fnExactBefore", apart := false }
def FnExactBeforeSaid : Prop := fnExactBeforeRow.holds Try.pinned (OpenSpec.ofChange fnExactBeforeSpec)

/-- ITS FALSE NEIGHBOUR: 'it returns false'. Refute it at one input. -/
def fnExactBeforeWrong : ChangeSpec := { name := "fnExactBefore", fn := fun _ => fun
  | [d1, d2] => { results := [.lit (.bool false)], args := [d1, d2] }
  | _ => none }
def FnExactBeforeWrongFalsely : Prop := fnExactBeforeRow.holds Try.pinned (OpenSpec.ofChange fnExactBeforeWrong)

/-- 'laws.FnExactWantsStripe': WHATEVER THE INPUT: true; the input reads as it did. -/
def fnExactWantsStripeSpec : ChangeSpec := { name := "fnExactWantsStripe", fn := fun _ => fun
  | [d] => { results := [.lit (.bool true)], args := [d] }
  | _ => none }
def fnExactWantsStripeRow : OpenClaim := { program := "ytninpllnlhlclaa", sum := "6f7bcd136314a42eb5a7964023b62189732870c72b01b274e26cad2a68f378fa", func := "loop.example/g00735/laws.FnExactWantsStripe", spec := "fnExactWantsStripe", apart := false }
def FnExactWantsStripeSaid : Prop := fnExactWantsStripeRow.holds Try.pinned (OpenSpec.ofChange fnExactWantsStripeSpec)

/-- ITS FALSE NEIGHBOUR: 'it returns false'. Refute it at one input. -/
def fnExactWantsStripeWrong : ChangeSpec := { name := "fnExactWantsStripe", fn := fun _ => fun
  | [d] => { results := [.lit (.bool false)], args := [d] }
  | _ => none }
def FnExactWantsStripeWrongFalsely : Prop := fnExactWantsStripeRow.holds Try.pinned (OpenSpec.ofChange fnExactWantsStripeWrong)

/-- 'laws.FnExactSlotsSame': WHATEVER THE INPUT: true; the input reads as it did. -/
def fnExactSlotsSameSpec : ChangeSpec := { name := "fnExactSlotsSame", fn := fun _ => fun
  | [d1, d2] => { results := [.lit (.bool true)], args := [d1, d2] }
  | _ => none }
def fnExactSlotsSameRow : OpenClaim := { program := "ytninpllnlhlclaa", sum := "6f7bcd136314a42eb5a7964023b62189732870c72b01b274e26cad2a68f378fa", func := "loop.example/g00735/laws.FnExactSlotsSame", spec := "fnExactSlotsSame", unfollowed := true, recurses := true, apart := false }
def FnExactSlotsSameSaid : Prop := fnExactSlotsSameRow.holds Try.pinned (OpenSpec.ofChange fnExactSlotsSameSpec)

/-- ITS FALSE NEIGHBOUR: 'it returns false'. Refute it at one input. -/
def fnExactSlotsSameWrong : ChangeSpec := { name := "fnExactSlotsSame", fn := fun _ => fun
  | [d1, d2] => { results := [.lit (.bool false)], args := [d1, d2] }
  | _ => none }
def FnExactSlotsSameWrongFalsely : Prop := fnExactSlotsSameRow.holds Try.pinned (OpenSpec.ofChange fnExactSlotsSameWrong)

/-- 'laws.FnExactHasStripe': WHATEVER THE INPUT: true; the input reads as it did. -/
def fnExactHasStripeSpec : ChangeSpec := { name := "fnExactHasStripe", fn := fun _ => fun
  | [d1, d2] => { results := [.lit (.bool true)], args := [d1, d2] }
  | _ => none }
def fnExactHasStripeRow : OpenClaim := { program := "ytninpllnlhlclaa", sum := "6f7bcd136314a42eb5a7964023b62189732870c72b01b274e26cad2a68f378fa", func := "loop.example/g00735/laws.FnExactHasStripe", spec := "fnExactHasStripe", apart := false }
def FnExactHasStripeSaid : Prop := fnExactHasStripeRow.holds Try.pinned (OpenSpec.ofChange fnExactHasStripeSpec)

/-- ITS FALSE NEIGHBOUR: 'it returns false'. Refute it at one input. -/
def fnExactHasStripeWrong : ChangeSpec := { name := "fnExactHasStripe", fn := fun _ => fun
  | [d1, d2] => { results := [.lit (.bool false)], args := [d1, d2] }
  | _ => none }
def FnExactHasStripeWrongFalsely : Prop := fnExactHasStripeRow.holds Try.pinned (OpenSpec.ofChange fnExactHasStripeWrong)

/-- 'laws.FnExactTaskSame': WHATEVER THE INPUT: true; the input reads as it did. -/
def fnExactTaskSameSpec : ChangeSpec := { name := "fnExactTaskSame", fn := fun _ => fun
  | [d1, d2] => { results := [.lit (.bool true)], args := [d1, d2] }
  | _ => none }
def fnExactTaskSameRow : OpenClaim := { program := "ytninpllnlhlclaa", sum := "6f7bcd136314a42eb5a7964023b62189732870c72b01b274e26cad2a68f378fa", func := "loop.example/g00735/laws.FnExactTaskSame", spec := "fnExactTaskSame", apart := false }
def FnExactTaskSameSaid : Prop := fnExactTaskSameRow.holds Try.pinned (OpenSpec.ofChange fnExactTaskSameSpec)

/-- ITS FALSE NEIGHBOUR: 'it returns false'. Refute it at one input. -/
def fnExactTaskSameWrong : ChangeSpec := { name := "fnExactTaskSame", fn := fun _ => fun
  | [d1, d2] => { results := [.lit (.bool false)], args := [d1, d2] }
  | _ => none }
def FnExactTaskSameWrongFalsely : Prop := fnExactTaskSameRow.holds Try.pinned (OpenSpec.ofChange fnExactTaskSameWrong)

/-- 'laws.FnExactTaskNew': WHATEVER THE INPUT: true; the input reads as it did. -/
def fnExactTaskNewSpec : ChangeSpec := { name := "fnExactTaskNew", fn := fun _ => fun
  | [d1, d2] => { results := [.lit (.bool true)], args := [d1, d2] }
  | _ => none }
def fnExactTaskNewRow : OpenClaim := { program := "ytninpllnlhlclaa", sum := "6f7bcd136314a42eb5a7964023b62189732870c72b01b274e26cad2a68f378fa", func := "loop.example/g00735/laws.FnExactTaskNew", spec := "fnExactTaskNew", apart := false }
def FnExactTaskNewSaid : Prop := fnExactTaskNewRow.holds Try.pinned (OpenSpec.ofChange fnExactTaskNewSpec)

/-- ITS FALSE NEIGHBOUR: 'it returns false'. Refute it at one input. -/
def fnExactTaskNewWrong : ChangeSpec := { name := "fnExactTaskNew", fn := fun _ => fun
  | [d1, d2] => { results := [.lit (.bool false)], args := [d1, d2] }
  | _ => none }
def FnExactTaskNewWrongFalsely : Prop := fnExactTaskNewRow.holds Try.pinned (OpenSpec.ofChange fnExactTaskNewWrong)

/-- 'laws.FnExactHoldDrop': WHATEVER THE INPUT: true; the input reads as it did. -/
def fnExactHoldDropSpec : ChangeSpec := { name := "fnExactHoldDrop", fn := fun _ => fun
  | [d1, d2] => { results := [.lit (.bool true)], args := [d1, d2] }
  | _ => none }
def fnExactHoldDropRow : OpenClaim := { program := "ytninpllnlhlclaa", sum := "6f7bcd136314a42eb5a7964023b62189732870c72b01b274e26cad2a68f378fa", func := "loop.example/g00735/laws.FnExactHoldDrop", spec := "fnExactHoldDrop", unfollowed := true, recurses := true, apart := false }
def FnExactHoldDropSaid : Prop := fnExactHoldDropRow.holds Try.pinned (OpenSpec.ofChange fnExactHoldDropSpec)

/-- ITS FALSE NEIGHBOUR: 'it returns false'. Refute it at one input. -/
def fnExactHoldDropWrong : ChangeSpec := { name := "fnExactHoldDrop", fn := fun _ => fun
  | [d1, d2] => { results := [.lit (.bool false)], args := [d1, d2] }
  | _ => none }
def FnExactHoldDropWrongFalsely : Prop := fnExactHoldDropRow.holds Try.pinned (OpenSpec.ofChange fnExactHoldDropWrong)

/-- 'laws.FnExactLiveOnes': WHATEVER THE INPUT: true; the input reads as it did. -/
def fnExactLiveOnesSpec : ChangeSpec := { name := "fnExactLiveOnes", fn := fun _ => fun
  | [d1, d2] => { results := [.lit (.bool true)], args := [d1, d2] }
  | _ => none }
def fnExactLiveOnesRow : OpenClaim := { program := "ytninpllnlhlclaa", sum := "6f7bcd136314a42eb5a7964023b62189732870c72b01b274e26cad2a68f378fa", func := "loop.example/g00735/laws.FnExactLiveOnes", spec := "fnExactLiveOnes", unfollowed := true, recurses := true, apart := false }
def FnExactLiveOnesSaid : Prop := fnExactLiveOnesRow.holds Try.pinned (OpenSpec.ofChange fnExactLiveOnesSpec)

/-- ITS FALSE NEIGHBOUR: 'it returns false'. Refute it at one input. -/
def fnExactLiveOnesWrong : ChangeSpec := { name := "fnExactLiveOnes", fn := fun _ => fun
  | [d1, d2] => { results := [.lit (.bool false)], args := [d1, d2] }
  | _ => none }
def FnExactLiveOnesWrongFalsely : Prop := fnExactLiveOnesRow.holds Try.pinned (OpenSpec.ofChange fnExactLiveOnesWrong)

/-- 'laws.FnExactSlotsOk': WHATEVER THE INPUT: true; the input reads as it did. -/
def fnExactSlotsOkSpec : ChangeSpec := { name := "fnExactSlotsOk", fn := fun _ => fun
  | [d] => { results := [.lit (.bool true)], args := [d] }
  | _ => none }
def fnExactSlotsOkRow : OpenClaim := { program := "ytninpllnlhlclaa", sum := "6f7bcd136314a42eb5a7964023b62189732870c72b01b274e26cad2a68f378fa", func := "loop.example/g00735/laws.FnExactSlotsOk", spec := "fnExactSlotsOk", unfollowed := true, recurses := true, apart := false }
def FnExactSlotsOkSaid : Prop := fnExactSlotsOkRow.holds Try.pinned (OpenSpec.ofChange fnExactSlotsOkSpec)

/-- ITS FALSE NEIGHBOUR: 'it returns false'. Refute it at one input. -/
def fnExactSlotsOkWrong : ChangeSpec := { name := "fnExactSlotsOk", fn := fun _ => fun
  | [d] => { results := [.lit (.bool false)], args := [d] }
  | _ => none }
def FnExactSlotsOkWrongFalsely : Prop := fnExactSlotsOkRow.holds Try.pinned (OpenSpec.ofChange fnExactSlotsOkWrong)

/-- 'laws.FnExactLiveSum': WHATEVER THE INPUT: true; the input reads as it did. -/
def fnExactLiveSumSpec : ChangeSpec := { name := "fnExactLiveSum", fn := fun _ => fun
  | [d1, d2] => { results := [.lit (.bool true)], args := [d1, d2] }
  | _ => none }
def fnExactLiveSumRow : OpenClaim := { program := "ytninpllnlhlclaa", sum := "6f7bcd136314a42eb5a7964023b62189732870c72b01b274e26cad2a68f378fa", func := "loop.example/g00735/laws.FnExactLiveSum", spec := "fnExactLiveSum", unfollowed := true, recurses := true, apart := false }
def FnExactLiveSumSaid : Prop := fnExactLiveSumRow.holds Try.pinned (OpenSpec.ofChange fnExactLiveSumSpec)

/-- ITS FALSE NEIGHBOUR: 'it returns false'. Refute it at one input. -/
def fnExactLiveSumWrong : ChangeSpec := { name := "fnExactLiveSum", fn := fun _ => fun
  | [d1, d2] => { results := [.lit (.bool false)], args := [d1, d2] }
  | _ => none }
def FnExactLiveSumWrongFalsely : Prop := fnExactLiveSumRow.holds Try.pinned (OpenSpec.ofChange fnExactLiveSumWrong)

/- THE SECOND FORM. 'bulk': how many values and letters a reading holds, each counted each time it is reached (what is shared counts as often as it is met; a slice's spare places count too). A statement '..UptoSaid' is the law's where the arguments, and the package variables that the reading takes, are together of bulk at most 1048576: NARROWER than '..Said'. Prove '..Said' where nothing that the law and all that it calls make is longer than what came in: it says more and counts as full. Else prove '..UptoSaid'. A law counts once. -/
mutual
def uptoBulk {H : Type} : DataW H → Nat
  | .lit (.string bytes) => bytes.length + 1
  | .lit _ => 1
  | .nil => 1
  | .ptr d => uptoBulk d + 1
  | .slice elems spare => uptoBulkAll elems + uptoBulkAll spare + 1
  | .agg parts => uptoBulkAll parts + 1
  | .iface _ d => uptoBulk d + 1
  | .map entries => uptoBulkEntries entries + 1
  | .held _ => 1
def uptoBulkAll {H : Type} : List (DataW H) → Nat
  | [] => 0
  | d :: r => uptoBulk d + uptoBulkAll r
def uptoBulkEntries {H : Type} : List (Lit × DataW H) → Nat
  | [] => 0
  | x :: r => uptoBulkEntry x + uptoBulkEntries r
def uptoBulkEntry {H : Type} : Lit × DataW H → Nat
  | (.string bytes, d) => bytes.length + uptoBulk d + 1
  | (_, d) => uptoBulk d + 1
 end
def uptoSmall : (H : Type) → List (DataW H) → Bool := fun _ ds => decide (uptoBulkAll ds ≤ 1048576)
def OpenSpec.upto (s : _root_.Go.ChangeSpec) : _root_.Go.OpenSpec := { _root_.Go.OpenSpec.ofChange s with cond := some uptoSmall }

/-- 'laws.FnExactHoldsOk', WHERE WHAT IT READS IS OF BULK AT MOST 1048576: true; the input reads as it did. -/
def fnExactHoldsOkUptoRow : OpenClaim := { program := "ytninpllnlhlclaa", sum := "6f7bcd136314a42eb5a7964023b62189732870c72b01b274e26cad2a68f378fa", func := "loop.example/g00735/laws.FnExactHoldsOk", spec := "fnExactHoldsOk", apart := false, narrowed := true }
def FnExactHoldsOkUptoSaid : Prop := fnExactHoldsOkUptoRow.holds Try.pinned (OpenSpec.upto fnExactHoldsOkSpec)

/-- 'laws.FnExactStored', WHERE WHAT IT READS IS OF BULK AT MOST 1048576: true; the input reads as it did. -/
def fnExactStoredUptoRow : OpenClaim := { program := "ytninpllnlhlclaa", sum := "6f7bcd136314a42eb5a7964023b62189732870c72b01b274e26cad2a68f378fa", func := "loop.example/g00735/laws.FnExactStored", spec := "fnExactStored", apart := false, narrowed := true }
def FnExactStoredUptoSaid : Prop := fnExactStoredUptoRow.holds Try.pinned (OpenSpec.upto fnExactStoredSpec)

/-- 'laws.FnExactBefore', WHERE WHAT IT READS IS OF BULK AT MOST 1048576: true; the input reads as it did. -/
def fnExactBeforeUptoRow : OpenClaim := { program := "ytninpllnlhlclaa", sum := "6f7bcd136314a42eb5a7964023b62189732870c72b01b274e26cad2a68f378fa", func := "loop.example/g00735/laws.FnExactBefore", spec := "fnExactBefore", apart := false, narrowed := true }
def FnExactBeforeUptoSaid : Prop := fnExactBeforeUptoRow.holds Try.pinned (OpenSpec.upto fnExactBeforeSpec)

/-- 'laws.FnExactWantsStripe', WHERE WHAT IT READS IS OF BULK AT MOST 1048576: true; the input reads as it did. -/
def fnExactWantsStripeUptoRow : OpenClaim := { program := "ytninpllnlhlclaa", sum := "6f7bcd136314a42eb5a7964023b62189732870c72b01b274e26cad2a68f378fa", func := "loop.example/g00735/laws.FnExactWantsStripe", spec := "fnExactWantsStripe", apart := false, narrowed := true }
def FnExactWantsStripeUptoSaid : Prop := fnExactWantsStripeUptoRow.holds Try.pinned (OpenSpec.upto fnExactWantsStripeSpec)

/-- 'laws.FnExactSlotsSame', WHERE WHAT IT READS IS OF BULK AT MOST 1048576: true; the input reads as it did. -/
def fnExactSlotsSameUptoRow : OpenClaim := { program := "ytninpllnlhlclaa", sum := "6f7bcd136314a42eb5a7964023b62189732870c72b01b274e26cad2a68f378fa", func := "loop.example/g00735/laws.FnExactSlotsSame", spec := "fnExactSlotsSame", unfollowed := true, recurses := true, apart := false, narrowed := true }
def FnExactSlotsSameUptoSaid : Prop := fnExactSlotsSameUptoRow.holds Try.pinned (OpenSpec.upto fnExactSlotsSameSpec)

/-- 'laws.FnExactHasStripe', WHERE WHAT IT READS IS OF BULK AT MOST 1048576: true; the input reads as it did. -/
def fnExactHasStripeUptoRow : OpenClaim := { program := "ytninpllnlhlclaa", sum := "6f7bcd136314a42eb5a7964023b62189732870c72b01b274e26cad2a68f378fa", func := "loop.example/g00735/laws.FnExactHasStripe", spec := "fnExactHasStripe", apart := false, narrowed := true }
def FnExactHasStripeUptoSaid : Prop := fnExactHasStripeUptoRow.holds Try.pinned (OpenSpec.upto fnExactHasStripeSpec)

/-- 'laws.FnExactTaskSame', WHERE WHAT IT READS IS OF BULK AT MOST 1048576: true; the input reads as it did. -/
def fnExactTaskSameUptoRow : OpenClaim := { program := "ytninpllnlhlclaa", sum := "6f7bcd136314a42eb5a7964023b62189732870c72b01b274e26cad2a68f378fa", func := "loop.example/g00735/laws.FnExactTaskSame", spec := "fnExactTaskSame", apart := false, narrowed := true }
def FnExactTaskSameUptoSaid : Prop := fnExactTaskSameUptoRow.holds Try.pinned (OpenSpec.upto fnExactTaskSameSpec)

/-- 'laws.FnExactTaskNew', WHERE WHAT IT READS IS OF BULK AT MOST 1048576: true; the input reads as it did. -/
def fnExactTaskNewUptoRow : OpenClaim := { program := "ytninpllnlhlclaa", sum := "6f7bcd136314a42eb5a7964023b62189732870c72b01b274e26cad2a68f378fa", func := "loop.example/g00735/laws.FnExactTaskNew", spec := "fnExactTaskNew", apart := false, narrowed := true }
def FnExactTaskNewUptoSaid : Prop := fnExactTaskNewUptoRow.holds Try.pinned (OpenSpec.upto fnExactTaskNewSpec)

/-- 'laws.FnExactHoldDrop', WHERE WHAT IT READS IS OF BULK AT MOST 1048576: true; the input reads as it did. -/
def fnExactHoldDropUptoRow : OpenClaim := { program := "ytninpllnlhlclaa", sum := "6f7bcd136314a42eb5a7964023b62189732870c72b01b274e26cad2a68f378fa", func := "loop.example/g00735/laws.FnExactHoldDrop", spec := "fnExactHoldDrop", unfollowed := true, recurses := true, apart := false, narrowed := true }
def FnExactHoldDropUptoSaid : Prop := fnExactHoldDropUptoRow.holds Try.pinned (OpenSpec.upto fnExactHoldDropSpec)

/-- 'laws.FnExactLiveOnes', WHERE WHAT IT READS IS OF BULK AT MOST 1048576: true; the input reads as it did. -/
def fnExactLiveOnesUptoRow : OpenClaim := { program := "ytninpllnlhlclaa", sum := "6f7bcd136314a42eb5a7964023b62189732870c72b01b274e26cad2a68f378fa", func := "loop.example/g00735/laws.FnExactLiveOnes", spec := "fnExactLiveOnes", unfollowed := true, recurses := true, apart := false, narrowed := true }
def FnExactLiveOnesUptoSaid : Prop := fnExactLiveOnesUptoRow.holds Try.pinned (OpenSpec.upto fnExactLiveOnesSpec)

/-- 'laws.FnExactSlotsOk', WHERE WHAT IT READS IS OF BULK AT MOST 1048576: true; the input reads as it did. -/
def fnExactSlotsOkUptoRow : OpenClaim := { program := "ytninpllnlhlclaa", sum := "6f7bcd136314a42eb5a7964023b62189732870c72b01b274e26cad2a68f378fa", func := "loop.example/g00735/laws.FnExactSlotsOk", spec := "fnExactSlotsOk", unfollowed := true, recurses := true, apart := false, narrowed := true }
def FnExactSlotsOkUptoSaid : Prop := fnExactSlotsOkUptoRow.holds Try.pinned (OpenSpec.upto fnExactSlotsOkSpec)

/-- 'laws.FnExactLiveSum', WHERE WHAT IT READS IS OF BULK AT MOST 1048576: true; the input reads as it did. -/
def fnExactLiveSumUptoRow : OpenClaim := { program := "ytninpllnlhlclaa", sum := "6f7bcd136314a42eb5a7964023b62189732870c72b01b274e26cad2a68f378fa", func := "loop.example/g00735/laws.FnExactLiveSum", spec := "fnExactLiveSum", unfollowed := true, recurses := true, apart := false, narrowed := true }
def FnExactLiveSumUptoSaid : Prop := fnExactLiveSumUptoRow.holds Try.pinned (OpenSpec.upto fnExactLiveSumSpec)

end Rows
end Go.Proofs.Ytninpllnlhlclaa
