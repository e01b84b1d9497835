-- by my own printer (myprint.py, over the kit's print.py)
import Derived.Test.YtohfefkjcnbejaaGreatDoorRows
import Derived.Test.YtohfefkjcnbejaaGreatDoorQFnExactReqOfx16
import Derived.Test.YtohfefkjcnbejaaGreatDoorPureFnExactReqOf
import Derived.Test.YtohfefkjcnbejaaGreatDoorOpenVFnExactReqOf
import Derived.WalkKit
import Derived.ProofKit
import Derived.OpenShut
import Derived.ShutString
import Derived.ChangeOld
import Derived.Below
import Derived.SizedLaws
import Derived.Carry
import Derived.LaidMore
import Derived.Lay
import Derived.Stop.LaidErr
import Derived.MakeChecks
import Derived.SevenTiedAt
import Derived.Test.YtohfefkjcnbejaaGreatDoorTie
import Derived.Test.YtohfefkjcnbejaaGreatDoorCards
namespace Go.Proofs.YtohfefkjcnbejaaGreatDoor.fnExactReqOf
open Go.ChangeShapes Go.WideShapes Go.ChangeAt Go.RowKit Go.Proofs.YtohfefkjcnbejaaGreatDoorW.PrintWords Go.Proofs.YtohfefkjcnbejaaGreatDoor.Opened Go.Proofs.YtohfefkjcnbejaaGreatDoor.QFnExactReqOf
open Go.ChangeMaps (open_string shut_string)
set_option linter.unusedVariables false
set_option linter.unusedSimpArgs false
theorem own : ownKnob Tryz.prog.godebug = none := by kernel_rfl
theorem laidOut : laidOutB Tryz.prog = true := by kernel_rfl
set_option maxRecDepth 100000 in
theorem opens90 : Opens Tryz.prog 90 k90 ok90 := by
  intro H enc w fuel cs r h
  obtain ⟨hl, m, hf⟩ := fields_of Tryz.underlying90 h
  have hl' : cs.length = 2 := hl.trans (by kernel_rfl)
  obtain ⟨r0, h0⟩ := hf 0 _ rfl
  replace h0 : DataW.trod enc Tryz.prog w 0 (fun _ => true) true m 3 ((cs.drop 0).take 1) = some r0 := by rw [← show Tryz.prog.cellsOf 3 = 1 from by kernel_rfl]; exact h0
  obtain ⟨x0, K0, o0⟩ := (opens_int Tryz.underlying3) _ _ _ _ _ _ h0
  obtain ⟨r1, h1⟩ := hf 1 _ rfl
  replace h1 : DataW.trod enc Tryz.prog w 0 (fun _ => true) true m 9 ((cs.drop 1).take 1) = some r1 := by rw [← show Tryz.prog.cellsOf 9 = 1 from by kernel_rfl]; exact h1
  obtain ⟨x1, K1, o1⟩ := (opens_string Tryz.underlying9) _ _ _ _ _ _ h1
  refine ⟨⟨x0, x1⟩, ?_, o0, o1⟩
  exact show _ from (chain_cons K0 rfl (chain_last K1 hl' rfl))
set_option maxRecDepth 100000 in
theorem opens24 : Opens Tryz.prog 24 k24 ok24 := by
  intro H enc w fuel cs r h
  obtain ⟨hl, m, hf⟩ := fields_of Tryz.underlying24 h
  have hl' : cs.length = 2 := hl.trans (by kernel_rfl)
  obtain ⟨r0, h0⟩ := hf 0 _ rfl
  replace h0 : DataW.trod enc Tryz.prog w 0 (fun _ => true) true m 9 ((cs.drop 0).take 1) = some r0 := by rw [← show Tryz.prog.cellsOf 9 = 1 from by kernel_rfl]; exact h0
  obtain ⟨x0, K0, o0⟩ := (opens_string Tryz.underlying9) _ _ _ _ _ _ h0
  obtain ⟨r1, h1⟩ := hf 1 _ rfl
  replace h1 : DataW.trod enc Tryz.prog w 0 (fun _ => true) true m 22 ((cs.drop 1).take 1) = some r1 := by rw [← show Tryz.prog.cellsOf 22 = 1 from by kernel_rfl]; exact h1
  obtain ⟨x1, K1, o1⟩ := (opens_slice Tryz.underlying22 (by kernel_rfl) opens90) _ _ _ _ _ _ h1
  refine ⟨⟨x0, x1⟩, ?_, o0, o1⟩
  exact show _ from (chain_cons K0 rfl (chain_last K1 hl' rfl))
set_option maxRecDepth 100000 in
theorem lifted (os : Os) (started : os.Started) (H : Type) (enc : TypeId × Value → H) :
    ReturnsInHanded {} Tryz.checked os 3 .any (fun w args => (Rows.fnExactReqOfSpec.pre enc Tryz.prog Tryz.f3 [] false w args ∧ laidMetH Tryz.prog Rows.fnExactReqOfRow.laid w) ∧ sizedMet enc Tryz.prog Tryz.f3 (OpenSpec.ofChange Rows.fnExactReqOfSpec) false w args)
      (Rows.fnExactReqOfSpec.post enc Tryz.prog Tryz.f3 false true false false) := by
  refine returnsInHanded_of_change_and (C := Tryz.checked) (X := fun w _ => laidMetH Tryz.prog Rows.fnExactReqOfRow.laid w) (fun _ _ _ hh h => h.of_heap hh) own started (by kernel_rfl) Tryz.func3
    (ChangeSpec.witness_shaped (enc := enc) (C := Tryz.checked) (os := os) (X := fun w _ => laidMetH Tryz.prog Rows.fnExactReqOfRow.laid w) false (World.laidAll Tryz.prog os Rows.fnExactReqOfRow.laid) #[.agg #[.string ByteArray.empty, .slice none 0 0]] 8 (World.laidAll_os _ _ _) (World.shaped_of_ZipB (by kernel_rfl) (by kernel_rfl)) (by kernel_rfl) (by kernel_rfl) (by kernel_rfl) (by rw [MakeChecks.laidMetH_plain _ _ _ (by kernel_rfl)]; exact laidMet_laidAll _ (by kernel_rfl) (by kernel_rfl))) ?_
  intro W base args ds gs before hval0 hW hcnd hsz0 hL _
  have hval : ∀ (j : Nat) t v, Tryz.f3.params[j]? = some t → args[j]? = some v → Value.okWide Tryz.prog W .any base t v := hval0
  have hW' := hW
  obtain ⟨p, q, hA0, hV, rfl, hfz, hnd⟩ := hW
  have hA : DataW.TrodAll enc Tryz.prog W 0 (fun _ => true) true Tryz.f3.params.toList args.toList ds p := hA0
  rw [Tryz.params3] at hA hval
  obtain ⟨v0, vs0, d0, ds0, p0, q0, hargs, rfl, rfl, h0, r0⟩ := trodAll_cons hA
  obtain ⟨rfl, rfl, rfl⟩ := trodAll_nil r0
  obtain rfl : args = #[v0] := by cases args; simp_all
  obtain ⟨rfl, rfl⟩ := trodVars_none hV
  have k0 := h0
  have lt0 : ∀ x ∈ p0, x.block < W.heap.size := by obtain ⟨m, hm⟩ := k0; exact DataW.trod_lt m _ _ _ hm
  obtain ⟨f0, hf0⟩ := h0
  obtain ⟨x0, K0, o0⟩ := opens24 _ _ _ _ _ _ hf0
  obtain ⟨arr0, rfl, _⟩ := okWide_struct Tryz.underlying24 (hval 0 24 v0 rfl rfl)
  obtain ⟨A0_1, c0_1, e0, l0_1, g0_1⟩ := k24_open K0
  obtain rfl : arr0 = #[.string x0.f0, .slice A0_1 x0.f1.length c0_1] := by
    apply Array.ext'
    exact e0
  clear hA0 hval0 hsz0
  obtain ⟨k, h⟩ := Pure.FnExactReqOf x0 o0
  refine (QFnExactReqOf.laws_FnExactReqOf.calls k x0.f0 _ _ x0.f1 true W g0_1 l0_1 h).mono ?_
  rintro e W' ⟨rfl, hd⟩
  have bel : Below W.heap.size W W' := hd
  exact ⟨_, rfl, _, _, _, [], _, [], hW', trodAll_mk1 (shut_bool Tryz.underlying4 _), (trodAll_cons_mk (Below.trod laidOut (by kernel_rfl) (of_decide_eq_true (by kernel_rfl)) k0 bel lt0) trodAll_mk0), rfl, bel.frame _, fun h => by cases h⟩
theorem over : Rows.fnExactReqOfRow.holds Tryz.pinned (OpenSpec.ofChange Rows.fnExactReqOfSpec) :=
  OpenClaim.holds_of_wide 3 Tryz.f3 rfl rfl rfl rfl rfl rfl rfl ⟨rfl, rfl, rfl, rfl, rfl⟩ rfl rfl rfl rfl rfl (by kernel_rfl) Tryz.func3 (by kernel_rfl)
    (of_decide_eq_true (by kernel_rfl)) (by unfold Func.isWrapper; first | (rw [if_pos (by decide +kernel)]; kernel_rfl) | (rw [if_neg (by decide +kernel)]; exact ⟨rfl, rfl⟩))
    (fun os started H enc _ => lifted os started H enc)
theorem proved : Rows.FnExactReqOfSaid := over
/-- The row with what it lists tied to the program's text. -/
theorem carded : Rows.FnExactReqOfCardSaid :=
  Claim7.holds_tied_plain_at .later [] [.data, .data, .data, .data, .sentinel, .sentinel, .pinned] true (true, "112b7a1d4d4b9ea72080f5b83574afbf194a323494579d1774c8b83e1d2e182d") true
    proved (fun _ h => by cases h) (by kernel_rfl) (fun _ h => by cases h) fnExactReqOf_row_tie rfl ⟨rfl, rfl⟩ (by kernel_rfl) rfl
    (fun f fn hf hfn => by
      obtain rfl : f = 3 := Option.some.inj ((show Tryz.prog.funcNamed "loop.example/g00735/laws.FnExactReqOf" = some 3 by kernel_rfl).symm.trans hf) |>.symm
      obtain rfl : fn = Tryz.f3 := (Option.some.inj (Tryz.func3.symm.trans hfn)).symm
      exact ⟨by kernel_rfl, fun j t ht => by
        rw [Tryz.params3] at ht
        have hm : t ∈ (Tryz.f3.params.toList : List TypeId) := by rw [Tryz.params3]; simpa using Array.mem_of_getElem? ht
        have hall : ((Tryz.f3.params.toList : List TypeId).all fun u => !Tryz.prog.wantsStandIn u) = true := by kernel_rfl
        exact (show Tryz.prog.wantsStandIn t = false by simpa using List.all_eq_true.1 hall t hm)⟩)
    (by kernel_rfl)
#print axioms carded
end Go.Proofs.YtohfefkjcnbejaaGreatDoor.fnExactReqOf
namespace Go.Proofs.YtohfefkjcnbejaaGreatDoor
/-- The row, under a short name, for the claim. -/
theorem fnExactReqOf_card : Rows.FnExactReqOfCardSaid := fnExactReqOf.carded
end Go.Proofs.YtohfefkjcnbejaaGreatDoor
