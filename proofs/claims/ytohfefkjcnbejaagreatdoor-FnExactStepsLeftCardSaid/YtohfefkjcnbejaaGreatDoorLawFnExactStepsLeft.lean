-- by my own printer (myprint.py, over the kit's print.py)
import Derived.Test.YtohfefkjcnbejaaGreatDoorRows
import Derived.Test.YtohfefkjcnbejaaGreatDoorQFnExactStepsLeftx5
import Derived.Test.YtohfefkjcnbejaaGreatDoorPureFnExactStepsLeft
import Derived.Test.YtohfefkjcnbejaaGreatDoorOpenVFnExactStepsLeft
import Derived.WalkKit
import Derived.ProofKit
import Derived.OpenShut
import Derived.ShutString
import Derived.ChangeOld
import Derived.Below
import Derived.SizedLaws
import Derived.Carry
import Derived.LaidMore
import Derived.Lay
import Derived.Stop.LaidErr
import Derived.MakeChecks
import Derived.SevenTiedAt
import Derived.Test.YtohfefkjcnbejaaGreatDoorTie
import Derived.Test.YtohfefkjcnbejaaGreatDoorCards
namespace Go.Proofs.YtohfefkjcnbejaaGreatDoor.fnExactStepsLeft
open Go.ChangeShapes Go.WideShapes Go.ChangeAt Go.RowKit Go.Proofs.YtohfefkjcnbejaaGreatDoorW.PrintWords Go.Proofs.YtohfefkjcnbejaaGreatDoor.Opened Go.Proofs.YtohfefkjcnbejaaGreatDoor.QFnExactStepsLeft
open Go.ChangeMaps (open_string shut_string)
set_option linter.unusedVariables false
set_option linter.unusedSimpArgs false
theorem own : ownKnob Tryz.prog.godebug = none := by kernel_rfl
theorem laidOut : laidOutB Tryz.prog = true := by kernel_rfl
set_option maxRecDepth 100000 in
theorem opens48 : Opens Tryz.prog 48 k48 ok48 := by
  intro H enc w fuel cs r h
  obtain ⟨hl, m, hf⟩ := fields_of Tryz.underlying48 h
  have hl' : cs.length = 9 := hl.trans (by kernel_rfl)
  obtain ⟨r0, h0⟩ := hf 0 _ rfl
  replace h0 : DataW.trod enc Tryz.prog w 0 (fun _ => true) true m 37 ((cs.drop 0).take 1) = some r0 := by rw [← show Tryz.prog.cellsOf 37 = 1 from by kernel_rfl]; exact h0
  obtain ⟨x0, K0, o0⟩ := (opens_slice Tryz.underlying37 (by kernel_rfl) (opens_int Tryz.underlying5)) _ _ _ _ _ _ h0
  obtain ⟨r1, h1⟩ := hf 1 _ rfl
  replace h1 : DataW.trod enc Tryz.prog w 0 (fun _ => true) true m 3 ((cs.drop 1).take 1) = some r1 := by rw [← show Tryz.prog.cellsOf 3 = 1 from by kernel_rfl]; exact h1
  obtain ⟨x1, K1, o1⟩ := (opens_int Tryz.underlying3) _ _ _ _ _ _ h1
  obtain ⟨r2, h2⟩ := hf 2 _ rfl
  replace h2 : DataW.trod enc Tryz.prog w 0 (fun _ => true) true m 46 ((cs.drop 2).take 1) = some r2 := by rw [← show Tryz.prog.cellsOf 46 = 1 from by kernel_rfl]; exact h2
  obtain ⟨x2, K2, o2⟩ := (opens_slice Tryz.underlying46 (by kernel_rfl) (opens_int Tryz.underlying3)) _ _ _ _ _ _ h2
  obtain ⟨r3, h3⟩ := hf 3 _ rfl
  replace h3 : DataW.trod enc Tryz.prog w 0 (fun _ => true) true m 3 ((cs.drop 3).take 1) = some r3 := by rw [← show Tryz.prog.cellsOf 3 = 1 from by kernel_rfl]; exact h3
  obtain ⟨x3, K3, o3⟩ := (opens_int Tryz.underlying3) _ _ _ _ _ _ h3
  obtain ⟨r4, h4⟩ := hf 4 _ rfl
  replace h4 : DataW.trod enc Tryz.prog w 0 (fun _ => true) true m 3 ((cs.drop 4).take 1) = some r4 := by rw [← show Tryz.prog.cellsOf 3 = 1 from by kernel_rfl]; exact h4
  obtain ⟨x4, K4, o4⟩ := (opens_int Tryz.underlying3) _ _ _ _ _ _ h4
  obtain ⟨r5, h5⟩ := hf 5 _ rfl
  replace h5 : DataW.trod enc Tryz.prog w 0 (fun _ => true) true m 3 ((cs.drop 5).take 1) = some r5 := by rw [← show Tryz.prog.cellsOf 3 = 1 from by kernel_rfl]; exact h5
  obtain ⟨x5, K5, o5⟩ := (opens_int Tryz.underlying3) _ _ _ _ _ _ h5
  obtain ⟨r6, h6⟩ := hf 6 _ rfl
  replace h6 : DataW.trod enc Tryz.prog w 0 (fun _ => true) true m 3 ((cs.drop 6).take 1) = some r6 := by rw [← show Tryz.prog.cellsOf 3 = 1 from by kernel_rfl]; exact h6
  obtain ⟨x6, K6, o6⟩ := (opens_int Tryz.underlying3) _ _ _ _ _ _ h6
  obtain ⟨r7, h7⟩ := hf 7 _ rfl
  replace h7 : DataW.trod enc Tryz.prog w 0 (fun _ => true) true m 3 ((cs.drop 7).take 1) = some r7 := by rw [← show Tryz.prog.cellsOf 3 = 1 from by kernel_rfl]; exact h7
  obtain ⟨x7, K7, o7⟩ := (opens_int Tryz.underlying3) _ _ _ _ _ _ h7
  obtain ⟨r8, h8⟩ := hf 8 _ rfl
  replace h8 : DataW.trod enc Tryz.prog w 0 (fun _ => true) true m 37 ((cs.drop 8).take 1) = some r8 := by rw [← show Tryz.prog.cellsOf 37 = 1 from by kernel_rfl]; exact h8
  obtain ⟨x8, K8, o8⟩ := (opens_slice Tryz.underlying37 (by kernel_rfl) (opens_int Tryz.underlying5)) _ _ _ _ _ _ h8
  refine ⟨⟨x0, x1, x2, x3, x4, x5, x6, x7, x8⟩, ?_, o0, o1, o2, o3, o4, o5, o6, o7, o8⟩
  exact show _ from (chain_cons K0 rfl (chain_cons K1 rfl (chain_cons K2 rfl (chain_cons K3 rfl (chain_cons K4 rfl (chain_cons K5 rfl (chain_cons K6 rfl (chain_cons K7 rfl (chain_last K8 hl' rfl)))))))))
set_option maxRecDepth 100000 in
theorem lifted (os : Os) (started : os.Started) (H : Type) (enc : TypeId × Value → H) :
    ReturnsInHanded {} Tryz.checked os 7 .any (fun w args => (Rows.fnExactStepsLeftSpec.pre enc Tryz.prog Tryz.f7 [] false w args ∧ laidMetH Tryz.prog Rows.fnExactStepsLeftRow.laid w) ∧ sizedMet enc Tryz.prog Tryz.f7 (OpenSpec.ofChange Rows.fnExactStepsLeftSpec) false w args)
      (Rows.fnExactStepsLeftSpec.post enc Tryz.prog Tryz.f7 false true false false) := by
  refine returnsInHanded_of_change_and (C := Tryz.checked) (X := fun w _ => laidMetH Tryz.prog Rows.fnExactStepsLeftRow.laid w) (fun _ _ _ hh h => h.of_heap hh) own started (by kernel_rfl) Tryz.func7
    (ChangeSpec.witness_shaped (enc := enc) (C := Tryz.checked) (os := os) (X := fun w _ => laidMetH Tryz.prog Rows.fnExactStepsLeftRow.laid w) false (World.laidAll Tryz.prog os Rows.fnExactStepsLeftRow.laid) #[.agg #[.slice none 0 0, .int .i64 0, .slice none 0 0, .int .i64 0, .int .i64 0, .int .i64 0, .int .i64 0, .int .i64 0, .slice none 0 0], .int .i64 0] 8 (World.laidAll_os _ _ _) (World.shaped_of_ZipB (by kernel_rfl) (by kernel_rfl)) (by kernel_rfl) (by kernel_rfl) (by kernel_rfl) (by rw [MakeChecks.laidMetH_plain _ _ _ (by kernel_rfl)]; exact laidMet_laidAll _ (by kernel_rfl) (by kernel_rfl))) ?_
  intro W base args ds gs before hval0 hW hcnd hsz0 hL _
  have hval : ∀ (j : Nat) t v, Tryz.f7.params[j]? = some t → args[j]? = some v → Value.okWide Tryz.prog W .any base t v := hval0
  have hW' := hW
  obtain ⟨p, q, hA0, hV, rfl, hfz, hnd⟩ := hW
  have hA : DataW.TrodAll enc Tryz.prog W 0 (fun _ => true) true Tryz.f7.params.toList args.toList ds p := hA0
  rw [Tryz.params7] at hA hval
  obtain ⟨v0, vs0, d0, ds0, p0, q0, hargs, rfl, rfl, h0, r0⟩ := trodAll_cons hA
  obtain ⟨v1, vs1, d1, ds1, p1, q1, rfl, rfl, rfl, h1, r1⟩ := trodAll_cons r0
  obtain ⟨rfl, rfl, rfl⟩ := trodAll_nil r1
  obtain rfl : args = #[v0, v1] := by cases args; simp_all
  obtain ⟨rfl, rfl⟩ := trodVars_none hV
  have k0 := h0
  have lt0 : ∀ x ∈ p0, x.block < W.heap.size := by obtain ⟨m, hm⟩ := k0; exact DataW.trod_lt m _ _ _ hm
  obtain ⟨f0, hf0⟩ := h0
  obtain ⟨x0, K0, o0⟩ := opens48 _ _ _ _ _ _ hf0
  obtain ⟨arr0, rfl, _⟩ := okWide_struct Tryz.underlying48 (hval 0 48 v0 rfl rfl)
  obtain ⟨A0_0, c0_0, A0_2, c0_2, A0_8, c0_8, e0, l0_0, g0_0, l0_2, g0_2, l0_8, g0_8⟩ := k48_open K0
  obtain rfl : arr0 = #[.slice A0_0 x0.f0.length c0_0, .int .i64 x0.f1, .slice A0_2 x0.f2.length c0_2, .int .i64 x0.f3, .int .i64 x0.f4, .int .i64 x0.f5, .int .i64 x0.f6, .int .i64 x0.f7, .slice A0_8 x0.f8.length c0_8] := by
    apply Array.ext'
    exact e0
  have k1 := h1
  have lt1 : ∀ x ∈ p1, x.block < W.heap.size := by obtain ⟨m, hm⟩ := k1; exact DataW.trod_lt m _ _ _ hm
  obtain ⟨f1, hf1⟩ := h1
  obtain ⟨x1, K1, o1⟩ := (opens_int Tryz.underlying3) _ _ _ _ _ _ hf1
  obtain ⟨y1, rfl⟩ := okWide_int Tryz.underlying3 (hval 1 3 v1 rfl rfl)
  have e1 : [(.int .i64 y1 : Value)] = [(.int .i64 x1 : Value)] := K1
  injection e1 with e1 _
  injection e1 with _ e1
  replace e1 := e1.symm
  subst e1
  clear hA0 hval0 hsz0
  obtain ⟨k, h⟩ := Pure.FnExactStepsLeft x0 x1 o0 o1
  refine (QFnExactStepsLeft.laws_FnExactStepsLeft.calls k _ _ x0.f0 x0.f1 _ _ x0.f2 x0.f3 x0.f4 x0.f5 x0.f6 x0.f7 _ _ x0.f8 _ true W g0_0 l0_0 g0_2 l0_2 g0_8 l0_8 h).mono ?_
  rintro e W' ⟨rfl, hd⟩
  have bel : Below W.heap.size W W' := hd
  exact ⟨_, rfl, _, _, _, [], _, [], hW', trodAll_mk1 (shut_bool Tryz.underlying4 _), (trodAll_cons_mk (Below.trod laidOut (by kernel_rfl) (of_decide_eq_true (by kernel_rfl)) k0 bel lt0) (trodAll_cons_mk (Below.trod laidOut (by kernel_rfl) (of_decide_eq_true (by kernel_rfl)) k1 bel lt1) trodAll_mk0)), rfl, bel.frame _, fun h => by cases h⟩
theorem over : Rows.fnExactStepsLeftRow.holds Tryz.pinned (OpenSpec.ofChange Rows.fnExactStepsLeftSpec) :=
  OpenClaim.holds_of_wide 7 Tryz.f7 rfl rfl rfl rfl rfl rfl rfl ⟨rfl, rfl, rfl, rfl, rfl⟩ rfl rfl rfl rfl rfl (by kernel_rfl) Tryz.func7 (by kernel_rfl)
    (of_decide_eq_true (by kernel_rfl)) (by unfold Func.isWrapper; first | (rw [if_pos (by decide +kernel)]; kernel_rfl) | (rw [if_neg (by decide +kernel)]; exact ⟨rfl, rfl⟩))
    (fun os started H enc _ => lifted os started H enc)
theorem proved : Rows.FnExactStepsLeftSaid := over
/-- The row with what it lists tied to the program's text. -/
theorem carded : Rows.FnExactStepsLeftCardSaid :=
  Claim7.holds_tied_plain_at .later [] [.data, .data, .data, .data, .sentinel, .sentinel, .pinned] true (true, "112b7a1d4d4b9ea72080f5b83574afbf194a323494579d1774c8b83e1d2e182d") true
    proved (fun _ h => by cases h) (by kernel_rfl) (fun _ h => by cases h) fnExactStepsLeft_row_tie rfl ⟨rfl, rfl⟩ (by kernel_rfl) rfl
    (fun f fn hf hfn => by
      obtain rfl : f = 7 := Option.some.inj ((show Tryz.prog.funcNamed "loop.example/g00735/laws.FnExactStepsLeft" = some 7 by kernel_rfl).symm.trans hf) |>.symm
      obtain rfl : fn = Tryz.f7 := (Option.some.inj (Tryz.func7.symm.trans hfn)).symm
      exact ⟨by kernel_rfl, fun j t ht => by
        rw [Tryz.params7] at ht
        have hm : t ∈ (Tryz.f7.params.toList : List TypeId) := by rw [Tryz.params7]; simpa using Array.mem_of_getElem? ht
        have hall : ((Tryz.f7.params.toList : List TypeId).all fun u => !Tryz.prog.wantsStandIn u) = true := by kernel_rfl
        exact (show Tryz.prog.wantsStandIn t = false by simpa using List.all_eq_true.1 hall t hm)⟩)
    (by kernel_rfl)
#print axioms carded
end Go.Proofs.YtohfefkjcnbejaaGreatDoor.fnExactStepsLeft
namespace Go.Proofs.YtohfefkjcnbejaaGreatDoor
/-- The row, under a short name, for the claim. -/
theorem fnExactStepsLeft_card : Rows.FnExactStepsLeftCardSaid := fnExactStepsLeft.carded
end Go.Proofs.YtohfefkjcnbejaaGreatDoor
