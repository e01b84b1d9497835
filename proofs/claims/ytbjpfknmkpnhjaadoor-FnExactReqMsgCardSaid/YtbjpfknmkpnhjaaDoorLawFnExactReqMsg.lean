-- by my own printer (myprint.py, over the kit's print.py)
import Derived.Test.YtbjpfknmkpnhjaaDoorRows
import Derived.Test.YtbjpfknmkpnhjaaDoorQFnExactReqMsgx17
import Derived.Test.YtbjpfknmkpnhjaaDoorPureFnExactReqMsg
import Derived.Test.YtbjpfknmkpnhjaaDoorOpenVFnExactReqMsg
import Derived.WalkKit
import Derived.ProofKit
import Derived.OpenShut
import Derived.ShutString
import Derived.ChangeOld
import Derived.Below
import Derived.SizedLaws
import Derived.Carry
import Derived.LaidMore
import Derived.Stop.LaidErr
import Derived.MakeChecks
import Derived.Lib.LaidTab
import Derived.SevenTiedAt
import Derived.Test.YtbjpfknmkpnhjaaDoorTie
import Derived.Test.YtbjpfknmkpnhjaaDoorCards
namespace Go.Proofs.YtbjpfknmkpnhjaaDoor.fnExactReqMsg
open Go.ChangeShapes Go.WideShapes Go.ChangeAt Go.RowKit Go.Proofs.YtbjpfknmkpnhjaaDoorW.PrintWords Go.Proofs.YtbjpfknmkpnhjaaDoor.Opened Go.Proofs.YtbjpfknmkpnhjaaDoor.QFnExactReqMsg
open Go.ChangeMaps (open_string shut_string)
set_option linter.unusedVariables false
set_option linter.unusedSimpArgs false
theorem own : ownKnob Tryd.prog.godebug = none := by kernel_rfl
theorem laidOut : laidOutB Tryd.prog = true := by kernel_rfl
set_option maxRecDepth 100000 in
theorem opens38 : Opens Tryd.prog 38 k38 ok38 := by
  intro H enc w fuel cs r h
  obtain ⟨hl, m, hf⟩ := fields_of Tryd.underlying38 h
  have hl' : cs.length = 8 := hl.trans (by kernel_rfl)
  obtain ⟨r0, h0⟩ := hf 0 _ rfl
  replace h0 : DataW.trod enc Tryd.prog w 0 (fun _ => true) true m 3 ((cs.drop 0).take 1) = some r0 := by rw [← show Tryd.prog.cellsOf 3 = 1 from by kernel_rfl]; exact h0
  obtain ⟨x0, K0, o0⟩ := (opens_int Tryd.underlying3) _ _ _ _ _ _ h0
  obtain ⟨r1, h1⟩ := hf 1 _ rfl
  replace h1 : DataW.trod enc Tryd.prog w 0 (fun _ => true) true m 9 ((cs.drop 1).take 1) = some r1 := by rw [← show Tryd.prog.cellsOf 9 = 1 from by kernel_rfl]; exact h1
  obtain ⟨x1, K1, o1⟩ := (opens_string Tryd.underlying9) _ _ _ _ _ _ h1
  obtain ⟨r2, h2⟩ := hf 2 _ rfl
  replace h2 : DataW.trod enc Tryd.prog w 0 (fun _ => true) true m 9 ((cs.drop 2).take 1) = some r2 := by rw [← show Tryd.prog.cellsOf 9 = 1 from by kernel_rfl]; exact h2
  obtain ⟨x2, K2, o2⟩ := (opens_string Tryd.underlying9) _ _ _ _ _ _ h2
  obtain ⟨r3, h3⟩ := hf 3 _ rfl
  replace h3 : DataW.trod enc Tryd.prog w 0 (fun _ => true) true m 9 ((cs.drop 3).take 1) = some r3 := by rw [← show Tryd.prog.cellsOf 9 = 1 from by kernel_rfl]; exact h3
  obtain ⟨x3, K3, o3⟩ := (opens_string Tryd.underlying9) _ _ _ _ _ _ h3
  obtain ⟨r4, h4⟩ := hf 4 _ rfl
  replace h4 : DataW.trod enc Tryd.prog w 0 (fun _ => true) true m 9 ((cs.drop 4).take 1) = some r4 := by rw [← show Tryd.prog.cellsOf 9 = 1 from by kernel_rfl]; exact h4
  obtain ⟨x4, K4, o4⟩ := (opens_string Tryd.underlying9) _ _ _ _ _ _ h4
  obtain ⟨r5, h5⟩ := hf 5 _ rfl
  replace h5 : DataW.trod enc Tryd.prog w 0 (fun _ => true) true m 9 ((cs.drop 5).take 1) = some r5 := by rw [← show Tryd.prog.cellsOf 9 = 1 from by kernel_rfl]; exact h5
  obtain ⟨x5, K5, o5⟩ := (opens_string Tryd.underlying9) _ _ _ _ _ _ h5
  obtain ⟨r6, h6⟩ := hf 6 _ rfl
  replace h6 : DataW.trod enc Tryd.prog w 0 (fun _ => true) true m 3 ((cs.drop 6).take 1) = some r6 := by rw [← show Tryd.prog.cellsOf 3 = 1 from by kernel_rfl]; exact h6
  obtain ⟨x6, K6, o6⟩ := (opens_int Tryd.underlying3) _ _ _ _ _ _ h6
  obtain ⟨r7, h7⟩ := hf 7 _ rfl
  replace h7 : DataW.trod enc Tryd.prog w 0 (fun _ => true) true m 3 ((cs.drop 7).take 1) = some r7 := by rw [← show Tryd.prog.cellsOf 3 = 1 from by kernel_rfl]; exact h7
  obtain ⟨x7, K7, o7⟩ := (opens_int Tryd.underlying3) _ _ _ _ _ _ h7
  refine ⟨⟨x0, x1, x2, x3, x4, x5, x6, x7⟩, ?_, o0, o1, o2, o3, o4, o5, o6, o7⟩
  exact show _ from (chain_cons K0 rfl (chain_cons K1 rfl (chain_cons K2 rfl (chain_cons K3 rfl (chain_cons K4 rfl (chain_cons K5 rfl (chain_cons K6 rfl (chain_last K7 hl' rfl))))))))
theorem gT : Tryd.prog.globalNamed "internal/strconv.uint64pow10" = some 2 := by kernel_rfl
theorem gTy : (Tryd.prog.globals[2]?).map (·.type) = some 186 := by kernel_rfl
/-- The row's own condition says that the library's table lies as the program's text lays it. -/
theorem tb_of {W : World} (h : laidMetH Tryd.prog Rows.fnExactReqMsgRow.laid W) : Tb W := by
  rw [MakeChecks.laidMetH_plain _ _ _ (by kernel_rfl)] at h
  exact Lib.tabIs_of_head gT gTy Tryd.underlying186 (by kernel_rfl) (by kernel_rfl) (by kernel_rfl) h.tail.tail
/-- The door's own heap meets it. -/
theorem door_met (os : Os) (args : Array Value) : laidMetH Tryd.prog Rows.fnExactReqMsgRow.laid ((World.doorLaid Tryd.prog 400 os).forCall (fun _ _ => 0) ⟨#[], args, []⟩).memory :=
  laidMetH_of_parts3 (fuel := 8) (laidMet_of_run' 8 (by kernel_rfl) (by kernel_rfl)) (by kernel_rfl) (by kernel_rfl)
set_option maxRecDepth 100000 in
theorem lifted (os : Os) (started : os.Started) (H : Type) (enc : TypeId × Value → H) :
    ReturnsInHanded {} Tryd.checked os 4 .any (fun w args => (Rows.fnExactReqMsgSpec.pre enc Tryd.prog Tryd.f4 [] false w args ∧ laidMetH Tryd.prog Rows.fnExactReqMsgRow.laid w) ∧ sizedMet enc Tryd.prog Tryd.f4 (OpenSpec.ofChange Rows.fnExactReqMsgSpec) false w args)
      (Rows.fnExactReqMsgSpec.post enc Tryd.prog Tryd.f4 false true false false) := by
  refine returnsInHanded_of_change_and (C := Tryd.checked) (X := fun w _ => laidMetH Tryd.prog Rows.fnExactReqMsgRow.laid w) (fun _ _ _ hh h => h.of_heap hh) own started (by kernel_rfl) Tryd.func4
    (ChangeSpec.witness_shaped (enc := enc) (C := Tryd.checked) (os := os) (X := fun w _ => laidMetH Tryd.prog Rows.fnExactReqMsgRow.laid w) false (World.doorLaid Tryd.prog 400 os) #[.agg #[.int .i64 0, .string ByteArray.empty, .string ByteArray.empty, .string ByteArray.empty, .string ByteArray.empty, .string ByteArray.empty, .int .i64 0, .int .i64 0]] 8 rfl (World.shaped_of_RefB (by kernel_rfl) (by kernel_rfl)) (by kernel_rfl) (by kernel_rfl) (by kernel_rfl) (door_met os _)) ?_
  intro W base args ds gs before hval0 hW hcnd hsz0 hL _
  have htb : Tb W := tb_of hL
  have hval : ∀ (j : Nat) t v, Tryd.f4.params[j]? = some t → args[j]? = some v → Value.okWide Tryd.prog W .any base t v := hval0
  have hW' := hW
  obtain ⟨p, q, hA0, hV, rfl, hfz, hnd⟩ := hW
  have hA : DataW.TrodAll enc Tryd.prog W 0 (fun _ => true) true Tryd.f4.params.toList args.toList ds p := hA0
  rw [Tryd.params4] at hA hval
  obtain ⟨v0, vs0, d0, ds0, p0, q0, hargs, rfl, rfl, h0, r0⟩ := trodAll_cons hA
  obtain ⟨rfl, rfl, rfl⟩ := trodAll_nil r0
  obtain rfl : args = #[v0] := by cases args; simp_all
  obtain ⟨rfl, rfl⟩ := trodVars_none hV
  have k0 := h0
  have lt0 : ∀ x ∈ p0, x.block < W.heap.size := by obtain ⟨m, hm⟩ := k0; exact DataW.trod_lt m _ _ _ hm
  obtain ⟨f0, hf0⟩ := h0
  obtain ⟨x0, K0, o0⟩ := opens38 _ _ _ _ _ _ hf0
  obtain ⟨arr0, rfl, _⟩ := okWide_struct Tryd.underlying38 (hval 0 38 v0 rfl rfl)
  have e0 := k38_open K0
  obtain rfl : arr0 = #[.int .i64 x0.f0, .string x0.f1, .string x0.f2, .string x0.f3, .string x0.f4, .string x0.f5, .int .i64 x0.f6, .int .i64 x0.f7] := by
    apply Array.ext'
    exact e0
  clear hA0 hval0 hsz0
  obtain ⟨k, h⟩ := Pure.FnExactReqMsg x0 o0
  refine (QFnExactReqMsg.laws_FnExactReqMsg.calls k x0.f0 x0.f1 x0.f2 x0.f3 x0.f4 x0.f5 x0.f6 x0.f7 true W h htb).mono ?_
  rintro e W' ⟨rfl, hd⟩
  have bel : Below W.heap.size W W' := hd
  exact ⟨_, rfl, _, _, _, [], _, [], hW', trodAll_mk1 (shut_bool Tryd.underlying4 _), (trodAll_cons_mk (Below.trod laidOut (by kernel_rfl) (of_decide_eq_true (by kernel_rfl)) k0 bel lt0) trodAll_mk0), rfl, bel.frame _, fun h => by cases h⟩
theorem over : Rows.fnExactReqMsgRow.holds Tryd.pinned (OpenSpec.ofChange Rows.fnExactReqMsgSpec) :=
  OpenClaim.holds_of_wide 4 Tryd.f4 rfl rfl rfl rfl rfl rfl rfl ⟨rfl, rfl, rfl, rfl, rfl⟩ rfl rfl rfl rfl rfl (by kernel_rfl) Tryd.func4 (by kernel_rfl)
    (of_decide_eq_true (by kernel_rfl)) (by unfold Func.isWrapper; first | (rw [if_pos (by decide +kernel)]; kernel_rfl) | (rw [if_neg (by decide +kernel)]; exact ⟨rfl, rfl⟩))
    (fun os started H enc _ => lifted os started H enc)
theorem proved : Rows.FnExactReqMsgSaid := over
/-- The row with what it lists tied to the program's text. -/
theorem carded : Rows.FnExactReqMsgCardSaid :=
  Claim7.holds_tied_plain_at .later [] [.data, .data, .data] true (true, "e0bdbf0876ab779b65b05acd19e8e5c894c37c36323d63b16bd3934c27f9b728") true
    proved (fun _ h => by cases h) (by kernel_rfl) (fun _ h => by cases h) fnExactReqMsg_row_tie rfl ⟨rfl, rfl⟩ (by kernel_rfl) rfl
    (fun f fn hf hfn => by
      obtain rfl : f = 4 := Option.some.inj ((show Tryd.prog.funcNamed "loop.example/g00735/laws.FnExactReqMsg" = some 4 by kernel_rfl).symm.trans hf) |>.symm
      obtain rfl : fn = Tryd.f4 := (Option.some.inj (Tryd.func4.symm.trans hfn)).symm
      exact ⟨by kernel_rfl, fun j t ht => by
        rw [Tryd.params4] at ht
        have hm : t ∈ (Tryd.f4.params.toList : List TypeId) := by rw [Tryd.params4]; simpa using Array.mem_of_getElem? ht
        have hall : ((Tryd.f4.params.toList : List TypeId).all fun u => !Tryd.prog.wantsStandIn u) = true := by kernel_rfl
        exact (show Tryd.prog.wantsStandIn t = false by simpa using List.all_eq_true.1 hall t hm)⟩)
    (by kernel_rfl)
#print axioms carded
end Go.Proofs.YtbjpfknmkpnhjaaDoor.fnExactReqMsg
namespace Go.Proofs.YtbjpfknmkpnhjaaDoor
/-- The row, under a short name, for the claim. -/
theorem fnExactReqMsg_card : Rows.FnExactReqMsgCardSaid := fnExactReqMsg.carded
end Go.Proofs.YtbjpfknmkpnhjaaDoor
