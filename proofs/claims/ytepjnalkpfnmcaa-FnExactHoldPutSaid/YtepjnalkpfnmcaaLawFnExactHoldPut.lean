-- by my own printer (myprint.py, over the kit's print.py)
import Derived.Test.YtepjnalkpfnmcaaRows
import Derived.Test.YtepjnalkpfnmcaaQFnExactHoldPutx10
import Derived.Test.YtepjnalkpfnmcaaPureFnExactHoldPut
import Derived.Test.YtepjnalkpfnmcaaOpenVFnExactHoldPut
import Derived.WalkKit
import Derived.ProofKit
import Derived.OpenShut
import Derived.ShutString
import Derived.ChangeOld
import Derived.Below
import Derived.SizedLaws
import Derived.Carry
namespace Go.Proofs.Ytepjnalkpfnmcaa.fnExactHoldPut
open Go.ChangeShapes Go.WideShapes Go.ChangeAt Go.RowKit Go.Proofs.YtepjnalkpfnmcaaW.PrintWords Go.Proofs.Ytepjnalkpfnmcaa.Opened Go.Proofs.Ytepjnalkpfnmcaa.QFnExactHoldPut
open Go.ChangeMaps (open_string shut_string)
set_option linter.unusedVariables false
set_option linter.unusedSimpArgs false
theorem own : ownKnob Try.prog.godebug = none := by kernel_rfl
theorem laidOut : laidOutB Try.prog = true := by kernel_rfl
set_option maxRecDepth 100000 in
theorem opens89 : Opens Try.prog 89 k89 ok89 := by
  intro H enc w fuel cs r h
  obtain ⟨hl, m, hf⟩ := fields_of Try.underlying89 h
  have hl' : cs.length = 3 := hl.trans (by kernel_rfl)
  obtain ⟨r0, h0⟩ := hf 0 _ rfl
  replace h0 : DataW.trod enc Try.prog w 0 (fun _ => true) true m 9 ((cs.drop 0).take 1) = some r0 := by rw [← show Try.prog.cellsOf 9 = 1 from by kernel_rfl]; exact h0
  obtain ⟨x0, K0, o0⟩ := (opens_string Try.underlying9) _ _ _ _ _ _ h0
  obtain ⟨r1, h1⟩ := hf 1 _ rfl
  replace h1 : DataW.trod enc Try.prog w 0 (fun _ => true) true m 3 ((cs.drop 1).take 1) = some r1 := by rw [← show Try.prog.cellsOf 3 = 1 from by kernel_rfl]; exact h1
  obtain ⟨x1, K1, o1⟩ := (opens_int Try.underlying3) _ _ _ _ _ _ h1
  obtain ⟨r2, h2⟩ := hf 2 _ rfl
  replace h2 : DataW.trod enc Try.prog w 0 (fun _ => true) true m 3 ((cs.drop 2).take 1) = some r2 := by rw [← show Try.prog.cellsOf 3 = 1 from by kernel_rfl]; exact h2
  obtain ⟨x2, K2, o2⟩ := (opens_int Try.underlying3) _ _ _ _ _ _ h2
  refine ⟨⟨x0, x1, x2⟩, ?_, o0, o1, o2⟩
  exact show _ from (chain_cons K0 rfl (chain_cons K1 rfl (chain_last K2 hl' rfl)))
set_option maxRecDepth 100000 in
theorem lifted (os : Os) (started : os.Started) (H : Type) (enc : TypeId × Value → H) :
    ReturnsInHanded {} Try.checked os 12 .any (Rows.fnExactHoldPutSpec.pre6 enc Try.prog Try.f12 Rows.fnExactHoldPutRow.domain false) (Rows.fnExactHoldPutSpec.post enc Try.prog Try.f12 false true false false) := by
  refine returnsInHanded_of_change_sized (C := Try.checked) own started (by kernel_rfl) Try.func12
    (ChangeSpec.witness6 (enc := enc) (C := Try.checked) false ⟨#[], #[.slice none 0 0, .agg #[.string ByteArray.empty, .int .i64 0, .int .i64 0]], []⟩ 8 (by kernel_rfl) (by kernel_rfl) (by kernel_rfl) (by kernel_rfl)) ?_
  intro W base args ds gs before hval0 hW hcnd hsz0 _
  have hval : ∀ (j : Nat) t v, Try.f12.params[j]? = some t → args[j]? = some v → Value.okWide Try.prog W .any base t v := hval0
  have hW' := hW
  obtain ⟨p, q, hA0, hV, rfl, hfz, hnd⟩ := hW
  have hA : DataW.TrodAll enc Try.prog W 0 (fun _ => true) true Try.f12.params.toList args.toList ds p := hA0
  rw [Try.params12] at hA hval
  obtain ⟨v0, vs0, d0, ds0, p0, q0, hargs, rfl, rfl, h0, r0⟩ := trodAll_cons hA
  obtain ⟨v1, vs1, d1, ds1, p1, q1, rfl, rfl, rfl, h1, r1⟩ := trodAll_cons r0
  obtain ⟨rfl, rfl, rfl⟩ := trodAll_nil r1
  obtain rfl : args = #[v0, v1] := by cases args; simp_all
  obtain ⟨rfl, rfl⟩ := trodVars_none hV
  have k0 := h0
  have lt0 : ∀ x ∈ p0, x.block < W.heap.size := by obtain ⟨m, hm⟩ := k0; exact DataW.trod_lt m _ _ _ hm
  obtain ⟨f0, hf0⟩ := h0
  obtain ⟨x0, K0, o0⟩ := (opens_slice Try.underlying22 (by kernel_rfl) opens89) _ _ _ _ _ _ hf0
  obtain ⟨A0, len0, cap0, rfl⟩ := okWide_slice Try.underlying22 (hval 0 22 v0 rfl rfl)
  obtain ⟨A0', c0', e0, l0', g0'⟩ := K0
  have e0' : [Value.slice A0 len0 cap0] = [.slice A0' x0.length c0'] := e0
  injection e0' with e0' _
  injection e0' with e10 e20 e30
  subst e10 e20 e30
  have k1 := h1
  have lt1 : ∀ x ∈ p1, x.block < W.heap.size := by obtain ⟨m, hm⟩ := k1; exact DataW.trod_lt m _ _ _ hm
  obtain ⟨f1, hf1⟩ := h1
  obtain ⟨x1, K1, o1⟩ := opens89 _ _ _ _ _ _ hf1
  obtain ⟨arr1, rfl, _⟩ := okWide_struct Try.underlying89 (hval 1 89 v1 rfl rfl)
  have e1 := k89_open K1
  obtain rfl : arr1 = #[.string x1.f0, .int .i64 x1.f1, .int .i64 x1.f2] := by
    apply Array.ext'
    exact e1
  clear hA0 hval0 hsz0
  obtain ⟨k, h⟩ := Pure.FnExactHoldPut x0 x1 o0 o1
  refine (QFnExactHoldPut.laws_FnExactHoldPut.calls k _ _ x0 x1.f0 x1.f1 x1.f2 true W g0' l0' h).mono ?_
  rintro e W' ⟨rfl, hd⟩
  have bel : Below W.heap.size W W' := hd
  exact ⟨_, rfl, _, _, _, [], _, [], hW', trodAll_mk1 (shut_bool Try.underlying4 _), (trodAll_cons_mk (Below.trod laidOut (by kernel_rfl) (of_decide_eq_true (by kernel_rfl)) k0 bel lt0) (trodAll_cons_mk (Below.trod laidOut (by kernel_rfl) (of_decide_eq_true (by kernel_rfl)) k1 bel lt1) trodAll_mk0)), rfl, bel.frame _, fun h => by cases h⟩
theorem over : Rows.fnExactHoldPutRow.holds Try.pinned (OpenSpec.ofChange Rows.fnExactHoldPutSpec) :=
  OpenClaim.holds_of_wide 12 Try.f12 rfl rfl rfl rfl rfl rfl rfl ⟨rfl, rfl, rfl, rfl, rfl⟩ rfl rfl rfl rfl rfl (by kernel_rfl) Try.func12 (by kernel_rfl)
    (of_decide_eq_true (by kernel_rfl)) (by unfold Func.isWrapper; first | (rw [if_pos (by decide +kernel)]; kernel_rfl) | (rw [if_neg (by decide +kernel)]; exact ⟨rfl, rfl⟩))
    (fun os started H enc _ => lifted os started H enc)
theorem proved : Rows.FnExactHoldPutSaid := over
#print axioms proved
end Go.Proofs.Ytepjnalkpfnmcaa.fnExactHoldPut
namespace Go.Proofs.Ytepjnalkpfnmcaa
/-- The row, under a short name, for the claim. -/
theorem fnExactHoldPut_holds : Rows.FnExactHoldPutSaid := fnExactHoldPut.proved
end Go.Proofs.Ytepjnalkpfnmcaa
