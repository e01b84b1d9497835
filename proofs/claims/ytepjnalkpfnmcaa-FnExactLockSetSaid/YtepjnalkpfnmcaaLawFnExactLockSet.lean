-- by my own printer (myprint.py, over the kit's print.py)
import Derived.Test.YtepjnalkpfnmcaaRows
import Derived.Test.YtepjnalkpfnmcaaQFnExactLockSetx3
import Derived.Test.YtepjnalkpfnmcaaPureFnExactLockSet
import Derived.Test.YtepjnalkpfnmcaaOpenVFnExactLockSet
import Derived.WalkKit
import Derived.ProofKit
import Derived.OpenShut
import Derived.ShutString
import Derived.ChangeOld
import Derived.Below
import Derived.SizedLaws
import Derived.Carry
namespace Go.Proofs.Ytepjnalkpfnmcaa.fnExactLockSet
open Go.ChangeShapes Go.WideShapes Go.ChangeAt Go.RowKit Go.Proofs.YtepjnalkpfnmcaaW.PrintWords Go.Proofs.Ytepjnalkpfnmcaa.Opened Go.Proofs.Ytepjnalkpfnmcaa.QFnExactLockSet
open Go.ChangeMaps (open_string shut_string)
set_option linter.unusedVariables false
set_option linter.unusedSimpArgs false
theorem own : ownKnob Try.prog.godebug = none := by kernel_rfl
theorem laidOut : laidOutB Try.prog = true := by kernel_rfl
set_option maxRecDepth 100000 in
theorem lifted (os : Os) (started : os.Started) (H : Type) (enc : TypeId × Value → H) :
    ReturnsInHanded {} Try.checked os 13 .any (Rows.fnExactLockSetSpec.pre6 enc Try.prog Try.f13 Rows.fnExactLockSetRow.domain false) (Rows.fnExactLockSetSpec.post enc Try.prog Try.f13 false true false false) := by
  refine returnsInHanded_of_change_sized (C := Try.checked) own started (by kernel_rfl) Try.func13
    (ChangeSpec.witness6 (enc := enc) (C := Try.checked) false ⟨#[], #[.slice none 0 0, .int .i64 0], []⟩ 8 (by kernel_rfl) (by kernel_rfl) (by kernel_rfl) (by kernel_rfl)) ?_
  intro W base args ds gs before hval0 hW hcnd hsz0 _
  have hval : ∀ (j : Nat) t v, Try.f13.params[j]? = some t → args[j]? = some v → Value.okWide Try.prog W .any base t v := hval0
  have hW' := hW
  obtain ⟨p, q, hA0, hV, rfl, hfz, hnd⟩ := hW
  have hA : DataW.TrodAll enc Try.prog W 0 (fun _ => true) true Try.f13.params.toList args.toList ds p := hA0
  rw [Try.params13] at hA hval
  obtain ⟨v0, vs0, d0, ds0, p0, q0, hargs, rfl, rfl, h0, r0⟩ := trodAll_cons hA
  obtain ⟨v1, vs1, d1, ds1, p1, q1, rfl, rfl, rfl, h1, r1⟩ := trodAll_cons r0
  obtain ⟨rfl, rfl, rfl⟩ := trodAll_nil r1
  obtain rfl : args = #[v0, v1] := by cases args; simp_all
  obtain ⟨rfl, rfl⟩ := trodVars_none hV
  have k0 := h0
  have lt0 : ∀ x ∈ p0, x.block < W.heap.size := by obtain ⟨m, hm⟩ := k0; exact DataW.trod_lt m _ _ _ hm
  obtain ⟨f0, hf0⟩ := h0
  obtain ⟨x0, K0, o0⟩ := (opens_slice Try.underlying96 (by kernel_rfl) (opens_string Try.underlying9)) _ _ _ _ _ _ hf0
  obtain ⟨A0, len0, cap0, rfl⟩ := okWide_slice Try.underlying96 (hval 0 96 v0 rfl rfl)
  obtain ⟨A0', c0', e0, l0', g0'⟩ := K0
  have e0' : [Value.slice A0 len0 cap0] = [.slice A0' x0.length c0'] := e0
  injection e0' with e0' _
  injection e0' with e10 e20 e30
  subst e10 e20 e30
  have k1 := h1
  have lt1 : ∀ x ∈ p1, x.block < W.heap.size := by obtain ⟨m, hm⟩ := k1; exact DataW.trod_lt m _ _ _ hm
  obtain ⟨f1, hf1⟩ := h1
  obtain ⟨x1, K1, o1⟩ := (opens_int Try.underlying3) _ _ _ _ _ _ hf1
  obtain ⟨y1, rfl⟩ := okWide_int Try.underlying3 (hval 1 3 v1 rfl rfl)
  have e1 : [(.int .i64 y1 : Value)] = [(.int .i64 x1 : Value)] := K1
  injection e1 with e1 _
  injection e1 with _ e1
  replace e1 := e1.symm
  subst e1
  clear hA0 hval0 hsz0
  obtain ⟨k, h⟩ := Pure.FnExactLockSet x0 x1 o0 o1
  refine (QFnExactLockSet.laws_FnExactLockSet.calls k _ _ x0 _ true W g0' l0' h).mono ?_
  rintro e W' ⟨rfl, hd⟩
  have bel : Below W.heap.size W W' := hd
  exact ⟨_, rfl, _, _, _, [], _, [], hW', trodAll_mk1 (shut_bool Try.underlying4 _), (trodAll_cons_mk (Below.trod laidOut (by kernel_rfl) (of_decide_eq_true (by kernel_rfl)) k0 bel lt0) (trodAll_cons_mk (Below.trod laidOut (by kernel_rfl) (of_decide_eq_true (by kernel_rfl)) k1 bel lt1) trodAll_mk0)), rfl, bel.frame _, fun h => by cases h⟩
theorem over : Rows.fnExactLockSetRow.holds Try.pinned (OpenSpec.ofChange Rows.fnExactLockSetSpec) :=
  OpenClaim.holds_of_wide 13 Try.f13 rfl rfl rfl rfl rfl rfl rfl ⟨rfl, rfl, rfl, rfl, rfl⟩ rfl rfl rfl rfl rfl (by kernel_rfl) Try.func13 (by kernel_rfl)
    (of_decide_eq_true (by kernel_rfl)) (by unfold Func.isWrapper; first | (rw [if_pos (by decide +kernel)]; kernel_rfl) | (rw [if_neg (by decide +kernel)]; exact ⟨rfl, rfl⟩))
    (fun os started H enc _ => lifted os started H enc)
theorem proved : Rows.FnExactLockSetSaid := over
#print axioms proved
end Go.Proofs.Ytepjnalkpfnmcaa.fnExactLockSet
namespace Go.Proofs.Ytepjnalkpfnmcaa
/-- The row, under a short name, for the claim. -/
theorem fnExactLockSet_holds : Rows.FnExactLockSetSaid := fnExactLockSet.proved
end Go.Proofs.Ytepjnalkpfnmcaa
