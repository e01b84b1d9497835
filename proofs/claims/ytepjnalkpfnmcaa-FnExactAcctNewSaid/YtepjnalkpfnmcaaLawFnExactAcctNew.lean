-- by my own printer (myprint.py, over the kit's print.py)
import Derived.Test.YtepjnalkpfnmcaaRows
import Derived.Test.YtepjnalkpfnmcaaQFnExactAcctNewx16
import Derived.Test.YtepjnalkpfnmcaaPureFnExactAcctNew
import Derived.Test.YtepjnalkpfnmcaaOpenVFnExactAcctNew
import Derived.WalkKit
import Derived.ProofKit
import Derived.OpenShut
import Derived.ShutString
import Derived.ChangeOld
import Derived.Below
import Derived.SizedLaws
import Derived.Carry
namespace Go.Proofs.Ytepjnalkpfnmcaa.fnExactAcctNew
open Go.ChangeShapes Go.WideShapes Go.ChangeAt Go.RowKit Go.Proofs.YtepjnalkpfnmcaaW.PrintWords Go.Proofs.Ytepjnalkpfnmcaa.Opened Go.Proofs.Ytepjnalkpfnmcaa.QFnExactAcctNew
open Go.ChangeMaps (open_string shut_string)
set_option linter.unusedVariables false
set_option linter.unusedSimpArgs false
theorem own : ownKnob Try.prog.godebug = none := by kernel_rfl
theorem laidOut : laidOutB Try.prog = true := by kernel_rfl
set_option maxRecDepth 100000 in
theorem lifted (os : Os) (started : os.Started) (H : Type) (enc : TypeId × Value → H) :
    ReturnsInHanded {} Try.checked os 10 .any (Rows.fnExactAcctNewSpec.pre6 enc Try.prog Try.f10 Rows.fnExactAcctNewRow.domain false) (Rows.fnExactAcctNewSpec.post enc Try.prog Try.f10 false true false false) := by
  refine returnsInHanded_of_change_sized (C := Try.checked) own started (by kernel_rfl) Try.func10
    (ChangeSpec.witness6 (enc := enc) (C := Try.checked) false ⟨#[], #[.string ByteArray.empty, .int .i64 0, .int .i64 0, .int .i64 0, .int .i64 0, .int .i64 0], []⟩ 8 (by kernel_rfl) (by kernel_rfl) (by kernel_rfl) (by kernel_rfl)) ?_
  intro W base args ds gs before hval0 hW hcnd hsz0 _
  have hval : ∀ (j : Nat) t v, Try.f10.params[j]? = some t → args[j]? = some v → Value.okWide Try.prog W .any base t v := hval0
  have hW' := hW
  obtain ⟨p, q, hA0, hV, rfl, hfz, hnd⟩ := hW
  have hA : DataW.TrodAll enc Try.prog W 0 (fun _ => true) true Try.f10.params.toList args.toList ds p := hA0
  rw [Try.params10] at hA hval
  obtain ⟨v0, vs0, d0, ds0, p0, q0, hargs, rfl, rfl, h0, r0⟩ := trodAll_cons hA
  obtain ⟨v1, vs1, d1, ds1, p1, q1, rfl, rfl, rfl, h1, r1⟩ := trodAll_cons r0
  obtain ⟨v2, vs2, d2, ds2, p2, q2, rfl, rfl, rfl, h2, r2⟩ := trodAll_cons r1
  obtain ⟨v3, vs3, d3, ds3, p3, q3, rfl, rfl, rfl, h3, r3⟩ := trodAll_cons r2
  obtain ⟨v4, vs4, d4, ds4, p4, q4, rfl, rfl, rfl, h4, r4⟩ := trodAll_cons r3
  obtain ⟨v5, vs5, d5, ds5, p5, q5, rfl, rfl, rfl, h5, r5⟩ := trodAll_cons r4
  obtain ⟨rfl, rfl, rfl⟩ := trodAll_nil r5
  obtain rfl : args = #[v0, v1, v2, v3, v4, v5] := by cases args; simp_all
  obtain ⟨rfl, rfl⟩ := trodVars_none hV
  have k0 := h0
  have lt0 : ∀ x ∈ p0, x.block < W.heap.size := by obtain ⟨m, hm⟩ := k0; exact DataW.trod_lt m _ _ _ hm
  obtain ⟨f0, hf0⟩ := h0
  obtain ⟨x0, K0, o0⟩ := (opens_string Try.underlying9) _ _ _ _ _ _ hf0
  obtain ⟨y0, rfl⟩ := okWide_string Try.underlying9 (hval 0 9 v0 rfl rfl)
  have e0 : [(.string y0 : Value)] = [(.string x0 : Value)] := K0
  injection e0 with e0 _
  injection e0 with e0
  replace e0 := e0.symm
  subst e0
  have k1 := h1
  have lt1 : ∀ x ∈ p1, x.block < W.heap.size := by obtain ⟨m, hm⟩ := k1; exact DataW.trod_lt m _ _ _ hm
  obtain ⟨f1, hf1⟩ := h1
  obtain ⟨x1, K1, o1⟩ := (opens_int Try.underlying3) _ _ _ _ _ _ hf1
  obtain ⟨y1, rfl⟩ := okWide_int Try.underlying3 (hval 1 3 v1 rfl rfl)
  have e1 : [(.int .i64 y1 : Value)] = [(.int .i64 x1 : Value)] := K1
  injection e1 with e1 _
  injection e1 with _ e1
  replace e1 := e1.symm
  subst e1
  have k2 := h2
  have lt2 : ∀ x ∈ p2, x.block < W.heap.size := by obtain ⟨m, hm⟩ := k2; exact DataW.trod_lt m _ _ _ hm
  obtain ⟨f2, hf2⟩ := h2
  obtain ⟨x2, K2, o2⟩ := (opens_int Try.underlying3) _ _ _ _ _ _ hf2
  obtain ⟨y2, rfl⟩ := okWide_int Try.underlying3 (hval 2 3 v2 rfl rfl)
  have e2 : [(.int .i64 y2 : Value)] = [(.int .i64 x2 : Value)] := K2
  injection e2 with e2 _
  injection e2 with _ e2
  replace e2 := e2.symm
  subst e2
  have k3 := h3
  have lt3 : ∀ x ∈ p3, x.block < W.heap.size := by obtain ⟨m, hm⟩ := k3; exact DataW.trod_lt m _ _ _ hm
  obtain ⟨f3, hf3⟩ := h3
  obtain ⟨x3, K3, o3⟩ := (opens_int Try.underlying3) _ _ _ _ _ _ hf3
  obtain ⟨y3, rfl⟩ := okWide_int Try.underlying3 (hval 3 3 v3 rfl rfl)
  have e3 : [(.int .i64 y3 : Value)] = [(.int .i64 x3 : Value)] := K3
  injection e3 with e3 _
  injection e3 with _ e3
  replace e3 := e3.symm
  subst e3
  have k4 := h4
  have lt4 : ∀ x ∈ p4, x.block < W.heap.size := by obtain ⟨m, hm⟩ := k4; exact DataW.trod_lt m _ _ _ hm
  obtain ⟨f4, hf4⟩ := h4
  obtain ⟨x4, K4, o4⟩ := (opens_int Try.underlying3) _ _ _ _ _ _ hf4
  obtain ⟨y4, rfl⟩ := okWide_int Try.underlying3 (hval 4 3 v4 rfl rfl)
  have e4 : [(.int .i64 y4 : Value)] = [(.int .i64 x4 : Value)] := K4
  injection e4 with e4 _
  injection e4 with _ e4
  replace e4 := e4.symm
  subst e4
  have k5 := h5
  have lt5 : ∀ x ∈ p5, x.block < W.heap.size := by obtain ⟨m, hm⟩ := k5; exact DataW.trod_lt m _ _ _ hm
  obtain ⟨f5, hf5⟩ := h5
  obtain ⟨x5, K5, o5⟩ := (opens_int Try.underlying3) _ _ _ _ _ _ hf5
  obtain ⟨y5, rfl⟩ := okWide_int Try.underlying3 (hval 5 3 v5 rfl rfl)
  have e5 : [(.int .i64 y5 : Value)] = [(.int .i64 x5 : Value)] := K5
  injection e5 with e5 _
  injection e5 with _ e5
  replace e5 := e5.symm
  subst e5
  clear hA0 hval0 hsz0
  obtain ⟨k, h⟩ := Pure.FnExactAcctNew x0 x1 x2 x3 x4 x5 o0 o1 o2 o3 o4 o5
  refine (QFnExactAcctNew.laws_FnExactAcctNew.calls k _ _ _ _ _ _ true W h).mono ?_
  rintro e W' ⟨rfl, hd⟩
  have bel : Below W.heap.size W W' := hd
  exact ⟨_, rfl, _, _, _, [], _, [], hW', trodAll_mk1 (shut_bool Try.underlying4 _), (trodAll_cons_mk (Below.trod laidOut (by kernel_rfl) (of_decide_eq_true (by kernel_rfl)) k0 bel lt0) (trodAll_cons_mk (Below.trod laidOut (by kernel_rfl) (of_decide_eq_true (by kernel_rfl)) k1 bel lt1) (trodAll_cons_mk (Below.trod laidOut (by kernel_rfl) (of_decide_eq_true (by kernel_rfl)) k2 bel lt2) (trodAll_cons_mk (Below.trod laidOut (by kernel_rfl) (of_decide_eq_true (by kernel_rfl)) k3 bel lt3) (trodAll_cons_mk (Below.trod laidOut (by kernel_rfl) (of_decide_eq_true (by kernel_rfl)) k4 bel lt4) (trodAll_cons_mk (Below.trod laidOut (by kernel_rfl) (of_decide_eq_true (by kernel_rfl)) k5 bel lt5) trodAll_mk0)))))), rfl, bel.frame _, fun h => by cases h⟩
theorem over : Rows.fnExactAcctNewRow.holds Try.pinned (OpenSpec.ofChange Rows.fnExactAcctNewSpec) :=
  OpenClaim.holds_of_wide 10 Try.f10 rfl rfl rfl rfl rfl rfl rfl ⟨rfl, rfl, rfl, rfl, rfl⟩ rfl rfl rfl rfl rfl (by kernel_rfl) Try.func10 (by kernel_rfl)
    (of_decide_eq_true (by kernel_rfl)) (by unfold Func.isWrapper; first | (rw [if_pos (by decide +kernel)]; kernel_rfl) | (rw [if_neg (by decide +kernel)]; exact ⟨rfl, rfl⟩))
    (fun os started H enc _ => lifted os started H enc)
theorem proved : Rows.FnExactAcctNewSaid := over
#print axioms proved
end Go.Proofs.Ytepjnalkpfnmcaa.fnExactAcctNew
namespace Go.Proofs.Ytepjnalkpfnmcaa
/-- The row, under a short name, for the claim. -/
theorem fnExactAcctNew_holds : Rows.FnExactAcctNewSaid := fnExactAcctNew.proved
end Go.Proofs.Ytepjnalkpfnmcaa
