-- by my own printer (myprint.py, over the kit's print.py)
import Derived.Test.YtepjnalkpfnmcaaRows
import Derived.Test.YtepjnalkpfnmcaaQFnExactSlotOfx3
import Derived.Test.YtepjnalkpfnmcaaPureFnExactSlotOf
import Derived.Test.YtepjnalkpfnmcaaOpenVFnExactSlotOf
import Derived.WalkKit
import Derived.ProofKit
import Derived.OpenShut
import Derived.ShutString
import Derived.ChangeOld
import Derived.Below
import Derived.SizedLaws
import Derived.Carry
namespace Go.Proofs.Ytepjnalkpfnmcaa.fnExactSlotOf
open Go.ChangeShapes Go.WideShapes Go.ChangeAt Go.RowKit Go.Proofs.YtepjnalkpfnmcaaW.PrintWords Go.Proofs.Ytepjnalkpfnmcaa.Opened Go.Proofs.Ytepjnalkpfnmcaa.QFnExactSlotOf
open Go.ChangeMaps (open_string shut_string)
set_option linter.unusedVariables false
set_option linter.unusedSimpArgs false
theorem own : ownKnob Try.prog.godebug = none := by kernel_rfl
theorem laidOut : laidOutB Try.prog = true := by kernel_rfl
set_option maxRecDepth 100000 in
theorem opens70 : Opens Try.prog 70 k70 ok70 := by
  intro H enc w fuel cs r h
  obtain ⟨hl, m, hf⟩ := fields_of Try.underlying70 h
  have hl' : cs.length = 3 := hl.trans (by kernel_rfl)
  obtain ⟨r0, h0⟩ := hf 0 _ rfl
  replace h0 : DataW.trod enc Try.prog w 0 (fun _ => true) true m 9 ((cs.drop 0).take 1) = some r0 := by rw [← show Try.prog.cellsOf 9 = 1 from by kernel_rfl]; exact h0
  obtain ⟨x0, K0, o0⟩ := (opens_string Try.underlying9) _ _ _ _ _ _ h0
  obtain ⟨r1, h1⟩ := hf 1 _ rfl
  replace h1 : DataW.trod enc Try.prog w 0 (fun _ => true) true m 9 ((cs.drop 1).take 1) = some r1 := by rw [← show Try.prog.cellsOf 9 = 1 from by kernel_rfl]; exact h1
  obtain ⟨x1, K1, o1⟩ := (opens_string Try.underlying9) _ _ _ _ _ _ h1
  obtain ⟨r2, h2⟩ := hf 2 _ rfl
  replace h2 : DataW.trod enc Try.prog w 0 (fun _ => true) true m 60 ((cs.drop 2).take 1) = some r2 := by rw [← show Try.prog.cellsOf 60 = 1 from by kernel_rfl]; exact h2
  obtain ⟨x2, K2, o2⟩ := (opens_slice Try.underlying60 (by kernel_rfl) (opens_int Try.underlying5)) _ _ _ _ _ _ h2
  refine ⟨⟨x0, x1, x2⟩, ?_, o0, o1, o2⟩
  exact show _ from (chain_cons K0 rfl (chain_cons K1 rfl (chain_last K2 hl' rfl)))
set_option maxRecDepth 100000 in
theorem lifted (os : Os) (started : os.Started) (H : Type) (enc : TypeId × Value → H) :
    ReturnsInHanded {} Try.checked os 8 .any (Rows.fnExactSlotOfSpec.pre6 enc Try.prog Try.f8 Rows.fnExactSlotOfRow.domain false) (Rows.fnExactSlotOfSpec.post enc Try.prog Try.f8 false true false false) := by
  refine returnsInHanded_of_change_sized (C := Try.checked) own started (by kernel_rfl) Try.func8
    (ChangeSpec.witness6 (enc := enc) (C := Try.checked) false ⟨#[], #[.slice none 0 0, .string ByteArray.empty, .string ByteArray.empty], []⟩ 8 (by kernel_rfl) (by kernel_rfl) (by kernel_rfl) (by kernel_rfl)) ?_
  intro W base args ds gs before hval0 hW hcnd hsz0 _
  have hval : ∀ (j : Nat) t v, Try.f8.params[j]? = some t → args[j]? = some v → Value.okWide Try.prog W .any base t v := hval0
  have hW' := hW
  obtain ⟨p, q, hA0, hV, rfl, hfz, hnd⟩ := hW
  have hA : DataW.TrodAll enc Try.prog W 0 (fun _ => true) true Try.f8.params.toList args.toList ds p := hA0
  rw [Try.params8] at hA hval
  obtain ⟨v0, vs0, d0, ds0, p0, q0, hargs, rfl, rfl, h0, r0⟩ := trodAll_cons hA
  obtain ⟨v1, vs1, d1, ds1, p1, q1, rfl, rfl, rfl, h1, r1⟩ := trodAll_cons r0
  obtain ⟨v2, vs2, d2, ds2, p2, q2, rfl, rfl, rfl, h2, r2⟩ := trodAll_cons r1
  obtain ⟨rfl, rfl, rfl⟩ := trodAll_nil r2
  obtain rfl : args = #[v0, v1, v2] := by cases args; simp_all
  obtain ⟨rfl, rfl⟩ := trodVars_none hV
  have k0 := h0
  have lt0 : ∀ x ∈ p0, x.block < W.heap.size := by obtain ⟨m, hm⟩ := k0; exact DataW.trod_lt m _ _ _ hm
  obtain ⟨f0, hf0⟩ := h0
  obtain ⟨x0, K0, o0⟩ := (opens_slice Try.underlying35 (by kernel_rfl) opens70) _ _ _ _ _ _ hf0
  obtain ⟨A0, len0, cap0, rfl⟩ := okWide_slice Try.underlying35 (hval 0 35 v0 rfl rfl)
  obtain ⟨A0', c0', e0, l0', g0'⟩ := K0
  have e0' : [Value.slice A0 len0 cap0] = [.slice A0' x0.length c0'] := e0
  injection e0' with e0' _
  injection e0' with e10 e20 e30
  subst e10 e20 e30
  have k1 := h1
  have lt1 : ∀ x ∈ p1, x.block < W.heap.size := by obtain ⟨m, hm⟩ := k1; exact DataW.trod_lt m _ _ _ hm
  obtain ⟨f1, hf1⟩ := h1
  obtain ⟨x1, K1, o1⟩ := (opens_string Try.underlying9) _ _ _ _ _ _ hf1
  obtain ⟨y1, rfl⟩ := okWide_string Try.underlying9 (hval 1 9 v1 rfl rfl)
  have e1 : [(.string y1 : Value)] = [(.string x1 : Value)] := K1
  injection e1 with e1 _
  injection e1 with e1
  replace e1 := e1.symm
  subst e1
  have k2 := h2
  have lt2 : ∀ x ∈ p2, x.block < W.heap.size := by obtain ⟨m, hm⟩ := k2; exact DataW.trod_lt m _ _ _ hm
  obtain ⟨f2, hf2⟩ := h2
  obtain ⟨x2, K2, o2⟩ := (opens_string Try.underlying9) _ _ _ _ _ _ hf2
  obtain ⟨y2, rfl⟩ := okWide_string Try.underlying9 (hval 2 9 v2 rfl rfl)
  have e2 : [(.string y2 : Value)] = [(.string x2 : Value)] := K2
  injection e2 with e2 _
  injection e2 with e2
  replace e2 := e2.symm
  subst e2
  clear hA0 hval0 hsz0
  obtain ⟨k, h⟩ := Pure.FnExactSlotOf x0 x1 x2 o0 o1 o2
  refine (QFnExactSlotOf.laws_FnExactSlotOf.calls k _ _ x0 _ _ true W g0' l0' h).mono ?_
  rintro e W' ⟨rfl, hd⟩
  have bel : Below W.heap.size W W' := hd
  exact ⟨_, rfl, _, _, _, [], _, [], hW', trodAll_mk1 (shut_bool Try.underlying4 _), (trodAll_cons_mk (Below.trod laidOut (by kernel_rfl) (of_decide_eq_true (by kernel_rfl)) k0 bel lt0) (trodAll_cons_mk (Below.trod laidOut (by kernel_rfl) (of_decide_eq_true (by kernel_rfl)) k1 bel lt1) (trodAll_cons_mk (Below.trod laidOut (by kernel_rfl) (of_decide_eq_true (by kernel_rfl)) k2 bel lt2) trodAll_mk0))), rfl, bel.frame _, fun h => by cases h⟩
theorem over : Rows.fnExactSlotOfRow.holds Try.pinned (OpenSpec.ofChange Rows.fnExactSlotOfSpec) :=
  OpenClaim.holds_of_wide 8 Try.f8 rfl rfl rfl rfl rfl rfl rfl ⟨rfl, rfl, rfl, rfl, rfl⟩ rfl rfl rfl rfl rfl (by kernel_rfl) Try.func8 (by kernel_rfl)
    (of_decide_eq_true (by kernel_rfl)) (by unfold Func.isWrapper; first | (rw [if_pos (by decide +kernel)]; kernel_rfl) | (rw [if_neg (by decide +kernel)]; exact ⟨rfl, rfl⟩))
    (fun os started H enc _ => lifted os started H enc)
theorem proved : Rows.FnExactSlotOfSaid := over
#print axioms proved
end Go.Proofs.Ytepjnalkpfnmcaa.fnExactSlotOf
namespace Go.Proofs.Ytepjnalkpfnmcaa
/-- The row, under a short name, for the claim. -/
theorem fnExactSlotOf_holds : Rows.FnExactSlotOfSaid := fnExactSlotOf.proved
end Go.Proofs.Ytepjnalkpfnmcaa
