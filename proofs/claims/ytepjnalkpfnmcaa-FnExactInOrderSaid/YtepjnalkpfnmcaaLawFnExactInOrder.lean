-- by my own printer (myprint.py, over the kit's print.py)
import Derived.Test.YtepjnalkpfnmcaaRows
import Derived.Test.YtepjnalkpfnmcaaQFnExactInOrderx12
import Derived.Test.YtepjnalkpfnmcaaPureFnExactInOrder
import Derived.Test.YtepjnalkpfnmcaaOpenVFnExactInOrder
import Derived.WalkKit
import Derived.ProofKit
import Derived.OpenShut
import Derived.ShutString
import Derived.ChangeOld
import Derived.Below
import Derived.SizedLaws
import Derived.Carry
namespace Go.Proofs.Ytepjnalkpfnmcaa.fnExactInOrder
open Go.ChangeShapes Go.WideShapes Go.ChangeAt Go.RowKit Go.Proofs.YtepjnalkpfnmcaaW.PrintWords Go.Proofs.Ytepjnalkpfnmcaa.Opened Go.Proofs.Ytepjnalkpfnmcaa.QFnExactInOrder
open Go.ChangeMaps (open_string shut_string)
set_option linter.unusedVariables false
set_option linter.unusedSimpArgs false
theorem own : ownKnob Try.prog.godebug = none := by kernel_rfl
theorem laidOut : laidOutB Try.prog = true := by kernel_rfl
set_option maxRecDepth 100000 in
theorem opens89 : Opens Try.prog 89 k89 ok89 := by
  intro H enc w fuel cs r h
  obtain ⟨hl, m, hf⟩ := fields_of Try.underlying89 h
  have hl' : cs.length = 3 := hl.trans (by kernel_rfl)
  obtain ⟨r0, h0⟩ := hf 0 _ rfl
  replace h0 : DataW.trod enc Try.prog w 0 (fun _ => true) true m 9 ((cs.drop 0).take 1) = some r0 := by rw [← show Try.prog.cellsOf 9 = 1 from by kernel_rfl]; exact h0
  obtain ⟨x0, K0, o0⟩ := (opens_string Try.underlying9) _ _ _ _ _ _ h0
  obtain ⟨r1, h1⟩ := hf 1 _ rfl
  replace h1 : DataW.trod enc Try.prog w 0 (fun _ => true) true m 3 ((cs.drop 1).take 1) = some r1 := by rw [← show Try.prog.cellsOf 3 = 1 from by kernel_rfl]; exact h1
  obtain ⟨x1, K1, o1⟩ := (opens_int Try.underlying3) _ _ _ _ _ _ h1
  obtain ⟨r2, h2⟩ := hf 2 _ rfl
  replace h2 : DataW.trod enc Try.prog w 0 (fun _ => true) true m 3 ((cs.drop 2).take 1) = some r2 := by rw [← show Try.prog.cellsOf 3 = 1 from by kernel_rfl]; exact h2
  obtain ⟨x2, K2, o2⟩ := (opens_int Try.underlying3) _ _ _ _ _ _ h2
  refine ⟨⟨x0, x1, x2⟩, ?_, o0, o1, o2⟩
  exact show _ from (chain_cons K0 rfl (chain_cons K1 rfl (chain_last K2 hl' rfl)))
set_option maxRecDepth 100000 in
theorem opens34 : Opens Try.prog 34 k34 ok34 := by
  intro H enc w fuel cs r h
  obtain ⟨hl, m, hf⟩ := fields_of Try.underlying34 h
  have hl' : cs.length = 4 := hl.trans (by kernel_rfl)
  obtain ⟨r0, h0⟩ := hf 0 _ rfl
  replace h0 : DataW.trod enc Try.prog w 0 (fun _ => true) true m 3 ((cs.drop 0).take 1) = some r0 := by rw [← show Try.prog.cellsOf 3 = 1 from by kernel_rfl]; exact h0
  obtain ⟨x0, K0, o0⟩ := (opens_int Try.underlying3) _ _ _ _ _ _ h0
  obtain ⟨r1, h1⟩ := hf 1 _ rfl
  replace h1 : DataW.trod enc Try.prog w 0 (fun _ => true) true m 3 ((cs.drop 1).take 1) = some r1 := by rw [← show Try.prog.cellsOf 3 = 1 from by kernel_rfl]; exact h1
  obtain ⟨x1, K1, o1⟩ := (opens_int Try.underlying3) _ _ _ _ _ _ h1
  obtain ⟨r2, h2⟩ := hf 2 _ rfl
  replace h2 : DataW.trod enc Try.prog w 0 (fun _ => true) true m 32 ((cs.drop 2).take 1) = some r2 := by rw [← show Try.prog.cellsOf 32 = 1 from by kernel_rfl]; exact h2
  obtain ⟨x2, K2, o2⟩ := (opens_slice Try.underlying32 (by kernel_rfl) (opens_int Try.underlying3)) _ _ _ _ _ _ h2
  obtain ⟨r3, h3⟩ := hf 3 _ rfl
  replace h3 : DataW.trod enc Try.prog w 0 (fun _ => true) true m 32 ((cs.drop 3).take 1) = some r3 := by rw [← show Try.prog.cellsOf 32 = 1 from by kernel_rfl]; exact h3
  obtain ⟨x3, K3, o3⟩ := (opens_slice Try.underlying32 (by kernel_rfl) (opens_int Try.underlying3)) _ _ _ _ _ _ h3
  refine ⟨⟨x0, x1, x2, x3⟩, ?_, o0, o1, o2, o3⟩
  exact show _ from (chain_cons K0 rfl (chain_cons K1 rfl (chain_cons K2 rfl (chain_last K3 hl' rfl))))
set_option maxRecDepth 100000 in
theorem opens70 : Opens Try.prog 70 k70 ok70 := by
  intro H enc w fuel cs r h
  obtain ⟨hl, m, hf⟩ := fields_of Try.underlying70 h
  have hl' : cs.length = 3 := hl.trans (by kernel_rfl)
  obtain ⟨r0, h0⟩ := hf 0 _ rfl
  replace h0 : DataW.trod enc Try.prog w 0 (fun _ => true) true m 9 ((cs.drop 0).take 1) = some r0 := by rw [← show Try.prog.cellsOf 9 = 1 from by kernel_rfl]; exact h0
  obtain ⟨x0, K0, o0⟩ := (opens_string Try.underlying9) _ _ _ _ _ _ h0
  obtain ⟨r1, h1⟩ := hf 1 _ rfl
  replace h1 : DataW.trod enc Try.prog w 0 (fun _ => true) true m 9 ((cs.drop 1).take 1) = some r1 := by rw [← show Try.prog.cellsOf 9 = 1 from by kernel_rfl]; exact h1
  obtain ⟨x1, K1, o1⟩ := (opens_string Try.underlying9) _ _ _ _ _ _ h1
  obtain ⟨r2, h2⟩ := hf 2 _ rfl
  replace h2 : DataW.trod enc Try.prog w 0 (fun _ => true) true m 60 ((cs.drop 2).take 1) = some r2 := by rw [← show Try.prog.cellsOf 60 = 1 from by kernel_rfl]; exact h2
  obtain ⟨x2, K2, o2⟩ := (opens_slice Try.underlying60 (by kernel_rfl) (opens_int Try.underlying5)) _ _ _ _ _ _ h2
  refine ⟨⟨x0, x1, x2⟩, ?_, o0, o1, o2⟩
  exact show _ from (chain_cons K0 rfl (chain_cons K1 rfl (chain_last K2 hl' rfl)))
set_option maxRecDepth 100000 in
theorem opens37 : Opens Try.prog 37 k37 ok37 := by
  intro H enc w fuel cs r h
  obtain ⟨hl, m, hf⟩ := fields_of Try.underlying37 h
  have hl' : cs.length = 11 := hl.trans (by kernel_rfl)
  obtain ⟨r0, h0⟩ := hf 0 _ rfl
  replace h0 : DataW.trod enc Try.prog w 0 (fun _ => true) true m 9 ((cs.drop 0).take 1) = some r0 := by rw [← show Try.prog.cellsOf 9 = 1 from by kernel_rfl]; exact h0
  obtain ⟨x0, K0, o0⟩ := (opens_string Try.underlying9) _ _ _ _ _ _ h0
  obtain ⟨r1, h1⟩ := hf 1 _ rfl
  replace h1 : DataW.trod enc Try.prog w 0 (fun _ => true) true m 3 ((cs.drop 1).take 1) = some r1 := by rw [← show Try.prog.cellsOf 3 = 1 from by kernel_rfl]; exact h1
  obtain ⟨x1, K1, o1⟩ := (opens_int Try.underlying3) _ _ _ _ _ _ h1
  obtain ⟨r2, h2⟩ := hf 2 _ rfl
  replace h2 : DataW.trod enc Try.prog w 0 (fun _ => true) true m 3 ((cs.drop 2).take 1) = some r2 := by rw [← show Try.prog.cellsOf 3 = 1 from by kernel_rfl]; exact h2
  obtain ⟨x2, K2, o2⟩ := (opens_int Try.underlying3) _ _ _ _ _ _ h2
  obtain ⟨r3, h3⟩ := hf 3 _ rfl
  replace h3 : DataW.trod enc Try.prog w 0 (fun _ => true) true m 3 ((cs.drop 3).take 1) = some r3 := by rw [← show Try.prog.cellsOf 3 = 1 from by kernel_rfl]; exact h3
  obtain ⟨x3, K3, o3⟩ := (opens_int Try.underlying3) _ _ _ _ _ _ h3
  obtain ⟨r4, h4⟩ := hf 4 _ rfl
  replace h4 : DataW.trod enc Try.prog w 0 (fun _ => true) true m 3 ((cs.drop 4).take 1) = some r4 := by rw [← show Try.prog.cellsOf 3 = 1 from by kernel_rfl]; exact h4
  obtain ⟨x4, K4, o4⟩ := (opens_int Try.underlying3) _ _ _ _ _ _ h4
  obtain ⟨r5, h5⟩ := hf 5 _ rfl
  replace h5 : DataW.trod enc Try.prog w 0 (fun _ => true) true m 22 ((cs.drop 5).take 1) = some r5 := by rw [← show Try.prog.cellsOf 22 = 1 from by kernel_rfl]; exact h5
  obtain ⟨x5, K5, o5⟩ := (opens_slice Try.underlying22 (by kernel_rfl) opens89) _ _ _ _ _ _ h5
  obtain ⟨r6, h6⟩ := hf 6 _ rfl
  replace h6 : DataW.trod enc Try.prog w 0 (fun _ => true) true m 34 ((cs.drop 6).take 4) = some r6 := by rw [← show Try.prog.cellsOf 34 = 4 from by kernel_rfl]; exact h6
  obtain ⟨x6, K6, o6⟩ := opens34 _ _ _ _ _ _ h6
  obtain ⟨r7, h7⟩ := hf 7 _ rfl
  replace h7 : DataW.trod enc Try.prog w 0 (fun _ => true) true m 35 ((cs.drop 10).take 1) = some r7 := by rw [← show Try.prog.cellsOf 35 = 1 from by kernel_rfl]; exact h7
  obtain ⟨x7, K7, o7⟩ := (opens_slice Try.underlying35 (by kernel_rfl) opens70) _ _ _ _ _ _ h7
  refine ⟨⟨x0, x1, x2, x3, x4, x5, x6, x7⟩, ?_, o0, o1, o2, o3, o4, o5, o6, o7⟩
  exact show _ from (chain_cons K0 rfl (chain_cons K1 rfl (chain_cons K2 rfl (chain_cons K3 rfl (chain_cons K4 rfl (chain_cons K5 rfl (chain_cons K6 rfl (chain_last K7 hl' rfl))))))))
set_option maxRecDepth 100000 in
theorem opens162 : Opens Try.prog 162 k162 ok162 := by
  intro H enc w fuel cs r h
  obtain ⟨hl, m, hf⟩ := fields_of Try.underlying162 h
  have hl' : cs.length = 2 := hl.trans (by kernel_rfl)
  obtain ⟨r0, h0⟩ := hf 0 _ rfl
  replace h0 : DataW.trod enc Try.prog w 0 (fun _ => true) true m 3 ((cs.drop 0).take 1) = some r0 := by rw [← show Try.prog.cellsOf 3 = 1 from by kernel_rfl]; exact h0
  obtain ⟨x0, K0, o0⟩ := (opens_int Try.underlying3) _ _ _ _ _ _ h0
  obtain ⟨r1, h1⟩ := hf 1 _ rfl
  replace h1 : DataW.trod enc Try.prog w 0 (fun _ => true) true m 160 ((cs.drop 1).take 1) = some r1 := by rw [← show Try.prog.cellsOf 160 = 1 from by kernel_rfl]; exact h1
  obtain ⟨x1, K1, o1⟩ := (opens_slice Try.underlying160 (by kernel_rfl) opens37) _ _ _ _ _ _ h1
  refine ⟨⟨x0, x1⟩, ?_, o0, o1⟩
  exact show _ from (chain_cons K0 rfl (chain_last K1 hl' rfl))
set_option maxRecDepth 100000 in
theorem opens164 : Opens Try.prog 164 k164 ok164 := by
  intro H enc w fuel cs r h
  obtain ⟨hl, m, hf⟩ := fields_of Try.underlying164 h
  have hl' : cs.length = 9 := hl.trans (by kernel_rfl)
  obtain ⟨r0, h0⟩ := hf 0 _ rfl
  replace h0 : DataW.trod enc Try.prog w 0 (fun _ => true) true m 60 ((cs.drop 0).take 1) = some r0 := by rw [← show Try.prog.cellsOf 60 = 1 from by kernel_rfl]; exact h0
  obtain ⟨x0, K0, o0⟩ := (opens_slice Try.underlying60 (by kernel_rfl) (opens_int Try.underlying5)) _ _ _ _ _ _ h0
  obtain ⟨r1, h1⟩ := hf 1 _ rfl
  replace h1 : DataW.trod enc Try.prog w 0 (fun _ => true) true m 3 ((cs.drop 1).take 1) = some r1 := by rw [← show Try.prog.cellsOf 3 = 1 from by kernel_rfl]; exact h1
  obtain ⟨x1, K1, o1⟩ := (opens_int Try.underlying3) _ _ _ _ _ _ h1
  obtain ⟨r2, h2⟩ := hf 2 _ rfl
  replace h2 : DataW.trod enc Try.prog w 0 (fun _ => true) true m 32 ((cs.drop 2).take 1) = some r2 := by rw [← show Try.prog.cellsOf 32 = 1 from by kernel_rfl]; exact h2
  obtain ⟨x2, K2, o2⟩ := (opens_slice Try.underlying32 (by kernel_rfl) (opens_int Try.underlying3)) _ _ _ _ _ _ h2
  obtain ⟨r3, h3⟩ := hf 3 _ rfl
  replace h3 : DataW.trod enc Try.prog w 0 (fun _ => true) true m 3 ((cs.drop 3).take 1) = some r3 := by rw [← show Try.prog.cellsOf 3 = 1 from by kernel_rfl]; exact h3
  obtain ⟨x3, K3, o3⟩ := (opens_int Try.underlying3) _ _ _ _ _ _ h3
  obtain ⟨r4, h4⟩ := hf 4 _ rfl
  replace h4 : DataW.trod enc Try.prog w 0 (fun _ => true) true m 3 ((cs.drop 4).take 1) = some r4 := by rw [← show Try.prog.cellsOf 3 = 1 from by kernel_rfl]; exact h4
  obtain ⟨x4, K4, o4⟩ := (opens_int Try.underlying3) _ _ _ _ _ _ h4
  obtain ⟨r5, h5⟩ := hf 5 _ rfl
  replace h5 : DataW.trod enc Try.prog w 0 (fun _ => true) true m 3 ((cs.drop 5).take 1) = some r5 := by rw [← show Try.prog.cellsOf 3 = 1 from by kernel_rfl]; exact h5
  obtain ⟨x5, K5, o5⟩ := (opens_int Try.underlying3) _ _ _ _ _ _ h5
  obtain ⟨r6, h6⟩ := hf 6 _ rfl
  replace h6 : DataW.trod enc Try.prog w 0 (fun _ => true) true m 3 ((cs.drop 6).take 1) = some r6 := by rw [← show Try.prog.cellsOf 3 = 1 from by kernel_rfl]; exact h6
  obtain ⟨x6, K6, o6⟩ := (opens_int Try.underlying3) _ _ _ _ _ _ h6
  obtain ⟨r7, h7⟩ := hf 7 _ rfl
  replace h7 : DataW.trod enc Try.prog w 0 (fun _ => true) true m 3 ((cs.drop 7).take 1) = some r7 := by rw [← show Try.prog.cellsOf 3 = 1 from by kernel_rfl]; exact h7
  obtain ⟨x7, K7, o7⟩ := (opens_int Try.underlying3) _ _ _ _ _ _ h7
  obtain ⟨r8, h8⟩ := hf 8 _ rfl
  replace h8 : DataW.trod enc Try.prog w 0 (fun _ => true) true m 60 ((cs.drop 8).take 1) = some r8 := by rw [← show Try.prog.cellsOf 60 = 1 from by kernel_rfl]; exact h8
  obtain ⟨x8, K8, o8⟩ := (opens_slice Try.underlying60 (by kernel_rfl) (opens_int Try.underlying5)) _ _ _ _ _ _ h8
  refine ⟨⟨x0, x1, x2, x3, x4, x5, x6, x7, x8⟩, ?_, o0, o1, o2, o3, o4, o5, o6, o7, o8⟩
  exact show _ from (chain_cons K0 rfl (chain_cons K1 rfl (chain_cons K2 rfl (chain_cons K3 rfl (chain_cons K4 rfl (chain_cons K5 rfl (chain_cons K6 rfl (chain_cons K7 rfl (chain_last K8 hl' rfl)))))))))
set_option maxRecDepth 100000 in
theorem opens50 : Opens Try.prog 50 k50 ok50 := by
  intro H enc w fuel cs r h
  obtain ⟨hl, m, hf⟩ := fields_of Try.underlying50 h
  have hl' : cs.length = 4 := hl.trans (by kernel_rfl)
  obtain ⟨r0, h0⟩ := hf 0 _ rfl
  replace h0 : DataW.trod enc Try.prog w 0 (fun _ => true) true m 47 ((cs.drop 0).take 1) = some r0 := by rw [← show Try.prog.cellsOf 47 = 1 from by kernel_rfl]; exact h0
  obtain ⟨x0, K0, o0⟩ := (opens_slice Try.underlying47 (by kernel_rfl) opens162) _ _ _ _ _ _ h0
  obtain ⟨r1, h1⟩ := hf 1 _ rfl
  replace h1 : DataW.trod enc Try.prog w 0 (fun _ => true) true m 3 ((cs.drop 1).take 1) = some r1 := by rw [← show Try.prog.cellsOf 3 = 1 from by kernel_rfl]; exact h1
  obtain ⟨x1, K1, o1⟩ := (opens_int Try.underlying3) _ _ _ _ _ _ h1
  obtain ⟨r2, h2⟩ := hf 2 _ rfl
  replace h2 : DataW.trod enc Try.prog w 0 (fun _ => true) true m 3 ((cs.drop 2).take 1) = some r2 := by rw [← show Try.prog.cellsOf 3 = 1 from by kernel_rfl]; exact h2
  obtain ⟨x2, K2, o2⟩ := (opens_int Try.underlying3) _ _ _ _ _ _ h2
  obtain ⟨r3, h3⟩ := hf 3 _ rfl
  replace h3 : DataW.trod enc Try.prog w 0 (fun _ => true) true m 48 ((cs.drop 3).take 1) = some r3 := by rw [← show Try.prog.cellsOf 48 = 1 from by kernel_rfl]; exact h3
  obtain ⟨x3, K3, o3⟩ := (opens_slice Try.underlying48 (by kernel_rfl) opens164) _ _ _ _ _ _ h3
  refine ⟨⟨x0, x1, x2, x3⟩, ?_, o0, o1, o2, o3⟩
  exact show _ from (chain_cons K0 rfl (chain_cons K1 rfl (chain_cons K2 rfl (chain_last K3 hl' rfl))))
set_option maxRecDepth 100000 in
theorem lifted (os : Os) (started : os.Started) (H : Type) (enc : TypeId × Value → H) :
    ReturnsInHanded {} Try.checked os 14 .any (Rows.fnExactInOrderSpec.pre6 enc Try.prog Try.f14 Rows.fnExactInOrderRow.domain false) (Rows.fnExactInOrderSpec.post enc Try.prog Try.f14 false true false false) := by
  refine returnsInHanded_of_change_sized (C := Try.checked) own started (by kernel_rfl) Try.func14
    (ChangeSpec.witness6 (enc := enc) (C := Try.checked) false ⟨#[], #[.agg #[.slice none 0 0, .int .i64 0, .int .i64 0, .slice none 0 0]], []⟩ 8 (by kernel_rfl) (by kernel_rfl) (by kernel_rfl) (by kernel_rfl)) ?_
  intro W base args ds gs before hval0 hW hcnd hsz0 _
  have hval : ∀ (j : Nat) t v, Try.f14.params[j]? = some t → args[j]? = some v → Value.okWide Try.prog W .any base t v := hval0
  have hW' := hW
  obtain ⟨p, q, hA0, hV, rfl, hfz, hnd⟩ := hW
  have hA : DataW.TrodAll enc Try.prog W 0 (fun _ => true) true Try.f14.params.toList args.toList ds p := hA0
  rw [Try.params14] at hA hval
  obtain ⟨v0, vs0, d0, ds0, p0, q0, hargs, rfl, rfl, h0, r0⟩ := trodAll_cons hA
  obtain ⟨rfl, rfl, rfl⟩ := trodAll_nil r0
  obtain rfl : args = #[v0] := by cases args; simp_all
  obtain ⟨rfl, rfl⟩ := trodVars_none hV
  have k0 := h0
  have lt0 : ∀ x ∈ p0, x.block < W.heap.size := by obtain ⟨m, hm⟩ := k0; exact DataW.trod_lt m _ _ _ hm
  obtain ⟨f0, hf0⟩ := h0
  obtain ⟨x0, K0, o0⟩ := opens50 _ _ _ _ _ _ hf0
  obtain ⟨arr0, rfl, _⟩ := okWide_struct Try.underlying50 (hval 0 50 v0 rfl rfl)
  obtain ⟨A0_0, c0_0, A0_3, c0_3, e0, l0_0, g0_0, l0_3, g0_3⟩ := k50_open K0
  obtain rfl : arr0 = #[.slice A0_0 x0.f0.length c0_0, .int .i64 x0.f1, .int .i64 x0.f2, .slice A0_3 x0.f3.length c0_3] := by
    apply Array.ext'
    exact e0
  clear hA0 hval0 hsz0
  obtain ⟨k, h⟩ := Pure.FnExactInOrder x0 o0
  refine (QFnExactInOrder.laws_FnExactInOrder.calls k _ _ x0.f0 x0.f1 x0.f2 _ _ x0.f3 true W g0_0 l0_0 g0_3 l0_3 h).mono ?_
  rintro e W' ⟨rfl, hd⟩
  have bel : Below W.heap.size W W' := hd
  exact ⟨_, rfl, _, _, _, [], _, [], hW', trodAll_mk1 (shut_bool Try.underlying4 _), (trodAll_cons_mk (Below.trod laidOut (by kernel_rfl) (of_decide_eq_true (by kernel_rfl)) k0 bel lt0) trodAll_mk0), rfl, bel.frame _, fun h => by cases h⟩
theorem over : Rows.fnExactInOrderRow.holds Try.pinned (OpenSpec.ofChange Rows.fnExactInOrderSpec) :=
  OpenClaim.holds_of_wide 14 Try.f14 rfl rfl rfl rfl rfl rfl rfl ⟨rfl, rfl, rfl, rfl, rfl⟩ rfl rfl rfl rfl rfl (by kernel_rfl) Try.func14 (by kernel_rfl)
    (of_decide_eq_true (by kernel_rfl)) (by unfold Func.isWrapper; first | (rw [if_pos (by decide +kernel)]; kernel_rfl) | (rw [if_neg (by decide +kernel)]; exact ⟨rfl, rfl⟩))
    (fun os started H enc _ => lifted os started H enc)
theorem proved : Rows.FnExactInOrderSaid := over
#print axioms proved
end Go.Proofs.Ytepjnalkpfnmcaa.fnExactInOrder
namespace Go.Proofs.Ytepjnalkpfnmcaa
/-- The row, under a short name, for the claim. -/
theorem fnExactInOrder_holds : Rows.FnExactInOrderSaid := fnExactInOrder.proved
end Go.Proofs.Ytepjnalkpfnmcaa
