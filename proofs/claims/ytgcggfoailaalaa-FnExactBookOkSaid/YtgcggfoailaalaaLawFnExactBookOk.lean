-- by my own printer (myprint.py, over the kit's print.py)
import Derived.Test.YtgcggfoailaalaaRows
import Derived.Test.YtgcggfoailaalaaQFnExactBookOkx17
import Derived.Test.YtgcggfoailaalaaPureFnExactBookOk
import Derived.Test.YtgcggfoailaalaaOpenVFnExactBookOk
import Derived.WalkKit
import Derived.ProofKit
import Derived.OpenShut
import Derived.ShutString
import Derived.ChangeOld
import Derived.Below
import Derived.SizedLaws
import Derived.Carry
namespace Go.Proofs.Ytgcggfoailaalaa.fnExactBookOk
open Go.ChangeShapes Go.WideShapes Go.ChangeAt Go.RowKit Go.Proofs.YtgcggfoailaalaaW.PrintWords Go.Proofs.Ytgcggfoailaalaa.Opened Go.Proofs.Ytgcggfoailaalaa.QFnExactBookOk
open Go.ChangeMaps (open_string shut_string)
set_option linter.unusedVariables false
set_option linter.unusedSimpArgs false
theorem own : ownKnob Try.prog.godebug = none := by kernel_rfl
theorem laidOut : laidOutB Try.prog = true := by kernel_rfl
set_option maxRecDepth 100000 in
theorem opens138 : Opens Try.prog 138 k138 ok138 := by
  intro H enc w fuel cs r h
  obtain ⟨hl, m, hf⟩ := fields_of Try.underlying138 h
  have hl' : cs.length = 3 := hl.trans (by kernel_rfl)
  obtain ⟨r0, h0⟩ := hf 0 _ rfl
  replace h0 : DataW.trod enc Try.prog w 0 (fun _ => true) true m 9 ((cs.drop 0).take 1) = some r0 := by rw [← show Try.prog.cellsOf 9 = 1 from by kernel_rfl]; exact h0
  obtain ⟨x0, K0, o0⟩ := (opens_string Try.underlying9) _ _ _ _ _ _ h0
  obtain ⟨r1, h1⟩ := hf 1 _ rfl
  replace h1 : DataW.trod enc Try.prog w 0 (fun _ => true) true m 3 ((cs.drop 1).take 1) = some r1 := by rw [← show Try.prog.cellsOf 3 = 1 from by kernel_rfl]; exact h1
  obtain ⟨x1, K1, o1⟩ := (opens_int Try.underlying3) _ _ _ _ _ _ h1
  obtain ⟨r2, h2⟩ := hf 2 _ rfl
  replace h2 : DataW.trod enc Try.prog w 0 (fun _ => true) true m 3 ((cs.drop 2).take 1) = some r2 := by rw [← show Try.prog.cellsOf 3 = 1 from by kernel_rfl]; exact h2
  obtain ⟨x2, K2, o2⟩ := (opens_int Try.underlying3) _ _ _ _ _ _ h2
  refine ⟨⟨x0, x1, x2⟩, ?_, o0, o1, o2⟩
  exact show _ from (chain_cons K0 rfl (chain_cons K1 rfl (chain_last K2 hl' rfl)))
set_option maxRecDepth 100000 in
theorem opens38 : Opens Try.prog 38 k38 ok38 := by
  intro H enc w fuel cs r h
  obtain ⟨hl, m, hf⟩ := fields_of Try.underlying38 h
  have hl' : cs.length = 4 := hl.trans (by kernel_rfl)
  obtain ⟨r0, h0⟩ := hf 0 _ rfl
  replace h0 : DataW.trod enc Try.prog w 0 (fun _ => true) true m 3 ((cs.drop 0).take 1) = some r0 := by rw [← show Try.prog.cellsOf 3 = 1 from by kernel_rfl]; exact h0
  obtain ⟨x0, K0, o0⟩ := (opens_int Try.underlying3) _ _ _ _ _ _ h0
  obtain ⟨r1, h1⟩ := hf 1 _ rfl
  replace h1 : DataW.trod enc Try.prog w 0 (fun _ => true) true m 3 ((cs.drop 1).take 1) = some r1 := by rw [← show Try.prog.cellsOf 3 = 1 from by kernel_rfl]; exact h1
  obtain ⟨x1, K1, o1⟩ := (opens_int Try.underlying3) _ _ _ _ _ _ h1
  obtain ⟨r2, h2⟩ := hf 2 _ rfl
  replace h2 : DataW.trod enc Try.prog w 0 (fun _ => true) true m 36 ((cs.drop 2).take 1) = some r2 := by rw [← show Try.prog.cellsOf 36 = 1 from by kernel_rfl]; exact h2
  obtain ⟨x2, K2, o2⟩ := (opens_slice Try.underlying36 (by kernel_rfl) (opens_int Try.underlying3)) _ _ _ _ _ _ h2
  obtain ⟨r3, h3⟩ := hf 3 _ rfl
  replace h3 : DataW.trod enc Try.prog w 0 (fun _ => true) true m 36 ((cs.drop 3).take 1) = some r3 := by rw [← show Try.prog.cellsOf 36 = 1 from by kernel_rfl]; exact h3
  obtain ⟨x3, K3, o3⟩ := (opens_slice Try.underlying36 (by kernel_rfl) (opens_int Try.underlying3)) _ _ _ _ _ _ h3
  refine ⟨⟨x0, x1, x2, x3⟩, ?_, o0, o1, o2, o3⟩
  exact show _ from (chain_cons K0 rfl (chain_cons K1 rfl (chain_cons K2 rfl (chain_last K3 hl' rfl))))
set_option maxRecDepth 100000 in
theorem opens141 : Opens Try.prog 141 k141 ok141 := by
  intro H enc w fuel cs r h
  obtain ⟨hl, m, hf⟩ := fields_of Try.underlying141 h
  have hl' : cs.length = 3 := hl.trans (by kernel_rfl)
  obtain ⟨r0, h0⟩ := hf 0 _ rfl
  replace h0 : DataW.trod enc Try.prog w 0 (fun _ => true) true m 9 ((cs.drop 0).take 1) = some r0 := by rw [← show Try.prog.cellsOf 9 = 1 from by kernel_rfl]; exact h0
  obtain ⟨x0, K0, o0⟩ := (opens_string Try.underlying9) _ _ _ _ _ _ h0
  obtain ⟨r1, h1⟩ := hf 1 _ rfl
  replace h1 : DataW.trod enc Try.prog w 0 (fun _ => true) true m 9 ((cs.drop 1).take 1) = some r1 := by rw [← show Try.prog.cellsOf 9 = 1 from by kernel_rfl]; exact h1
  obtain ⟨x1, K1, o1⟩ := (opens_string Try.underlying9) _ _ _ _ _ _ h1
  obtain ⟨r2, h2⟩ := hf 2 _ rfl
  replace h2 : DataW.trod enc Try.prog w 0 (fun _ => true) true m 112 ((cs.drop 2).take 1) = some r2 := by rw [← show Try.prog.cellsOf 112 = 1 from by kernel_rfl]; exact h2
  obtain ⟨x2, K2, o2⟩ := (opens_slice Try.underlying112 (by kernel_rfl) (opens_int Try.underlying5)) _ _ _ _ _ _ h2
  refine ⟨⟨x0, x1, x2⟩, ?_, o0, o1, o2⟩
  exact show _ from (chain_cons K0 rfl (chain_cons K1 rfl (chain_last K2 hl' rfl)))
set_option maxRecDepth 100000 in
theorem opens41 : Opens Try.prog 41 k41 ok41 := by
  intro H enc w fuel cs r h
  obtain ⟨hl, m, hf⟩ := fields_of Try.underlying41 h
  have hl' : cs.length = 11 := hl.trans (by kernel_rfl)
  obtain ⟨r0, h0⟩ := hf 0 _ rfl
  replace h0 : DataW.trod enc Try.prog w 0 (fun _ => true) true m 9 ((cs.drop 0).take 1) = some r0 := by rw [← show Try.prog.cellsOf 9 = 1 from by kernel_rfl]; exact h0
  obtain ⟨x0, K0, o0⟩ := (opens_string Try.underlying9) _ _ _ _ _ _ h0
  obtain ⟨r1, h1⟩ := hf 1 _ rfl
  replace h1 : DataW.trod enc Try.prog w 0 (fun _ => true) true m 3 ((cs.drop 1).take 1) = some r1 := by rw [← show Try.prog.cellsOf 3 = 1 from by kernel_rfl]; exact h1
  obtain ⟨x1, K1, o1⟩ := (opens_int Try.underlying3) _ _ _ _ _ _ h1
  obtain ⟨r2, h2⟩ := hf 2 _ rfl
  replace h2 : DataW.trod enc Try.prog w 0 (fun _ => true) true m 3 ((cs.drop 2).take 1) = some r2 := by rw [← show Try.prog.cellsOf 3 = 1 from by kernel_rfl]; exact h2
  obtain ⟨x2, K2, o2⟩ := (opens_int Try.underlying3) _ _ _ _ _ _ h2
  obtain ⟨r3, h3⟩ := hf 3 _ rfl
  replace h3 : DataW.trod enc Try.prog w 0 (fun _ => true) true m 3 ((cs.drop 3).take 1) = some r3 := by rw [← show Try.prog.cellsOf 3 = 1 from by kernel_rfl]; exact h3
  obtain ⟨x3, K3, o3⟩ := (opens_int Try.underlying3) _ _ _ _ _ _ h3
  obtain ⟨r4, h4⟩ := hf 4 _ rfl
  replace h4 : DataW.trod enc Try.prog w 0 (fun _ => true) true m 3 ((cs.drop 4).take 1) = some r4 := by rw [← show Try.prog.cellsOf 3 = 1 from by kernel_rfl]; exact h4
  obtain ⟨x4, K4, o4⟩ := (opens_int Try.underlying3) _ _ _ _ _ _ h4
  obtain ⟨r5, h5⟩ := hf 5 _ rfl
  replace h5 : DataW.trod enc Try.prog w 0 (fun _ => true) true m 35 ((cs.drop 5).take 1) = some r5 := by rw [← show Try.prog.cellsOf 35 = 1 from by kernel_rfl]; exact h5
  obtain ⟨x5, K5, o5⟩ := (opens_slice Try.underlying35 (by kernel_rfl) opens138) _ _ _ _ _ _ h5
  obtain ⟨r6, h6⟩ := hf 6 _ rfl
  replace h6 : DataW.trod enc Try.prog w 0 (fun _ => true) true m 38 ((cs.drop 6).take 4) = some r6 := by rw [← show Try.prog.cellsOf 38 = 4 from by kernel_rfl]; exact h6
  obtain ⟨x6, K6, o6⟩ := opens38 _ _ _ _ _ _ h6
  obtain ⟨r7, h7⟩ := hf 7 _ rfl
  replace h7 : DataW.trod enc Try.prog w 0 (fun _ => true) true m 39 ((cs.drop 10).take 1) = some r7 := by rw [← show Try.prog.cellsOf 39 = 1 from by kernel_rfl]; exact h7
  obtain ⟨x7, K7, o7⟩ := (opens_slice Try.underlying39 (by kernel_rfl) opens141) _ _ _ _ _ _ h7
  refine ⟨⟨x0, x1, x2, x3, x4, x5, x6, x7⟩, ?_, o0, o1, o2, o3, o4, o5, o6, o7⟩
  exact show _ from (chain_cons K0 rfl (chain_cons K1 rfl (chain_cons K2 rfl (chain_cons K3 rfl (chain_cons K4 rfl (chain_cons K5 rfl (chain_cons K6 rfl (chain_last K7 hl' rfl))))))))
set_option maxRecDepth 100000 in
theorem opens59 : Opens Try.prog 59 k59 ok59 := by
  intro H enc w fuel cs r h
  obtain ⟨hl, m, hf⟩ := fields_of Try.underlying59 h
  have hl' : cs.length = 1 := hl.trans (by kernel_rfl)
  obtain ⟨r0, h0⟩ := hf 0 _ rfl
  replace h0 : DataW.trod enc Try.prog w 0 (fun _ => true) true m 57 ((cs.drop 0).take 1) = some r0 := by rw [← show Try.prog.cellsOf 57 = 1 from by kernel_rfl]; exact h0
  obtain ⟨x0, K0, o0⟩ := (opens_slice Try.underlying57 (by kernel_rfl) opens41) _ _ _ _ _ _ h0
  refine ⟨⟨x0⟩, ?_, o0⟩
  exact show _ from (chain_last K0 hl' rfl)
set_option maxRecDepth 100000 in
theorem lifted (os : Os) (started : os.Started) (H : Type) (enc : TypeId × Value → H) :
    ReturnsInHanded {} Try.checked os 7 .any (Rows.fnExactBookOkSpec.pre6 enc Try.prog Try.f7 Rows.fnExactBookOkRow.domain false) (Rows.fnExactBookOkSpec.post enc Try.prog Try.f7 false true false false) := by
  refine returnsInHanded_of_change_sized (C := Try.checked) own started (by kernel_rfl) Try.func7
    (ChangeSpec.witness6 (enc := enc) (C := Try.checked) false ⟨#[], #[.agg #[.slice none 0 0]], []⟩ 8 (by kernel_rfl) (by kernel_rfl) (by kernel_rfl) (by kernel_rfl)) ?_
  intro W base args ds gs before hval0 hW hcnd hsz0 _
  have hval : ∀ (j : Nat) t v, Try.f7.params[j]? = some t → args[j]? = some v → Value.okWide Try.prog W .any base t v := hval0
  have hW' := hW
  obtain ⟨p, q, hA0, hV, rfl, hfz, hnd⟩ := hW
  have hA : DataW.TrodAll enc Try.prog W 0 (fun _ => true) true Try.f7.params.toList args.toList ds p := hA0
  rw [Try.params7] at hA hval
  obtain ⟨v0, vs0, d0, ds0, p0, q0, hargs, rfl, rfl, h0, r0⟩ := trodAll_cons hA
  obtain ⟨rfl, rfl, rfl⟩ := trodAll_nil r0
  obtain rfl : args = #[v0] := by cases args; simp_all
  obtain ⟨rfl, rfl⟩ := trodVars_none hV
  have k0 := h0
  have lt0 : ∀ x ∈ p0, x.block < W.heap.size := by obtain ⟨m, hm⟩ := k0; exact DataW.trod_lt m _ _ _ hm
  obtain ⟨f0, hf0⟩ := h0
  obtain ⟨x0, K0, o0⟩ := opens59 _ _ _ _ _ _ hf0
  obtain ⟨arr0, rfl, _⟩ := okWide_struct Try.underlying59 (hval 0 59 v0 rfl rfl)
  obtain ⟨A0_0, c0_0, e0, l0_0, g0_0⟩ := k59_open K0
  obtain rfl : arr0 = #[.slice A0_0 x0.f0.length c0_0] := by
    apply Array.ext'
    exact e0
  clear hA0 hval0 hsz0
  obtain ⟨k, h⟩ := Pure.FnExactBookOk x0 o0
  refine (QFnExactBookOk.laws_FnExactBookOk.calls k _ _ x0.f0 true W g0_0 l0_0 h).mono ?_
  rintro e W' ⟨rfl, hd⟩
  have bel : Below W.heap.size W W' := hd
  exact ⟨_, rfl, _, _, _, [], _, [], hW', trodAll_mk1 (shut_bool Try.underlying4 _), (trodAll_cons_mk (Below.trod laidOut (by kernel_rfl) (of_decide_eq_true (by kernel_rfl)) k0 bel lt0) trodAll_mk0), rfl, bel.frame _, fun h => by cases h⟩
theorem over : Rows.fnExactBookOkRow.holds Try.pinned (OpenSpec.ofChange Rows.fnExactBookOkSpec) :=
  OpenClaim.holds_of_wide 7 Try.f7 rfl rfl rfl rfl rfl rfl rfl ⟨rfl, rfl, rfl, rfl, rfl⟩ rfl rfl rfl rfl rfl (by kernel_rfl) Try.func7 (by kernel_rfl)
    (of_decide_eq_true (by kernel_rfl)) (by unfold Func.isWrapper; first | (rw [if_pos (by decide +kernel)]; kernel_rfl) | (rw [if_neg (by decide +kernel)]; exact ⟨rfl, rfl⟩))
    (fun os started H enc _ => lifted os started H enc)
theorem proved : Rows.FnExactBookOkSaid := over
#print axioms proved
end Go.Proofs.Ytgcggfoailaalaa.fnExactBookOk
namespace Go.Proofs.Ytgcggfoailaalaa
/-- The row, under a short name, for the claim. -/
theorem fnExactBookOk_holds : Rows.FnExactBookOkSaid := fnExactBookOk.proved
end Go.Proofs.Ytgcggfoailaalaa
