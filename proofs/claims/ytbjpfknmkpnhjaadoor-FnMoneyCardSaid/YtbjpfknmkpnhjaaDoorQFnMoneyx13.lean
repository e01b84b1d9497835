-- by my own printer (myprint.py, over the kit's print.py)
import Derived.Test.YtbjpfknmkpnhjaaDoorQFnMoneyx0
import Derived.Test.YtbjpfknmkpnhjaaDoorQFnMoneyx1
import Derived.Test.YtbjpfknmkpnhjaaDoorQFnMoneyx6
import Derived.Test.YtbjpfknmkpnhjaaDoorQFnMoneyx9
import Derived.Test.YtbjpfknmkpnhjaaDoorQFnMoneyx10
import Derived.Test.YtbjpfknmkpnhjaaDoorQFnMoneyx12
namespace Go.Proofs.YtbjpfknmkpnhjaaDoor.QFnMoney
open Go.RowKit Go.Proofs.YtbjpfknmkpnhjaaDoorW.PrintWords Go.Proofs.YtbjpfknmkpnhjaaDoorW.PrintLast Go.Proofs.YtbjpfknmkpnhjaaDoorW.PrintMore
attribute [local go_sem] max2_int min2_int max_two min_two max_three min_three max_four min_four   -- for this text's walks alone
set_option linter.unusedVariables false
set_option linter.unusedSimpArgs false
attribute [local go_sem] my_geq my_leq my_gtr
abbrev tb10_0_13 : Array Bool := #[b0, b0, b0, b0, b0, b0, b0, b0, b0, b0]
abbrev tb10_1_13 : Array Bool := #[b1, b0, b0, b0, b0, b0, b0, b0, b0, b0]
abbrev tb10_1f_13 : Array Bool := #[b1, b1, b1, b1, b1, b0, b0, b0, b0, b0]
abbrev tb10_1ff_13 : Array Bool := #[b1, b1, b1, b1, b1, b1, b1, b1, b1, b0]
abbrev tb10_3f_13 : Array Bool := #[b1, b1, b1, b1, b1, b1, b0, b0, b0, b0]
abbrev tb10_3ff_13 : Array Bool := #[b1, b1, b1, b1, b1, b1, b1, b1, b1, b1]
abbrev tb10_5_13 : Array Bool := #[b1, b0, b1, b0, b0, b0, b0, b0, b0, b0]
abbrev tb10_7_13 : Array Bool := #[b1, b1, b1, b0, b0, b0, b0, b0, b0, b0]
abbrev tb10_7f_13 : Array Bool := #[b1, b1, b1, b1, b1, b1, b1, b0, b0, b0]
abbrev tb10_f_13 : Array Bool := #[b1, b1, b1, b1, b0, b0, b0, b0, b0, b0]
abbrev tb10_ff_13 : Array Bool := #[b1, b1, b1, b1, b1, b1, b1, b1, b0, b0]
abbrev tb11_0_13 : Array Bool := #[b0, b0, b0, b0, b0, b0, b0, b0, b0, b0, b0]
abbrev tb11_1_13 : Array Bool := #[b1, b0, b0, b0, b0, b0, b0, b0, b0, b0, b0]
abbrev tb11_1f_13 : Array Bool := #[b1, b1, b1, b1, b1, b0, b0, b0, b0, b0, b0]
abbrev tb11_1ff_13 : Array Bool := #[b1, b1, b1, b1, b1, b1, b1, b1, b1, b0, b0]
abbrev tb11_3_13 : Array Bool := #[b1, b1, b0, b0, b0, b0, b0, b0, b0, b0, b0]
abbrev tb11_3f_13 : Array Bool := #[b1, b1, b1, b1, b1, b1, b0, b0, b0, b0, b0]
abbrev tb11_3ff_13 : Array Bool := #[b1, b1, b1, b1, b1, b1, b1, b1, b1, b1, b0]
abbrev tb11_7f_13 : Array Bool := #[b1, b1, b1, b1, b1, b1, b1, b0, b0, b0, b0]
abbrev tb11_7ff_13 : Array Bool := #[b1, b1, b1, b1, b1, b1, b1, b1, b1, b1, b1]
abbrev tb11_b_13 : Array Bool := #[b1, b1, b0, b1, b0, b0, b0, b0, b0, b0, b0]
abbrev tb11_f_13 : Array Bool := #[b1, b1, b1, b1, b0, b0, b0, b0, b0, b0, b0]
abbrev tb11_ff_13 : Array Bool := #[b1, b1, b1, b1, b1, b1, b1, b1, b0, b0, b0]
/-! ### spec_l09Draw: function 24 -/
mutual
def spec_l09Draw.j0 : Nat → List Int → Int → Int → ByteArray → Int → Int → Int → Int → List (S116) → Int → Int → List Int → List Int → List (S122) → Option (ByteArray × Int × Int × Int × Int × (List (S116)) × Int × Int × List Int × List Int × (List (S122)) × Int × Int)
 | 0, _, _, _, _, _, _, _, _, _, _, _, _, _, _ => none
 | k + 1, x1000, x1001, x1002, x481000, x481001, x481002, x481003, x481004, x481005, x481006, x481007, x481008, x481009, x481010 => (spec_Stored.f k x481005).bind fun t498 => (if x481001 > t498 then ((spec_l01Once.f x1000 x1001 x1002 2).bind fun bt499 => (spec_l09Draw.j1 k bt499.1 x1000 bt499.2.1 bt499.2.2 x481000 x481001 x481002 x481003 x481004 x481005 x481006 x481007 x481008 x481009 x481010)) else (spec_l09Draw.j1 k false x1000 x1001 x1002 x481000 x481001 x481002 x481003 x481004 x481005 x481006 x481007 x481008 x481009 x481010))
def spec_l09Draw.j1 : Nat → Bool → List Int → Int → Int → ByteArray → Int → Int → Int → Int → List (S116) → Int → Int → List Int → List Int → List (S122) → Option (ByteArray × Int × Int × Int × Int × (List (S116)) × Int × Int × List Int × List Int × (List (S122)) × Int × Int)
 | 0, _, _, _, _, _, _, _, _, _, _, _, _, _, _, _ => none
 | k + 1, x50, x1000, x1001, x1002, x481000, x481001, x481002, x481003, x481004, x481005, x481006, x481007, x481008, x481009, x481010 => if x50 = true then ((spec_Stored.f k x481005).bind fun t502 => ((spec_l01Below.f x1000 x1001 x1002 (wrap64 ((wrap64 (x481001 - t502)) + 1))).bind fun bt503 => (spec_l09Draw.j2 k x1000 bt503.2.1 bt503.2.2 x481000 x481001 bt503.1 x481003 x481004 x481005 x481006 x481007 x481008 x481009 x481010))) else (spec_l09Draw.j2 k x1000 x1001 x1002 x481000 x481001 x481002 x481003 x481004 x481005 x481006 x481007 x481008 x481009 x481010)
def spec_l09Draw.j2 : Nat → List Int → Int → Int → ByteArray → Int → Int → Int → Int → List (S116) → Int → Int → List Int → List Int → List (S122) → Option (ByteArray × Int × Int × Int × Int × (List (S116)) × Int × Int × List Int × List Int × (List (S122)) × Int × Int)
 | 0, _, _, _, _, _, _, _, _, _, _, _, _, _, _ => none
 | k + 1, x1000, x1001, x1002, x481000, x481001, x481002, x481003, x481004, x481005, x481006, x481007, x481008, x481009, x481010 => (spec_l01Once.f x1000 x1001 x1002 3).bind fun bt506 => (if bt506.1 = true then ((spec_l08Draw.f k x1000 bt506.2.1 bt506.2.2).bind fun bt509 => (some (x481000, x481001, x481002, x481003, x481004, x481005, x481006, x481007, x481008, x481009, bt509.1, bt509.2.1, bt509.2.2))) else (some (x481000, x481001, x481002, x481003, x481004, x481005, x481006, x481007, x481008, x481009, x481010, bt506.2.1, bt506.2.2)))
end
def spec_l09Draw.f (k : Nat) (s0_0 : List Int) (s0_1 : Int) (s0_2 : Int) (a1 : ByteArray) : Option (ByteArray × Int × Int × Int × Int × (List (S116)) × Int × Int × List Int × List Int × (List (S122)) × Int × Int) := (spec_l01Pick.f s0_0 s0_1 s0_2 (([100, 200, 60, 0, 9007199254740992] : List Int))).bind fun bt439 => ((spec_l01Pick.f s0_0 bt439.2.1 bt439.2.2 (([2, 3, 5, 1000] : List Int))).bind fun bt445 => ((spec_l01Pick.f s0_0 bt445.2.1 bt445.2.2 (([60, 120, 1000, 9007199254740992] : List Int))).bind fun bt451 => ((spec_l01Below.f s0_0 bt451.2.1 bt451.2.2 4).bind fun bt454 => ((spec_l01Below.f s0_0 bt454.2.1 bt454.2.2 5).bind fun bt457 => ((spec_AcctNew.f k a1 bt439.1 bt445.1 bt451.1 (wrap64 (1 + bt454.1)) (wrap64 (1 + bt457.1))).bind fun bt460 => ((spec_l06Draw.f k s0_0 bt457.2.1 bt457.2.2).bind fun bt481 => ((spec_l07Draw.f k s0_0 bt481.2.2.2.2.1 bt481.2.2.2.2.2).bind fun bt491 => ((spec_Stored.f k bt491.1).bind fun t496 => ((spec_AddSat.f t496 0).bind fun t497 => (if t497 ≤ bt460.2.1 then (spec_l09Draw.j0 k s0_0 bt491.2.1 bt491.2.2 bt460.1 bt460.2.1 bt460.2.2.1 bt460.2.2.2.1 bt460.2.2.2.2.1 bt491.1 bt481.1 bt481.2.1 bt481.2.2.1 bt481.2.2.2.1 bt460.2.2.2.2.2.2.2.2.2.2.1) else (spec_l09Draw.j0 k s0_0 bt491.2.1 bt491.2.2 bt460.1 bt460.2.1 bt460.2.2.1 bt460.2.2.2.1 bt460.2.2.2.2.1 bt460.2.2.2.2.2.1 bt481.1 bt481.2.1 bt481.2.2.1 bt481.2.2.2.1 bt460.2.2.2.2.2.2.2.2.2.2.1)))))))))))
def spec_l09Draw.T6 : Bool × List (List Nat × List Nat) := (true, [([], []), ([0], [0]), ([], []), ([2], [2]), ([3], [3]), ([1, 4], [1, 4]), ([5, 4], [5]), ([6], [6]), ([7, 6, 6], [6, 7]), ([6, 8], [6, 8])])
def spec_l09Draw.B6 : List Nat := [0, 1, 0, 4, 12, 31, 63, 127, 255, 511]
theorem spec_l09Draw.tab6 : rtab .any (opsOf Tryd.f24 6) = spec_l09Draw.T6 := by kernel_rfl
theorem spec_l09Draw.bits6 : waitsOk spec_l09Draw.T6.2 spec_l09Draw.B6 = true := by kernel_rfl
def spec_l09Draw.T7 : Bool × List (List Nat × List Nat) := (true, [([], []), ([], []), ([1], [1]), ([], []), ([3], [3]), ([4], [4]), ([2, 5], [2, 5]), ([6], [6]), ([0, 7, 5], [0, 7]), ([0, 1, 2, 3, 4, 5, 6, 7, 8], []), ([9, 8, 8, 0, 1, 2, 3, 4, 5, 6, 7, 8], [8, 9])])
def spec_l09Draw.B7 : List Nat := [0, 0, 2, 0, 8, 24, 62, 126, 255, 511, 1023]
theorem spec_l09Draw.tab7 : rtab .any (opsOf Tryd.f24 7) = spec_l09Draw.T7 := by kernel_rfl
theorem spec_l09Draw.bits7 : waitsOk spec_l09Draw.T7.2 spec_l09Draw.B7 = true := by kernel_rfl
set_option maxHeartbeats 8000000 in
set_option maxRecDepth 100000 in
theorem spec_l09Draw.calls (k : Nat) (g : Nat) (s0_0 : List Int) (s0_1 : Int) (s0_2 : Int) (a1 : ByteArray) (r1 : ByteArray) (r2 : Int) (r3 : Int) (r4 : Int) (r5 : Int) (r6 : List (S116)) (r7 : Int) (r8 : Int) (r9 : List Int) (r10 : List Int) (r11 : List (S122)) (r12 : Int) (r13 : Int) (w0 w : World) (hI : IsS76 w0 w g s0_0 s0_1 s0_2) (hB : Below w0.heap.size w0 w) (h : spec_l09Draw.f k s0_0 s0_1 s0_2 a1 = some (r1, r2, r3, r4, r5, r6, r7, r8, r9, r10, r11, r12, r13)) :
  Calls Tryd.prog 24 #[.pointer (some ⟨g, 0, none⟩), .string a1] w fun e w' => ∃ v5_ v8_ v9_ v10_ : Value, e = .returned (.agg #[.string r1, .int .i64 r2, .int .i64 r3, .int .i64 r4, .int .i64 r5, v5_, .int .i64 r7, .int .i64 r8, v8_, v9_, v10_]) ∧ Kd.R k116 116 w' w.heap.size (fun k_ => (w.heap.size ≤ k_)) v5_ r6 ∧ Kd.R (Kd.int .i64) 3 w' w.heap.size (fun k_ => (w.heap.size ≤ k_) ∧ some k_ ≠ (v9_ : Value).ownBlock) v8_ r9 ∧ Kd.R (Kd.int .i64) 3 w' w.heap.size (fun k_ => (w.heap.size ≤ k_) ∧ some k_ ≠ (v8_ : Value).ownBlock) v9_ r10 ∧ Kd.N k122 122 w' w.heap.size (fun k_ => (w.heap.size ≤ k_) ∧ some k_ ≠ (v5_ : Value).ownBlock ∧ some k_ ≠ (v8_ : Value).ownBlock ∧ some k_ ≠ (v9_ : Value).ownBlock) v10_ r11 ∧ IsS76 w0 w' g s0_0 r12 r13 ∧ Below w0.heap.size w0 w' ∧ KeepBut w w' g none := by
 have hu29 := Tryd.underlying29
 have hu26 := Tryd.underlying26
 have HI0 := Aside0.mk hI
 have HK := Aside0.mk (KeepBut.refl w g none)
 have HL := Aside0.mk hB.size
 clear hI
 have HW0 := Aside0.mk hB.size
 have HB := Aside0.mk hB
 clear hB
 have H : ((spec_l01Pick.f s0_0 s0_1 s0_2 (([100, 200, 60, 0, 9007199254740992] : List Int))).bind fun bt439 => ((spec_l01Pick.f s0_0 bt439.2.1 bt439.2.2 (([2, 3, 5, 1000] : List Int))).bind fun bt445 => ((spec_l01Pick.f s0_0 bt445.2.1 bt445.2.2 (([60, 120, 1000, 9007199254740992] : List Int))).bind fun bt451 => ((spec_l01Below.f s0_0 bt451.2.1 bt451.2.2 4).bind fun bt454 => ((spec_l01Below.f s0_0 bt454.2.1 bt454.2.2 5).bind fun bt457 => ((spec_AcctNew.f k a1 bt439.1 bt445.1 bt451.1 (wrap64 (1 + bt454.1)) (wrap64 (1 + bt457.1))).bind fun bt460 => ((spec_l06Draw.f k s0_0 bt457.2.1 bt457.2.2).bind fun bt481 => ((spec_l07Draw.f k s0_0 bt481.2.2.2.2.1 bt481.2.2.2.2.2).bind fun bt491 => ((spec_Stored.f k bt491.1).bind fun t496 => ((spec_AddSat.f t496 0).bind fun t497 => (if t497 ≤ bt460.2.1 then (spec_l09Draw.j0 k s0_0 bt491.2.1 bt491.2.2 bt460.1 bt460.2.1 bt460.2.2.1 bt460.2.2.2.1 bt460.2.2.2.2.1 bt491.1 bt481.1 bt481.2.1 bt481.2.2.1 bt481.2.2.2.1 bt460.2.2.2.2.2.2.2.2.2.2.1) else (spec_l09Draw.j0 k s0_0 bt491.2.1 bt491.2.2 bt460.1 bt460.2.1 bt460.2.2.1 bt460.2.2.2.1 bt460.2.2.2.2.1 bt460.2.2.2.2.2.1 bt481.1 bt481.2.1 bt481.2.2.1 bt481.2.2.2.1 bt460.2.2.2.2.2.2.2.2.2.2.1)))))))))))) = some (r1, r2, r3, r4, r5, r6, r7, r8, r9, r10, r11, r12, r13) := h
 clear h
 obtain ⟨y436, hy436⟩ : ∃ y_ : List Int, y_ = (([100, 200, 60, 0, 9007199254740992] : List Int)) := ⟨_, rfl⟩
 replace H : ((spec_l01Pick.f s0_0 s0_1 s0_2 y436).bind fun bt439 => ((spec_l01Pick.f s0_0 bt439.2.1 bt439.2.2 (([2, 3, 5, 1000] : List Int))).bind fun bt445 => ((spec_l01Pick.f s0_0 bt445.2.1 bt445.2.2 (([60, 120, 1000, 9007199254740992] : List Int))).bind fun bt451 => ((spec_l01Below.f s0_0 bt451.2.1 bt451.2.2 4).bind fun bt454 => ((spec_l01Below.f s0_0 bt454.2.1 bt454.2.2 5).bind fun bt457 => ((spec_AcctNew.f k a1 bt439.1 bt445.1 bt451.1 (wrap64 (1 + bt454.1)) (wrap64 (1 + bt457.1))).bind fun bt460 => ((spec_l06Draw.f k s0_0 bt457.2.1 bt457.2.2).bind fun bt481 => ((spec_l07Draw.f k s0_0 bt481.2.2.2.2.1 bt481.2.2.2.2.2).bind fun bt491 => ((spec_Stored.f k bt491.1).bind fun t496 => ((spec_AddSat.f t496 0).bind fun t497 => (if t497 ≤ bt460.2.1 then (spec_l09Draw.j0 k s0_0 bt491.2.1 bt491.2.2 bt460.1 bt460.2.1 bt460.2.2.1 bt460.2.2.2.1 bt460.2.2.2.2.1 bt491.1 bt481.1 bt481.2.1 bt481.2.2.1 bt481.2.2.2.1 bt460.2.2.2.2.2.2.2.2.2.2.1) else (spec_l09Draw.j0 k s0_0 bt491.2.1 bt491.2.2 bt460.1 bt460.2.1 bt460.2.2.1 bt460.2.2.2.1 bt460.2.2.2.2.1 bt460.2.2.2.2.2.1 bt481.1 bt481.2.1 bt481.2.2.1 bt481.2.2.2.1 bt460.2.2.2.2.2.2.2.2.2.2.1)))))))))))) = some (r1, r2, r3, r4, r5, r6, r7, r8, r9, r10, r11, r12, r13) := by first | (rw [hy436]; with_reducible exact H) | (have H2_ := (Option.bind_some _ _).symm.trans H; rw [hy436]; with_reducible exact H2_) | (have H2_ := (Option.bind_some _ _).symm.trans H; with_reducible exact H2_) | with_reducible exact H | (rw [hy436]; exact H) | exact H
 have Ny436 := Aside0.mk hy436
 clear hy436
 obtain ⟨⟨t439, t440, t441⟩, A3, H⟩ := ob_ H
 (try dsimp only at H)
 obtain ⟨y442, hy442⟩ : ∃ y_ : List Int, y_ = (([2, 3, 5, 1000] : List Int)) := ⟨_, rfl⟩
 replace H : ((spec_l01Pick.f s0_0 t440 t441 y442).bind fun bt445 => ((spec_l01Pick.f s0_0 bt445.2.1 bt445.2.2 (([60, 120, 1000, 9007199254740992] : List Int))).bind fun bt451 => ((spec_l01Below.f s0_0 bt451.2.1 bt451.2.2 4).bind fun bt454 => ((spec_l01Below.f s0_0 bt454.2.1 bt454.2.2 5).bind fun bt457 => ((spec_AcctNew.f k a1 t439 bt445.1 bt451.1 (wrap64 (1 + bt454.1)) (wrap64 (1 + bt457.1))).bind fun bt460 => ((spec_l06Draw.f k s0_0 bt457.2.1 bt457.2.2).bind fun bt481 => ((spec_l07Draw.f k s0_0 bt481.2.2.2.2.1 bt481.2.2.2.2.2).bind fun bt491 => ((spec_Stored.f k bt491.1).bind fun t496 => ((spec_AddSat.f t496 0).bind fun t497 => (if t497 ≤ bt460.2.1 then (spec_l09Draw.j0 k s0_0 bt491.2.1 bt491.2.2 bt460.1 bt460.2.1 bt460.2.2.1 bt460.2.2.2.1 bt460.2.2.2.2.1 bt491.1 bt481.1 bt481.2.1 bt481.2.2.1 bt481.2.2.2.1 bt460.2.2.2.2.2.2.2.2.2.2.1) else (spec_l09Draw.j0 k s0_0 bt491.2.1 bt491.2.2 bt460.1 bt460.2.1 bt460.2.2.1 bt460.2.2.2.1 bt460.2.2.2.2.1 bt460.2.2.2.2.2.1 bt481.1 bt481.2.1 bt481.2.2.1 bt481.2.2.2.1 bt460.2.2.2.2.2.2.2.2.2.2.1))))))))))) = some (r1, r2, r3, r4, r5, r6, r7, r8, r9, r10, r11, r12, r13) := by first | (rw [hy442]; with_reducible exact H) | (have H2_ := (Option.bind_some _ _).symm.trans H; rw [hy442]; with_reducible exact H2_) | (have H2_ := (Option.bind_some _ _).symm.trans H; with_reducible exact H2_) | with_reducible exact H | (rw [hy442]; exact H) | exact H
 have Ny442 := Aside0.mk hy442
 clear hy442
 obtain ⟨⟨t445, t446, t447⟩, A4, H⟩ := ob_ H
 (try dsimp only at H)
 obtain ⟨y448, hy448⟩ : ∃ y_ : List Int, y_ = (([60, 120, 1000, 9007199254740992] : List Int)) := ⟨_, rfl⟩
 replace H : ((spec_l01Pick.f s0_0 t446 t447 y448).bind fun bt451 => ((spec_l01Below.f s0_0 bt451.2.1 bt451.2.2 4).bind fun bt454 => ((spec_l01Below.f s0_0 bt454.2.1 bt454.2.2 5).bind fun bt457 => ((spec_AcctNew.f k a1 t439 t445 bt451.1 (wrap64 (1 + bt454.1)) (wrap64 (1 + bt457.1))).bind fun bt460 => ((spec_l06Draw.f k s0_0 bt457.2.1 bt457.2.2).bind fun bt481 => ((spec_l07Draw.f k s0_0 bt481.2.2.2.2.1 bt481.2.2.2.2.2).bind fun bt491 => ((spec_Stored.f k bt491.1).bind fun t496 => ((spec_AddSat.f t496 0).bind fun t497 => (if t497 ≤ bt460.2.1 then (spec_l09Draw.j0 k s0_0 bt491.2.1 bt491.2.2 bt460.1 bt460.2.1 bt460.2.2.1 bt460.2.2.2.1 bt460.2.2.2.2.1 bt491.1 bt481.1 bt481.2.1 bt481.2.2.1 bt481.2.2.2.1 bt460.2.2.2.2.2.2.2.2.2.2.1) else (spec_l09Draw.j0 k s0_0 bt491.2.1 bt491.2.2 bt460.1 bt460.2.1 bt460.2.2.1 bt460.2.2.2.1 bt460.2.2.2.2.1 bt460.2.2.2.2.2.1 bt481.1 bt481.2.1 bt481.2.2.1 bt481.2.2.2.1 bt460.2.2.2.2.2.2.2.2.2.2.1)))))))))) = some (r1, r2, r3, r4, r5, r6, r7, r8, r9, r10, r11, r12, r13) := by first | (rw [hy448]; with_reducible exact H) | (have H2_ := (Option.bind_some _ _).symm.trans H; rw [hy448]; with_reducible exact H2_) | (have H2_ := (Option.bind_some _ _).symm.trans H; with_reducible exact H2_) | with_reducible exact H | (rw [hy448]; exact H) | exact H
 have Ny448 := Aside0.mk hy448
 clear hy448
 obtain ⟨⟨t451, t452, t453⟩, A5, H⟩ := ob_ H
 (try dsimp only at H)
 obtain ⟨⟨t454, t455, t456⟩, A6, H⟩ := ob_ H
 (try dsimp only at H)
 obtain ⟨⟨t457, t458, t459⟩, A7, H⟩ := ob_ H
 (try dsimp only at H)
 obtain ⟨⟨t460, t461, t462, t463, t464, t465, t468, t469, t470, t473, t476, t479⟩, A8, H⟩ := ob_ H
 (try dsimp only at H)
 obtain ⟨⟨t481, t482, t483, t486, t489, t490⟩, A9, H⟩ := ob_ H
 (try dsimp only at H)
 obtain ⟨⟨t491, t494, t495⟩, A10, H⟩ := ob_ H
 (try dsimp only at H)
 obtain ⟨t496, A11, H⟩ := ob_ H
 obtain ⟨t497, A12, H⟩ := ob_ H
 have HC13 := Aside0.mk H
 clear H
 go_enter Tryd.func24, Tryd.ntmps24
 try go_wp2_with (first | ((with_reducible refine gate_dst (N := 4) rfl ?_); refine be_ (N := 4) (cs := #[.string (⟨#[]⟩ : ByteArray), .int .i64 0, .int .i64 0, .int .i64 0, .int .i64 0, .slice none 0 0, .int .i64 0, .int .i64 0, .slice none 0 0, .slice none 0 0, .slice none 0 0]) (t := 29) ?_; intro gb435 hg w14 hbox hb; replace HB := Aside0.mk (below_step (by repeat (first | (with_reducible first | exact HB.out | apply below_alloc | apply pw_below_drewN | apply below_drew1 | refine below_set ?_ (IsS76.ge HI0.out)) | exact HB.out)) hb); have BK435 := Aside0.mk (hbox); have GW435 := Aside0.mk ((by rw [hg]; exact (keep_size (w := w) (g := g) (row := none) (by repeat (first | (with_reducible first | exact HK.out | apply KeepBut.set_ | apply keep_drewN | apply keep_drew | apply keep_alloc) | exact HK.out))) : w.heap.size ≤ gb435)); have GE435 := Aside0.mk ((Nat.le_trans HW0.out (by rw [hg]; exact (keep_size (w := w) (g := g) (row := none) (by repeat (first | (with_reducible first | exact HK.out | apply KeepBut.set_ | apply keep_drewN | apply keep_drew | apply keep_alloc) | exact HK.out))) : w.heap.size ≤ gb435) : w0.heap.size ≤ gb435)); replace HK := Aside0.mk (KeepBut.trans (by repeat (first | (with_reducible first | exact HK.out | apply KeepBut.set_ | apply keep_drewN | apply keep_drew | apply keep_alloc) | exact HK.out)) (KeepBut.of_below hb g none) (.inl rfl)); have NB0_435 := Aside0.mk ((by rw [hg]; exact Nat.ne_of_lt (IsS76.lt (show IsS76 w0 _ g s0_0 s0_1 s0_2 from by repeat (first | (with_reducible first | exact HI0.out | apply IsS76.alloc | apply IsS76.drewN | apply IsS76.drew | apply IsS76.set_1 | apply IsS76.set_2) | exact HI0.out))) : g ≠ gb435)); have NB435_0 := Aside0.mk ((by rw [hg]; exact Nat.ne_of_gt (IsS76.lt (show IsS76 w0 _ g s0_0 s0_1 s0_2 from by repeat (first | (with_reducible first | exact HI0.out | apply IsS76.alloc | apply IsS76.drewN | apply IsS76.drew | apply IsS76.set_1 | apply IsS76.set_2) | exact HI0.out))) : gb435 ≠ g)); replace HI0 := Aside0.mk (IsS76.below (by repeat (first | (with_reducible first | exact HI0.out | apply IsS76.alloc | apply IsS76.drewN | apply IsS76.drew | apply IsS76.set_1 | apply IsS76.set_2) | exact HI0.out)) hb); clear hb hbox hg) | ((with_reducible refine gate_dst (N := 11) rfl ?_); refine Kd.R_lit (Kd.int .i64) _ 3 ?hg (N := 11) ?hd (xs := ([100, 200, 60, 0, 9007199254740992] : List Int)) (inner := [.int .i64 100, .int .i64 200, .int .i64 60, .int .i64 0, .int .i64 9007199254740992]) (ok := fun _ => True) (okp := fun _ => True) ?hr ?hp (fun _ hk => hk) trivial (Below.refl _ _) (Nat.le_refl _) (by simp) ?_; (case hd => rfl); (case hg => rfl); (case hr => first | (go_simp; done) | (go_simp; rfl)); (case hp => exact (Reps.one (show Kd.M (Kd.int .i64) _ _ _ 100 [.int .i64 100] from rfl) (Reps.one (show Kd.M (Kd.int .i64) _ _ _ 200 [.int .i64 200] from rfl) (Reps.one (show Kd.M (Kd.int .i64) _ _ _ 60 [.int .i64 60] from rfl) (Reps.one (show Kd.M (Kd.int .i64) _ _ _ 0 [.int .i64 0] from rfl) (Reps.one (show Kd.M (Kd.int .i64) _ _ _ 9007199254740992 [.int .i64 9007199254740992] from rfl) (Reps.none _ _))))))); intro v437 w15 ho16 hb hg_ hnew_; clear hg_ hnew_; (first | rw [← Ny436.out] at ho16 | (simp only [Int.reduceToNat] at ho16; rw [← Ny436.out] at ho16)); have HO438 := Aside0.mk (Kd.R_lower (Kd.R_newM (M := fun k_ => (w.heap.size ≤ k_)) ho16 (keep_size (w := w) (g := g) (row := none) (by repeat (first | (with_reducible first | exact HK.out | apply KeepBut.set_ | apply keep_drewN | apply keep_drew | apply keep_alloc | refine keep_far ?_ GW435.out _) | exact HK.out))) (fun k_ h_ => h_)) (keep_size (w := w) (g := g) (row := none) (by repeat (first | (with_reducible first | exact HK.out | apply KeepBut.set_ | apply keep_drewN | apply keep_drew | apply keep_alloc | refine keep_far ?_ GW435.out _) | exact HK.out)))); replace BK435 := Aside0.mk (blk_below (bk_ BK435) hb); replace HK := Aside0.mk (KeepBut.trans (by repeat (first | (with_reducible first | exact HK.out | apply KeepBut.set_ | apply keep_drewN | apply keep_drew | apply keep_alloc | refine keep_far ?_ GW435.out _) | exact HK.out)) (KeepBut.of_below hb g none) (.inl rfl)); replace HB := Aside0.mk (below_step (by repeat (first | (with_reducible first | exact HB.out | apply below_alloc | apply pw_below_drewN | apply below_drew1 | refine below_set ?_ (IsS76.ge HI0.out) | refine below_set ?_ GE435.out) | exact HB.out)) hb); replace HI0 := Aside0.mk (IsS76.below (by repeat (first | (with_reducible first | exact HI0.out | apply IsS76.alloc | apply IsS76.drewN | apply IsS76.drew | apply IsS76.set_1 | apply IsS76.set_2 | refine IsS76.far ?_ NB0_435.out _) | exact HI0.out)) hb); clear hb ho16; obtain ⟨Ao17, co17, eo17⟩ := Kd.R_slice HO438.out; subst eo17) | ((with_reducible refine gate_callee (f := 51) rfl ?_); refine goesL_ (some 12) rfl rfl Tryd.func51 (by kernel_rfl) rfl #[.pointer (some ⟨g, 0, none⟩), .slice Ao17 y436.length co17] rfl gl_ ?_; (with_reducible refine (spec_l01Pick.calls g s0_0 s0_1 s0_2 _ _ y436 t439 t440 t441 w0 _ ?side1 ?side2 ?side3 ?side4 ?side5 A3.out).mono ?_); (case side1 => repeat (first | (with_reducible first | exact HI0.out | apply IsS76.alloc | apply IsS76.drewN | apply IsS76.drew | apply IsS76.set_1 | apply IsS76.set_2 | refine IsS76.far ?_ NB0_435.out _) | exact HI0.out)); (case side2 => repeat (first | (with_reducible first | exact HB.out | apply below_alloc | apply pw_below_drewN | apply below_drew1 | refine below_set ?_ (IsS76.ge HI0.out) | refine below_set ?_ GE435.out) | exact HB.out)); (case side3 => exact ca_ ((Kd.R_reads' HO438.out).2.2)); (case side4 => exact (Kd.R_reads' HO438.out).2.1); (case side5 => exact far_slice (IsS76.own_ne HI0.out HO438.out (by decide))); rintro e w18 ⟨rfl, hi, hb, hk⟩; refine ⟨_, rfl, ?_⟩; replace BK435 := Aside0.mk (KeepBut.blk hk (g' := gb435) (o := .cells #[.string (⟨#[]⟩ : ByteArray), .int .i64 0, .int .i64 0, .int .i64 0, .int .i64 0, .slice none 0 0, .int .i64 0, .int .i64 0, .slice none 0 0, .slice none 0 0, .slice none 0 0] 29 (0, 0)) (by (with_reducible repeat (first | refine blk_drewN ?_ _ | refine blk_drew ?_ | refine blk_alloc ?_ _)); exact BK435.out) NB435_0.out (by simp)); replace HO438 := Aside0.mk (Kd.R_mono (Kd.R_keep (IsS76.apart (show IsS76 w0 _ g s0_0 s0_1 s0_2 from by repeat (first | (with_reducible first | exact HI0.out | apply IsS76.alloc | apply IsS76.drewN | apply IsS76.drew | apply IsS76.set_1 | apply IsS76.set_2 | refine IsS76.far ?_ NB0_435.out _) | exact HI0.out)) (ra_ HO438) (by decide)) hk (fun _ h => h.2)) (fun _ h => h.1)); replace HK := Aside0.mk (KeepBut.trans (by repeat (first | (with_reducible first | exact HK.out | apply KeepBut.set_ | apply keep_drewN | apply keep_drew | apply keep_alloc | refine keep_far ?_ GW435.out _) | exact HK.out)) hk (.inl rfl)); replace HB := Aside0.mk (hb); replace HI0 := Aside0.mk (hi); (try clear hb); (try clear hb2); (try clear hk); (try clear hi)) | ((with_reducible refine gate_dst (N := 14) rfl ?_); refine Kd.R_lit (Kd.int .i64) _ 3 ?hg (N := 14) ?hd (xs := ([2, 3, 5, 1000] : List Int)) (inner := [.int .i64 2, .int .i64 3, .int .i64 5, .int .i64 1000]) (ok := fun _ => True) (okp := fun _ => True) ?hr ?hp (fun _ hk => hk) trivial (Below.refl _ _) (Nat.le_refl _) (by simp) ?_; (case hd => rfl); (case hg => rfl); (case hr => first | (go_simp; done) | (go_simp; rfl)); (case hp => exact (Reps.one (show Kd.M (Kd.int .i64) _ _ _ 2 [.int .i64 2] from rfl) (Reps.one (show Kd.M (Kd.int .i64) _ _ _ 3 [.int .i64 3] from rfl) (Reps.one (show Kd.M (Kd.int .i64) _ _ _ 5 [.int .i64 5] from rfl) (Reps.one (show Kd.M (Kd.int .i64) _ _ _ 1000 [.int .i64 1000] from rfl) (Reps.none _ _)))))); intro v443 w19 ho20 hb hg_ hnew_; clear hg_ hnew_; (first | rw [← Ny442.out] at ho20 | (simp only [Int.reduceToNat] at ho20; rw [← Ny442.out] at ho20)); have HO444 := Aside0.mk (Kd.R_lower (Kd.R_new' (Kd.R_newM (M := fun k_ => (w.heap.size ≤ k_)) ho20 (keep_size (w := w) (g := g) (row := none) (by repeat (first | (with_reducible first | exact HK.out | apply KeepBut.set_ | apply keep_drewN | apply keep_drew | apply keep_alloc | refine keep_far ?_ GW435.out _) | exact HK.out))) (fun k_ h_ => h_)) (Kd.R_lt (ra_ HO438))) (keep_size (w := w) (g := g) (row := none) (by repeat (first | (with_reducible first | exact HK.out | apply KeepBut.set_ | apply keep_drewN | apply keep_drew | apply keep_alloc | refine keep_far ?_ GW435.out _) | exact HK.out)))); replace HO438 := Aside0.mk (Kd.R_elder' (ra_ HO438) (Kd.R_base ho20) hb); replace BK435 := Aside0.mk (blk_below (bk_ BK435) hb); replace HK := Aside0.mk (KeepBut.trans (by repeat (first | (with_reducible first | exact HK.out | apply KeepBut.set_ | apply keep_drewN | apply keep_drew | apply keep_alloc | refine keep_far ?_ GW435.out _) | exact HK.out)) (KeepBut.of_below hb g none) (.inl rfl)); replace HB := Aside0.mk (below_step (by repeat (first | (with_reducible first | exact HB.out | apply below_alloc | apply pw_below_drewN | apply below_drew1 | refine below_set ?_ (IsS76.ge HI0.out) | refine below_set ?_ GE435.out) | exact HB.out)) hb); replace HI0 := Aside0.mk (IsS76.below (by repeat (first | (with_reducible first | exact HI0.out | apply IsS76.alloc | apply IsS76.drewN | apply IsS76.drew | apply IsS76.set_1 | apply IsS76.set_2 | refine IsS76.far ?_ NB0_435.out _) | exact HI0.out)) hb); clear hb ho20; obtain ⟨Ao21, co21, eo21⟩ := Kd.R_slice HO444.out; subst eo21) | ((with_reducible refine gate_callee (f := 51) rfl ?_); refine goesL_ (some 15) rfl rfl Tryd.func51 (by kernel_rfl) rfl #[.pointer (some ⟨g, 0, none⟩), .slice Ao21 y442.length co21] rfl gl_ ?_; (with_reducible refine (spec_l01Pick.calls g s0_0 t440 t441 _ _ y442 t445 t446 t447 w0 _ ?side1 ?side2 ?side3 ?side4 ?side5 A4.out).mono ?_); (case side1 => repeat (first | (with_reducible first | exact HI0.out | apply IsS76.alloc | apply IsS76.drewN | apply IsS76.drew | apply IsS76.set_1 | apply IsS76.set_2 | refine IsS76.far ?_ NB0_435.out _) | exact HI0.out)); (case side2 => repeat (first | (with_reducible first | exact HB.out | apply below_alloc | apply pw_below_drewN | apply below_drew1 | refine below_set ?_ (IsS76.ge HI0.out) | refine below_set ?_ GE435.out) | exact HB.out)); (case side3 => exact ca_ ((Kd.R_reads' HO444.out).2.2)); (case side4 => exact (Kd.R_reads' HO444.out).2.1); (case side5 => exact far_slice (IsS76.own_ne HI0.out HO444.out (by decide))); rintro e w22 ⟨rfl, hi, hb, hk⟩; refine ⟨_, rfl, ?_⟩; replace BK435 := Aside0.mk (KeepBut.blk hk (g' := gb435) (o := .cells #[.string (⟨#[]⟩ : ByteArray), .int .i64 0, .int .i64 0, .int .i64 0, .int .i64 0, .slice none 0 0, .int .i64 0, .int .i64 0, .slice none 0 0, .slice none 0 0, .slice none 0 0] 29 (0, 0)) (by (with_reducible repeat (first | refine blk_drewN ?_ _ | refine blk_drew ?_ | refine blk_alloc ?_ _)); exact BK435.out) NB435_0.out (by simp)); replace HO438 := Aside0.mk (Kd.R_mono (Kd.R_keep (IsS76.apart (show IsS76 w0 _ g s0_0 t440 t441 from by repeat (first | (with_reducible first | exact HI0.out | apply IsS76.alloc | apply IsS76.drewN | apply IsS76.drew | apply IsS76.set_1 | apply IsS76.set_2 | refine IsS76.far ?_ NB0_435.out _) | exact HI0.out)) (ra_ HO438) (by decide)) hk (fun _ h => h.2)) (fun _ h => h.1)); replace HO444 := Aside0.mk (Kd.R_mono (Kd.R_keep (IsS76.apart (show IsS76 w0 _ g s0_0 t440 t441 from by repeat (first | (with_reducible first | exact HI0.out | apply IsS76.alloc | apply IsS76.drewN | apply IsS76.drew | apply IsS76.set_1 | apply IsS76.set_2 | refine IsS76.far ?_ NB0_435.out _) | exact HI0.out)) (ra_ HO444) (by decide)) hk (fun _ h => h.2)) (fun _ h => h.1)); replace HK := Aside0.mk (KeepBut.trans (by repeat (first | (with_reducible first | exact HK.out | apply KeepBut.set_ | apply keep_drewN | apply keep_drew | apply keep_alloc | refine keep_far ?_ GW435.out _) | exact HK.out)) hk (.inl rfl)); replace HB := Aside0.mk (hb); replace HI0 := Aside0.mk (hi); (try clear hb); (try clear hb2); (try clear hk); (try clear hi)) | ((with_reducible refine gate_dst (N := 17) rfl ?_); refine Kd.R_lit (Kd.int .i64) _ 3 ?hg (N := 17) ?hd (xs := ([60, 120, 1000, 9007199254740992] : List Int)) (inner := [.int .i64 60, .int .i64 120, .int .i64 1000, .int .i64 9007199254740992]) (ok := fun _ => True) (okp := fun _ => True) ?hr ?hp (fun _ hk => hk) trivial (Below.refl _ _) (Nat.le_refl _) (by simp) ?_; (case hd => rfl); (case hg => rfl); (case hr => first | (go_simp; done) | (go_simp; rfl)); (case hp => exact (Reps.one (show Kd.M (Kd.int .i64) _ _ _ 60 [.int .i64 60] from rfl) (Reps.one (show Kd.M (Kd.int .i64) _ _ _ 120 [.int .i64 120] from rfl) (Reps.one (show Kd.M (Kd.int .i64) _ _ _ 1000 [.int .i64 1000] from rfl) (Reps.one (show Kd.M (Kd.int .i64) _ _ _ 9007199254740992 [.int .i64 9007199254740992] from rfl) (Reps.none _ _)))))); intro v449 w23 ho24 hb hg_ hnew_; clear hg_ hnew_; (first | rw [← Ny448.out] at ho24 | (simp only [Int.reduceToNat] at ho24; rw [← Ny448.out] at ho24)); have HO450 := Aside0.mk (Kd.R_lower (Kd.R_new' (Kd.R_new' (Kd.R_newM (M := fun k_ => (w.heap.size ≤ k_)) ho24 (keep_size (w := w) (g := g) (row := none) (by repeat (first | (with_reducible first | exact HK.out | apply KeepBut.set_ | apply keep_drewN | apply keep_drew | apply keep_alloc | refine keep_far ?_ GW435.out _) | exact HK.out))) (fun k_ h_ => h_)) (Kd.R_lt (ra_ HO438))) (Kd.R_lt (ra_ HO444))) (keep_size (w := w) (g := g) (row := none) (by repeat (first | (with_reducible first | exact HK.out | apply KeepBut.set_ | apply keep_drewN | apply keep_drew | apply keep_alloc | refine keep_far ?_ GW435.out _) | exact HK.out)))); replace HO438 := Aside0.mk (Kd.R_elder' (ra_ HO438) (Kd.R_base ho24) hb); replace HO444 := Aside0.mk (Kd.R_elder' (ra_ HO444) (Kd.R_base ho24) hb); replace BK435 := Aside0.mk (blk_below (bk_ BK435) hb); replace HK := Aside0.mk (KeepBut.trans (by repeat (first | (with_reducible first | exact HK.out | apply KeepBut.set_ | apply keep_drewN | apply keep_drew | apply keep_alloc | refine keep_far ?_ GW435.out _) | exact HK.out)) (KeepBut.of_below hb g none) (.inl rfl)); replace HB := Aside0.mk (below_step (by repeat (first | (with_reducible first | exact HB.out | apply below_alloc | apply pw_below_drewN | apply below_drew1 | refine below_set ?_ (IsS76.ge HI0.out) | refine below_set ?_ GE435.out) | exact HB.out)) hb); replace HI0 := Aside0.mk (IsS76.below (by repeat (first | (with_reducible first | exact HI0.out | apply IsS76.alloc | apply IsS76.drewN | apply IsS76.drew | apply IsS76.set_1 | apply IsS76.set_2 | refine IsS76.far ?_ NB0_435.out _) | exact HI0.out)) hb); clear hb ho24; obtain ⟨Ao25, co25, eo25⟩ := Kd.R_slice HO450.out; subst eo25) | ((with_reducible refine gate_callee (f := 51) rfl ?_); refine goesL_ (some 18) rfl rfl Tryd.func51 (by kernel_rfl) rfl #[.pointer (some ⟨g, 0, none⟩), .slice Ao25 y448.length co25] rfl gl_ ?_; (with_reducible refine (spec_l01Pick.calls g s0_0 t446 t447 _ _ y448 t451 t452 t453 w0 _ ?side1 ?side2 ?side3 ?side4 ?side5 A5.out).mono ?_); (case side1 => repeat (first | (with_reducible first | exact HI0.out | apply IsS76.alloc | apply IsS76.drewN | apply IsS76.drew | apply IsS76.set_1 | apply IsS76.set_2 | refine IsS76.far ?_ NB0_435.out _) | exact HI0.out)); (case side2 => repeat (first | (with_reducible first | exact HB.out | apply below_alloc | apply pw_below_drewN | apply below_drew1 | refine below_set ?_ (IsS76.ge HI0.out) | refine below_set ?_ GE435.out) | exact HB.out)); (case side3 => exact ca_ ((Kd.R_reads' HO450.out).2.2)); (case side4 => exact (Kd.R_reads' HO450.out).2.1); (case side5 => exact far_slice (IsS76.own_ne HI0.out HO450.out (by decide))); rintro e w26 ⟨rfl, hi, hb, hk⟩; refine ⟨_, rfl, ?_⟩; replace BK435 := Aside0.mk (KeepBut.blk hk (g' := gb435) (o := .cells #[.string (⟨#[]⟩ : ByteArray), .int .i64 0, .int .i64 0, .int .i64 0, .int .i64 0, .slice none 0 0, .int .i64 0, .int .i64 0, .slice none 0 0, .slice none 0 0, .slice none 0 0] 29 (0, 0)) (by (with_reducible repeat (first | refine blk_drewN ?_ _ | refine blk_drew ?_ | refine blk_alloc ?_ _)); exact BK435.out) NB435_0.out (by simp)); replace HO438 := Aside0.mk (Kd.R_mono (Kd.R_keep (IsS76.apart (show IsS76 w0 _ g s0_0 t446 t447 from by repeat (first | (with_reducible first | exact HI0.out | apply IsS76.alloc | apply IsS76.drewN | apply IsS76.drew | apply IsS76.set_1 | apply IsS76.set_2 | refine IsS76.far ?_ NB0_435.out _) | exact HI0.out)) (ra_ HO438) (by decide)) hk (fun _ h => h.2)) (fun _ h => h.1)); replace HO444 := Aside0.mk (Kd.R_mono (Kd.R_keep (IsS76.apart (show IsS76 w0 _ g s0_0 t446 t447 from by repeat (first | (with_reducible first | exact HI0.out | apply IsS76.alloc | apply IsS76.drewN | apply IsS76.drew | apply IsS76.set_1 | apply IsS76.set_2 | refine IsS76.far ?_ NB0_435.out _) | exact HI0.out)) (ra_ HO444) (by decide)) hk (fun _ h => h.2)) (fun _ h => h.1)); replace HO450 := Aside0.mk (Kd.R_mono (Kd.R_keep (IsS76.apart (show IsS76 w0 _ g s0_0 t446 t447 from by repeat (first | (with_reducible first | exact HI0.out | apply IsS76.alloc | apply IsS76.drewN | apply IsS76.drew | apply IsS76.set_1 | apply IsS76.set_2 | refine IsS76.far ?_ NB0_435.out _) | exact HI0.out)) (ra_ HO450) (by decide)) hk (fun _ h => h.2)) (fun _ h => h.1)); replace HK := Aside0.mk (KeepBut.trans (by repeat (first | (with_reducible first | exact HK.out | apply KeepBut.set_ | apply keep_drewN | apply keep_drew | apply keep_alloc | refine keep_far ?_ GW435.out _) | exact HK.out)) hk (.inl rfl)); replace HB := Aside0.mk (hb); replace HI0 := Aside0.mk (hi); (try clear hb); (try clear hb2); (try clear hk); (try clear hi)) | ((with_reducible refine gate_callee (f := 52) rfl ?_); refine goesL_ (some 20) rfl rfl Tryd.func52 (by kernel_rfl) rfl #[.pointer (some ⟨g, 0, none⟩), .int .i64 4] rfl gl_ ?_; (with_reducible refine (spec_l01Below.calls g s0_0 t452 t453 4 t454 t455 t456 w0 _ ?side1 ?side2 A6.out).mono ?_); (case side1 => repeat (first | (with_reducible first | exact HI0.out | apply IsS76.alloc | apply IsS76.drewN | apply IsS76.drew | apply IsS76.set_1 | apply IsS76.set_2 | refine IsS76.far ?_ NB0_435.out _) | exact HI0.out)); (case side2 => repeat (first | (with_reducible first | exact HB.out | apply below_alloc | apply pw_below_drewN | apply below_drew1 | refine below_set ?_ (IsS76.ge HI0.out) | refine below_set ?_ GE435.out) | exact HB.out)); rintro e w27 ⟨rfl, hi, hb, hk⟩; refine ⟨_, rfl, ?_⟩; replace BK435 := Aside0.mk (KeepBut.blk hk (g' := gb435) (o := .cells #[.string (⟨#[]⟩ : ByteArray), .int .i64 0, .int .i64 0, .int .i64 0, .int .i64 0, .slice none 0 0, .int .i64 0, .int .i64 0, .slice none 0 0, .slice none 0 0, .slice none 0 0] 29 (0, 0)) (by (with_reducible repeat (first | refine blk_drewN ?_ _ | refine blk_drew ?_ | refine blk_alloc ?_ _)); exact BK435.out) NB435_0.out (by simp)); replace HO438 := Aside0.mk (Kd.R_mono (Kd.R_keep (IsS76.apart (show IsS76 w0 _ g s0_0 t452 t453 from by repeat (first | (with_reducible first | exact HI0.out | apply IsS76.alloc | apply IsS76.drewN | apply IsS76.drew | apply IsS76.set_1 | apply IsS76.set_2 | refine IsS76.far ?_ NB0_435.out _) | exact HI0.out)) (ra_ HO438) (by decide)) hk (fun _ h => h.2)) (fun _ h => h.1)); replace HO444 := Aside0.mk (Kd.R_mono (Kd.R_keep (IsS76.apart (show IsS76 w0 _ g s0_0 t452 t453 from by repeat (first | (with_reducible first | exact HI0.out | apply IsS76.alloc | apply IsS76.drewN | apply IsS76.drew | apply IsS76.set_1 | apply IsS76.set_2 | refine IsS76.far ?_ NB0_435.out _) | exact HI0.out)) (ra_ HO444) (by decide)) hk (fun _ h => h.2)) (fun _ h => h.1)); replace HO450 := Aside0.mk (Kd.R_mono (Kd.R_keep (IsS76.apart (show IsS76 w0 _ g s0_0 t452 t453 from by repeat (first | (with_reducible first | exact HI0.out | apply IsS76.alloc | apply IsS76.drewN | apply IsS76.drew | apply IsS76.set_1 | apply IsS76.set_2 | refine IsS76.far ?_ NB0_435.out _) | exact HI0.out)) (ra_ HO450) (by decide)) hk (fun _ h => h.2)) (fun _ h => h.1)); replace HK := Aside0.mk (KeepBut.trans (by repeat (first | (with_reducible first | exact HK.out | apply KeepBut.set_ | apply keep_drewN | apply keep_drew | apply keep_alloc | refine keep_far ?_ GW435.out _) | exact HK.out)) hk (.inl rfl)); replace HB := Aside0.mk (hb); replace HI0 := Aside0.mk (hi); (try clear hb); (try clear hb2); (try clear hk); (try clear hi)) | ((with_reducible refine gate_callee (f := 52) rfl ?_); refine goesL_ (some 23) rfl rfl Tryd.func52 (by kernel_rfl) rfl #[.pointer (some ⟨g, 0, none⟩), .int .i64 5] rfl gl_ ?_; (with_reducible refine (spec_l01Below.calls g s0_0 t455 t456 5 t457 t458 t459 w0 _ ?side1 ?side2 A7.out).mono ?_); (case side1 => repeat (first | (with_reducible first | exact HI0.out | apply IsS76.alloc | apply IsS76.drewN | apply IsS76.drew | apply IsS76.set_1 | apply IsS76.set_2 | refine IsS76.far ?_ NB0_435.out _) | exact HI0.out)); (case side2 => repeat (first | (with_reducible first | exact HB.out | apply below_alloc | apply pw_below_drewN | apply below_drew1 | refine below_set ?_ (IsS76.ge HI0.out) | refine below_set ?_ GE435.out) | exact HB.out)); rintro e w28 ⟨rfl, hi, hb, hk⟩; refine ⟨_, rfl, ?_⟩; replace BK435 := Aside0.mk (KeepBut.blk hk (g' := gb435) (o := .cells #[.string (⟨#[]⟩ : ByteArray), .int .i64 0, .int .i64 0, .int .i64 0, .int .i64 0, .slice none 0 0, .int .i64 0, .int .i64 0, .slice none 0 0, .slice none 0 0, .slice none 0 0] 29 (0, 0)) (by (with_reducible repeat (first | refine blk_drewN ?_ _ | refine blk_drew ?_ | refine blk_alloc ?_ _)); exact BK435.out) NB435_0.out (by simp)); replace HO438 := Aside0.mk (Kd.R_mono (Kd.R_keep (IsS76.apart (show IsS76 w0 _ g s0_0 t455 t456 from by repeat (first | (with_reducible first | exact HI0.out | apply IsS76.alloc | apply IsS76.drewN | apply IsS76.drew | apply IsS76.set_1 | apply IsS76.set_2 | refine IsS76.far ?_ NB0_435.out _) | exact HI0.out)) (ra_ HO438) (by decide)) hk (fun _ h => h.2)) (fun _ h => h.1)); replace HO444 := Aside0.mk (Kd.R_mono (Kd.R_keep (IsS76.apart (show IsS76 w0 _ g s0_0 t455 t456 from by repeat (first | (with_reducible first | exact HI0.out | apply IsS76.alloc | apply IsS76.drewN | apply IsS76.drew | apply IsS76.set_1 | apply IsS76.set_2 | refine IsS76.far ?_ NB0_435.out _) | exact HI0.out)) (ra_ HO444) (by decide)) hk (fun _ h => h.2)) (fun _ h => h.1)); replace HO450 := Aside0.mk (Kd.R_mono (Kd.R_keep (IsS76.apart (show IsS76 w0 _ g s0_0 t455 t456 from by repeat (first | (with_reducible first | exact HI0.out | apply IsS76.alloc | apply IsS76.drewN | apply IsS76.drew | apply IsS76.set_1 | apply IsS76.set_2 | refine IsS76.far ?_ NB0_435.out _) | exact HI0.out)) (ra_ HO450) (by decide)) hk (fun _ h => h.2)) (fun _ h => h.1)); replace HK := Aside0.mk (KeepBut.trans (by repeat (first | (with_reducible first | exact HK.out | apply KeepBut.set_ | apply keep_drewN | apply keep_drew | apply keep_alloc | refine keep_far ?_ GW435.out _) | exact HK.out)) hk (.inl rfl)); replace HB := Aside0.mk (hb); replace HI0 := Aside0.mk (hi); (try clear hb); (try clear hb2); (try clear hk); (try clear hi)) | ((with_reducible refine gate_callee (f := 50) rfl ?_); refine goesL_ (some 25) rfl rfl Tryd.func50 (by kernel_rfl) rfl #[.string a1, .int .i64 t439, .int .i64 t445, .int .i64 t451, .int .i64 (wrap64 (1 + t454)), .int .i64 (wrap64 (1 + t457))] rfl gl_ ?_; (with_reducible refine (spec_AcctNew.calls k a1 t439 t445 t451 (wrap64 (1 + t454)) (wrap64 (1 + t457)) t460 t461 t462 t463 t464 t465 t468 t469 t470 t473 t476 t479 _ A8.out).mono ?_); rintro e w29 ⟨v466, v471, v474, v477, rfl, ho0, ho1, ho2, ho3, hb⟩; refine ⟨_, rfl, ?_⟩; have HO467 := Aside0.mk (Kd.R_lower (Kd.R_newM (M := fun k_ => (w.heap.size ≤ k_)) ho0 (keep_size (w := w) (g := g) (row := none) (by repeat (first | (with_reducible first | exact HK.out | apply KeepBut.set_ | apply keep_drewN | apply keep_drew | apply keep_alloc | refine keep_far ?_ GW435.out _) | exact HK.out))) (fun k_ h_ => h_)) (keep_size (w := w) (g := g) (row := none) (by repeat (first | (with_reducible first | exact HK.out | apply KeepBut.set_ | apply keep_drewN | apply keep_drew | apply keep_alloc | refine keep_far ?_ GW435.out _) | exact HK.out)))); have HO472 := Aside0.mk (Kd.R_lower (Kd.R_new' (Kd.R_new' (Kd.R_new' (Kd.R_newM (M := fun k_ => (w.heap.size ≤ k_)) ho1 (keep_size (w := w) (g := g) (row := none) (by repeat (first | (with_reducible first | exact HK.out | apply KeepBut.set_ | apply keep_drewN | apply keep_drew | apply keep_alloc | refine keep_far ?_ GW435.out _) | exact HK.out))) (fun k_ h_ => h_)) (Kd.R_lt (ra_ HO438))) (Kd.R_lt (ra_ HO444))) (Kd.R_lt (ra_ HO450))) (keep_size (w := w) (g := g) (row := none) (by repeat (first | (with_reducible first | exact HK.out | apply KeepBut.set_ | apply keep_drewN | apply keep_drew | apply keep_alloc | refine keep_far ?_ GW435.out _) | exact HK.out)))); have HO475 := Aside0.mk (Kd.R_lower (Kd.R_new' (Kd.R_new' (Kd.R_new' (Kd.R_newM (M := fun k_ => (w.heap.size ≤ k_)) ho2 (keep_size (w := w) (g := g) (row := none) (by repeat (first | (with_reducible first | exact HK.out | apply KeepBut.set_ | apply keep_drewN | apply keep_drew | apply keep_alloc | refine keep_far ?_ GW435.out _) | exact HK.out))) (fun k_ h_ => h_)) (Kd.R_lt (ra_ HO438))) (Kd.R_lt (ra_ HO444))) (Kd.R_lt (ra_ HO450))) (keep_size (w := w) (g := g) (row := none) (by repeat (first | (with_reducible first | exact HK.out | apply KeepBut.set_ | apply keep_drewN | apply keep_drew | apply keep_alloc | refine keep_far ?_ GW435.out _) | exact HK.out)))); have HO478 := Aside0.mk (Kd.N_lower (Kd.N_mono (ok' := fun k_ => (w.heap.size ≤ k_) ∧ some k_ ≠ (v466 : Value).ownBlock ∧ some k_ ≠ (v471 : Value).ownBlock ∧ some k_ ≠ (v474 : Value).ownBlock ∧ some k_ ≠ (.slice Ao17 y436.length co17 : Value).ownBlock ∧ some k_ ≠ (.slice Ao21 y442.length co21 : Value).ownBlock ∧ some k_ ≠ (.slice Ao25 y448.length co25 : Value).ownBlock ∧ k_ ≠ gb435 ∧ k_ ≠ g) (Kd.S_N (Kd.S_bound (Kd.S_apart' (Kd.S_apart' (Kd.S_apart' ho3 (Kd.R_typed ho0) (by decide)) (Kd.R_typed ho1) (by decide)) (Kd.R_typed ho2) (by decide)))) (fun k_ hk_ => ⟨(Nat.le_trans (keep_size (w := w) (g := g) (row := none) (by repeat (first | (with_reducible first | exact HK.out | apply KeepBut.set_ | apply keep_drewN | apply keep_drew | apply keep_alloc | refine keep_far ?_ GW435.out _) | exact HK.out))) hk_.2.1), hk_.1.1.1.2, hk_.1.1.2, hk_.1.2, (Kd.fresh' (Kd.R_lt (ra_ HO438)) k_ hk_.2.1), (Kd.fresh' (Kd.R_lt (ra_ HO444)) k_ hk_.2.1), (Kd.fresh' (Kd.R_lt (ra_ HO450)) k_ hk_.2.1), (Kd.freshB (bk_ BK435) k_ hk_.2.1), (IsS76.fresh (by repeat (first | (with_reducible first | exact HI0.out | apply IsS76.alloc | apply IsS76.drewN | apply IsS76.drew | apply IsS76.set_1 | apply IsS76.set_2 | refine IsS76.far ?_ NB0_435.out _) | exact HI0.out)) k_ hk_.2.1)⟩)) (keep_size (w := w) (g := g) (row := none) (by repeat (first | (with_reducible first | exact HK.out | apply KeepBut.set_ | apply keep_drewN | apply keep_drew | apply keep_alloc | refine keep_far ?_ GW435.out _) | exact HK.out)))); replace HO438 := Aside0.mk (Kd.R_mono (Kd.R_told (Kd.R_told (Kd.R_old (ra_ HO438) hb) (Kd.R_base ho1)) (Kd.R_base ho2)) (fun _ h_ => h_.1)); replace HO444 := Aside0.mk (Kd.R_mono (Kd.R_told (Kd.R_told (Kd.R_old (ra_ HO444) hb) (Kd.R_base ho1)) (Kd.R_base ho2)) (fun _ h_ => h_.1)); replace HO450 := Aside0.mk (Kd.R_mono (Kd.R_told (Kd.R_told (Kd.R_old (ra_ HO450) hb) (Kd.R_base ho1)) (Kd.R_base ho2)) (fun _ h_ => h_.1)); replace BK435 := Aside0.mk (blk_below (bk_ BK435) hb); replace HK := Aside0.mk (KeepBut.trans (by repeat (first | (with_reducible first | exact HK.out | apply KeepBut.set_ | apply keep_drewN | apply keep_drew | apply keep_alloc | refine keep_far ?_ GW435.out _) | exact HK.out)) (KeepBut.of_below hb g none) (.inl rfl)); replace HB := Aside0.mk (below_step (by repeat (first | (with_reducible first | exact HB.out | apply below_alloc | apply pw_below_drewN | apply below_drew1 | refine below_set ?_ (IsS76.ge HI0.out) | refine below_set ?_ GE435.out) | exact HB.out)) hb); replace HI0 := Aside0.mk (IsS76.below (by repeat (first | (with_reducible first | exact HI0.out | apply IsS76.alloc | apply IsS76.drewN | apply IsS76.drew | apply IsS76.set_1 | apply IsS76.set_2 | refine IsS76.far ?_ NB0_435.out _) | exact HI0.out)) hb); (try clear hb); (try clear hb2); (try clear hk); (try clear hi); (try clear ho0); (try clear ho1); (try clear ho2); (try clear ho3)) | ((with_reducible refine gate_dst (N := 5) rfl ?_); refine be_ (N := 5) (cs := #[.string (⟨#[]⟩ : ByteArray), .int .i64 0, .int .i64 0, .int .i64 0, .int .i64 0, .slice none 0 0, .int .i64 0, .int .i64 0, .slice none 0 0, .slice none 0 0, .slice none 0 0]) (t := 29) ?_; intro gb480 hg w30 hbox hb; replace HO438 := Aside0.mk (Kd.R_below (ra_ HO438) hb); replace HO444 := Aside0.mk (Kd.R_below (ra_ HO444) hb); replace HO450 := Aside0.mk (Kd.R_below (ra_ HO450) hb); replace HO467 := Aside0.mk (Kd.R_below (ra_ HO467) hb); replace HO472 := Aside0.mk (Kd.R_below (ra_ HO472) hb); replace HO475 := Aside0.mk (Kd.R_below (ra_ HO475) hb); replace HO478 := Aside0.mk (Kd.N_below (Kd.N_elderB (by (with_reducible repeat (first | apply Kd.N_alloc | apply Kd.N_drewN | apply Kd.N_drew)); exact HO478.out) gb480 (Nat.le_of_eq hg.symm)) hb); replace HB := Aside0.mk (below_step (by repeat (first | (with_reducible first | exact HB.out | apply below_alloc | apply pw_below_drewN | apply below_drew1 | refine below_set ?_ (IsS76.ge HI0.out) | refine below_set ?_ GE435.out) | exact HB.out)) hb); have BK480 := Aside0.mk (hbox); have GW480 := Aside0.mk ((by rw [hg]; exact (keep_size (w := w) (g := g) (row := none) (by repeat (first | (with_reducible first | exact HK.out | apply KeepBut.set_ | apply keep_drewN | apply keep_drew | apply keep_alloc | refine keep_far ?_ GW435.out _) | exact HK.out))) : w.heap.size ≤ gb480)); have GE480 := Aside0.mk ((Nat.le_trans HW0.out (by rw [hg]; exact (keep_size (w := w) (g := g) (row := none) (by repeat (first | (with_reducible first | exact HK.out | apply KeepBut.set_ | apply keep_drewN | apply keep_drew | apply keep_alloc | refine keep_far ?_ GW435.out _) | exact HK.out))) : w.heap.size ≤ gb480) : w0.heap.size ≤ gb480)); replace HK := Aside0.mk (KeepBut.trans (by repeat (first | (with_reducible first | exact HK.out | apply KeepBut.set_ | apply keep_drewN | apply keep_drew | apply keep_alloc | refine keep_far ?_ GW435.out _) | exact HK.out)) (KeepBut.of_below hb g none) (.inl rfl)); have NB435_480 := Aside0.mk ((by rw [hg]; exact Nat.ne_of_lt (blk_lt (bk_ BK435)) : gb435 ≠ gb480)); have NB480_435 := Aside0.mk ((by rw [hg]; exact Nat.ne_of_gt (blk_lt (bk_ BK435)) : gb480 ≠ gb435)); replace BK435 := Aside0.mk (blk_below (bk_ BK435) hb); have NB0_480 := Aside0.mk ((by rw [hg]; exact Nat.ne_of_lt (IsS76.lt (show IsS76 w0 _ g s0_0 t458 t459 from by repeat (first | (with_reducible first | exact HI0.out | apply IsS76.alloc | apply IsS76.drewN | apply IsS76.drew | apply IsS76.set_1 | apply IsS76.set_2 | refine IsS76.far ?_ NB0_435.out _) | exact HI0.out))) : g ≠ gb480)); have NB480_0 := Aside0.mk ((by rw [hg]; exact Nat.ne_of_gt (IsS76.lt (show IsS76 w0 _ g s0_0 t458 t459 from by repeat (first | (with_reducible first | exact HI0.out | apply IsS76.alloc | apply IsS76.drewN | apply IsS76.drew | apply IsS76.set_1 | apply IsS76.set_2 | refine IsS76.far ?_ NB0_435.out _) | exact HI0.out))) : gb480 ≠ g)); replace HI0 := Aside0.mk (IsS76.below (by repeat (first | (with_reducible first | exact HI0.out | apply IsS76.alloc | apply IsS76.drewN | apply IsS76.drew | apply IsS76.set_1 | apply IsS76.set_2 | refine IsS76.far ?_ NB0_435.out _) | exact HI0.out)) hb); clear hb hbox hg; have hnb31 := NB480_435.out; have hnc31 := NB435_480.out; have hnb32 := NB480_0.out; have hnc32 := NB0_480.out; obtain ⟨hcz33_0, hcz33_1, hcz33_2, hcz33_3, hcz33_4, hcz33_5, hcz33_6, hcz33_7, hcz33_8, hcz33_9, hcz33_10, hfz33_0, hfz33_1, hfz33_2, hfz33_3, hfz33_4, hfz33_5, hfz33_6, hfz33_7, hfz33_8, hfz33_9, hfz33_10⟩ := bx11_ BK480; obtain ⟨Ao34, co34, eo34⟩ := Kd.R_slice HO467.out; subst eo34; obtain ⟨Ao35, co35, eo35⟩ := Kd.R_slice HO472.out; subst eo35; obtain ⟨Ao36, co36, eo36⟩ := Kd.R_slice HO475.out; subst eo36; obtain ⟨Ao37, co37, eo37⟩ := Kd.N_slice HO478.out; subst eo37) | ((with_reducible refine gate_callee (f := 53) rfl ?_); refine goesL_ (some 29) rfl rfl Tryd.func53 (by kernel_rfl) rfl #[.pointer (some ⟨g, 0, none⟩)] rfl gl_ ?_; (with_reducible refine (spec_l06Draw.calls k g s0_0 t458 t459 t481 t482 t483 t486 t489 t490 w0 _ ?side1 ?side2 A9.out).mono ?_); (case side1 => repeat (first | (with_reducible first | exact HI0.out | apply IsS76.alloc | apply IsS76.drewN | apply IsS76.drew | apply IsS76.set_1 | apply IsS76.set_2 | refine IsS76.far ?_ NB0_435.out _ | refine IsS76.far ?_ NB0_480.out _) | exact HI0.out)); (case side2 => repeat (first | (with_reducible first | exact HB.out | apply below_alloc | apply pw_below_drewN | apply below_drew1 | refine below_set ?_ (IsS76.ge HI0.out) | refine below_set ?_ GE435.out | refine below_set ?_ GE480.out) | exact HB.out)); rintro e w38 ⟨v484, v487, rfl, ho0, ho1, hi, hb, hk⟩; refine ⟨_, rfl, ?_⟩; replace BK435 := Aside0.mk (KeepBut.blk hk (g' := gb435) (o := .cells #[.string (⟨#[]⟩ : ByteArray), .int .i64 0, .int .i64 0, .int .i64 0, .int .i64 0, .slice none 0 0, .int .i64 0, .int .i64 0, .slice none 0 0, .slice none 0 0, .slice none 0 0] 29 (0, 0)) (by (with_reducible repeat (first | refine blk_drewN ?_ _ | refine blk_drew ?_ | refine blk_alloc ?_ _)); refine blk_far ?_ NB435_480.out _; (with_reducible repeat (first | refine blk_drewN ?_ _ | refine blk_drew ?_ | refine blk_alloc ?_ _)); refine blk_far ?_ NB435_480.out _; (with_reducible repeat (first | refine blk_drewN ?_ _ | refine blk_drew ?_ | refine blk_alloc ?_ _)); refine blk_far ?_ NB435_480.out _; (with_reducible repeat (first | refine blk_drewN ?_ _ | refine blk_drew ?_ | refine blk_alloc ?_ _)); refine blk_far ?_ NB435_480.out _; (with_reducible repeat (first | refine blk_drewN ?_ _ | refine blk_drew ?_ | refine blk_alloc ?_ _)); refine blk_far ?_ NB435_480.out _; (with_reducible repeat (first | refine blk_drewN ?_ _ | refine blk_drew ?_ | refine blk_alloc ?_ _)); refine blk_far ?_ NB435_480.out _; (with_reducible repeat (first | refine blk_drewN ?_ _ | refine blk_drew ?_ | refine blk_alloc ?_ _)); refine blk_far ?_ NB435_480.out _; (with_reducible repeat (first | refine blk_drewN ?_ _ | refine blk_drew ?_ | refine blk_alloc ?_ _)); refine blk_far ?_ NB435_480.out _; (with_reducible repeat (first | refine blk_drewN ?_ _ | refine blk_drew ?_ | refine blk_alloc ?_ _)); refine blk_far ?_ NB435_480.out _; (with_reducible repeat (first | refine blk_drewN ?_ _ | refine blk_drew ?_ | refine blk_alloc ?_ _)); refine blk_far ?_ NB435_480.out _; (with_reducible repeat (first | refine blk_drewN ?_ _ | refine blk_drew ?_ | refine blk_alloc ?_ _)); refine blk_far ?_ NB435_480.out _; (with_reducible repeat (first | refine blk_drewN ?_ _ | refine blk_drew ?_ | refine blk_alloc ?_ _)); exact BK435.out) NB435_0.out (by simp)); replace HO467 := Aside0.mk (Kd.R_mono (Kd.R_keep (IsS76.apart (show IsS76 w0 _ g s0_0 t458 t459 from by repeat (first | (with_reducible first | exact HI0.out | apply IsS76.alloc | apply IsS76.drewN | apply IsS76.drew | apply IsS76.set_1 | apply IsS76.set_2 | refine IsS76.far ?_ NB0_435.out _ | refine IsS76.far ?_ NB0_480.out _) | exact HI0.out)) (by (with_reducible repeat (first | apply Kd.R_alloc | apply Kd.R_drewN | apply Kd.R_drew)); exact (Kd.R_mono (Kd.R_far (p := ⟨gb480, 10, none⟩) (Kd.R_far (p := ⟨gb480, 9, none⟩) (Kd.R_far (p := ⟨gb480, 8, none⟩) (Kd.R_far (p := ⟨gb480, 7, none⟩) (Kd.R_far (p := ⟨gb480, 6, none⟩) (Kd.R_far (p := ⟨gb480, 5, none⟩) (Kd.R_far (p := ⟨gb480, 4, none⟩) (Kd.R_far (p := ⟨gb480, 3, none⟩) (Kd.R_far (p := ⟨gb480, 2, none⟩) (Kd.R_far (p := ⟨gb480, 1, none⟩) (Kd.R_far (p := ⟨gb480, 0, none⟩) (Kd.R_types HO467.out BK480.out (by decide)) (fun _ hk => hk.2) (.string t460)) (fun _ hk => hk.2) (.int .i64 t461)) (fun _ hk => hk.2) (.int .i64 t462)) (fun _ hk => hk.2) (.int .i64 t463)) (fun _ hk => hk.2) (.int .i64 t464)) (fun _ hk => hk.2) (.slice Ao34 t465.length co34)) (fun _ hk => hk.2) (.int .i64 t468)) (fun _ hk => hk.2) (.int .i64 t469)) (fun _ hk => hk.2) (.slice Ao35 t470.length co35)) (fun _ hk => hk.2) (.slice Ao36 t473.length co36)) (fun _ hk => hk.2) (.slice Ao37 t476.length co37)) (fun _ h_ => h_.1))) (by decide)) hk (fun _ h => h.2)) (fun _ h => h.1)); replace HO478 := Aside0.mk (Kd.N_mono (Kd.N_told (Kd.N_told (Kd.N_oldK (Kd.N_mono (ok := fun k_ => ((((w.heap.size ≤ k_)) ∧ (some k_ ≠ (.slice Ao34 t465.length co34 : Value).ownBlock ∧ (some k_ ≠ (.slice Ao35 t470.length co35 : Value).ownBlock ∧ (some k_ ≠ (.slice Ao36 t473.length co36 : Value).ownBlock ∧ (some k_ ≠ (.slice Ao17 y436.length co17 : Value).ownBlock ∧ (some k_ ≠ (.slice Ao21 y442.length co21 : Value).ownBlock ∧ (some k_ ≠ (.slice Ao25 y448.length co25 : Value).ownBlock ∧ (k_ ≠ gb435 ∧ k_ ≠ g)))))))) ∧ k_ ≠ gb480)) (by (with_reducible repeat (first | apply Kd.N_alloc | apply Kd.N_drewN | apply Kd.N_drew)); exact (Kd.N_mono (Kd.N_far (p := ⟨gb480, 10, none⟩) (Kd.N_far (p := ⟨gb480, 9, none⟩) (Kd.N_far (p := ⟨gb480, 8, none⟩) (Kd.N_far (p := ⟨gb480, 7, none⟩) (Kd.N_far (p := ⟨gb480, 6, none⟩) (Kd.N_far (p := ⟨gb480, 5, none⟩) (Kd.N_far (p := ⟨gb480, 4, none⟩) (Kd.N_far (p := ⟨gb480, 3, none⟩) (Kd.N_far (p := ⟨gb480, 2, none⟩) (Kd.N_far (p := ⟨gb480, 1, none⟩) (Kd.N_far (p := ⟨gb480, 0, none⟩) (Kd.N_mono HO478.out (fun k_ hk => (⟨hk, hk.2⟩ : _ ∧ k_ ≠ gb480))) (fun _ hk => hk.2) (.string t460)) (fun _ hk => hk.2) (.int .i64 t461)) (fun _ hk => hk.2) (.int .i64 t462)) (fun _ hk => hk.2) (.int .i64 t463)) (fun _ hk => hk.2) (.int .i64 t464)) (fun _ hk => hk.2) (.slice Ao34 t465.length co34)) (fun _ hk => hk.2) (.int .i64 t468)) (fun _ hk => hk.2) (.int .i64 t469)) (fun _ hk => hk.2) (.slice Ao35 t470.length co35)) (fun _ hk => hk.2) (.slice Ao36 t473.length co36)) (fun _ hk => hk.2) (.slice Ao37 t476.length co37)) (fun _ h_ => h_.1))) (fun k_ hk_ => (⟨hk_, hk_.1.2.2.2.2.2.2.2.2⟩ : _ ∧ k_ ≠ g))) hk) (Kd.R_base ho0)) (Kd.R_base ho1)) (fun _ h_ => h_.1)); have HO485 := Aside0.mk (Kd.R_lower (Kd.R_new' (Kd.R_new' (Kd.R_new' (Kd.R_new' (Kd.R_new' (Kd.R_newM (M := fun k_ => (w.heap.size ≤ k_)) ho0 (keep_size (w := w) (g := g) (row := none) (by repeat (first | (with_reducible first | exact HK.out | apply KeepBut.set_ | apply keep_drewN | apply keep_drew | apply keep_alloc | refine keep_far ?_ GW435.out _ | refine keep_far ?_ GW480.out _) | exact HK.out))) (fun k_ h_ => h_)) (Kd.R_lt (by (with_reducible repeat (first | apply Kd.R_alloc | apply Kd.R_drewN | apply Kd.R_drew)); exact (Kd.R_mono (Kd.R_far (p := ⟨gb480, 10, none⟩) (Kd.R_far (p := ⟨gb480, 9, none⟩) (Kd.R_far (p := ⟨gb480, 8, none⟩) (Kd.R_far (p := ⟨gb480, 7, none⟩) (Kd.R_far (p := ⟨gb480, 6, none⟩) (Kd.R_far (p := ⟨gb480, 5, none⟩) (Kd.R_far (p := ⟨gb480, 4, none⟩) (Kd.R_far (p := ⟨gb480, 3, none⟩) (Kd.R_far (p := ⟨gb480, 2, none⟩) (Kd.R_far (p := ⟨gb480, 1, none⟩) (Kd.R_far (p := ⟨gb480, 0, none⟩) (Kd.R_types HO438.out BK480.out (by decide)) (fun _ hk => hk.2) (.string t460)) (fun _ hk => hk.2) (.int .i64 t461)) (fun _ hk => hk.2) (.int .i64 t462)) (fun _ hk => hk.2) (.int .i64 t463)) (fun _ hk => hk.2) (.int .i64 t464)) (fun _ hk => hk.2) (.slice Ao34 t465.length co34)) (fun _ hk => hk.2) (.int .i64 t468)) (fun _ hk => hk.2) (.int .i64 t469)) (fun _ hk => hk.2) (.slice Ao35 t470.length co35)) (fun _ hk => hk.2) (.slice Ao36 t473.length co36)) (fun _ hk => hk.2) (.slice Ao37 t476.length co37)) (fun _ h_ => h_.1))))) (Kd.R_lt (by (with_reducible repeat (first | apply Kd.R_alloc | apply Kd.R_drewN | apply Kd.R_drew)); exact (Kd.R_mono (Kd.R_far (p := ⟨gb480, 10, none⟩) (Kd.R_far (p := ⟨gb480, 9, none⟩) (Kd.R_far (p := ⟨gb480, 8, none⟩) (Kd.R_far (p := ⟨gb480, 7, none⟩) (Kd.R_far (p := ⟨gb480, 6, none⟩) (Kd.R_far (p := ⟨gb480, 5, none⟩) (Kd.R_far (p := ⟨gb480, 4, none⟩) (Kd.R_far (p := ⟨gb480, 3, none⟩) (Kd.R_far (p := ⟨gb480, 2, none⟩) (Kd.R_far (p := ⟨gb480, 1, none⟩) (Kd.R_far (p := ⟨gb480, 0, none⟩) (Kd.R_types HO444.out BK480.out (by decide)) (fun _ hk => hk.2) (.string t460)) (fun _ hk => hk.2) (.int .i64 t461)) (fun _ hk => hk.2) (.int .i64 t462)) (fun _ hk => hk.2) (.int .i64 t463)) (fun _ hk => hk.2) (.int .i64 t464)) (fun _ hk => hk.2) (.slice Ao34 t465.length co34)) (fun _ hk => hk.2) (.int .i64 t468)) (fun _ hk => hk.2) (.int .i64 t469)) (fun _ hk => hk.2) (.slice Ao35 t470.length co35)) (fun _ hk => hk.2) (.slice Ao36 t473.length co36)) (fun _ hk => hk.2) (.slice Ao37 t476.length co37)) (fun _ h_ => h_.1))))) (Kd.R_lt (by (with_reducible repeat (first | apply Kd.R_alloc | apply Kd.R_drewN | apply Kd.R_drew)); exact (Kd.R_mono (Kd.R_far (p := ⟨gb480, 10, none⟩) (Kd.R_far (p := ⟨gb480, 9, none⟩) (Kd.R_far (p := ⟨gb480, 8, none⟩) (Kd.R_far (p := ⟨gb480, 7, none⟩) (Kd.R_far (p := ⟨gb480, 6, none⟩) (Kd.R_far (p := ⟨gb480, 5, none⟩) (Kd.R_far (p := ⟨gb480, 4, none⟩) (Kd.R_far (p := ⟨gb480, 3, none⟩) (Kd.R_far (p := ⟨gb480, 2, none⟩) (Kd.R_far (p := ⟨gb480, 1, none⟩) (Kd.R_far (p := ⟨gb480, 0, none⟩) (Kd.R_types HO450.out BK480.out (by decide)) (fun _ hk => hk.2) (.string t460)) (fun _ hk => hk.2) (.int .i64 t461)) (fun _ hk => hk.2) (.int .i64 t462)) (fun _ hk => hk.2) (.int .i64 t463)) (fun _ hk => hk.2) (.int .i64 t464)) (fun _ hk => hk.2) (.slice Ao34 t465.length co34)) (fun _ hk => hk.2) (.int .i64 t468)) (fun _ hk => hk.2) (.int .i64 t469)) (fun _ hk => hk.2) (.slice Ao35 t470.length co35)) (fun _ hk => hk.2) (.slice Ao36 t473.length co36)) (fun _ hk => hk.2) (.slice Ao37 t476.length co37)) (fun _ h_ => h_.1))))) (Kd.R_lt (by (with_reducible repeat (first | apply Kd.R_alloc | apply Kd.R_drewN | apply Kd.R_drew)); exact (Kd.R_mono (Kd.R_far (p := ⟨gb480, 10, none⟩) (Kd.R_far (p := ⟨gb480, 9, none⟩) (Kd.R_far (p := ⟨gb480, 8, none⟩) (Kd.R_far (p := ⟨gb480, 7, none⟩) (Kd.R_far (p := ⟨gb480, 6, none⟩) (Kd.R_far (p := ⟨gb480, 5, none⟩) (Kd.R_far (p := ⟨gb480, 4, none⟩) (Kd.R_far (p := ⟨gb480, 3, none⟩) (Kd.R_far (p := ⟨gb480, 2, none⟩) (Kd.R_far (p := ⟨gb480, 1, none⟩) (Kd.R_far (p := ⟨gb480, 0, none⟩) (Kd.R_types HO472.out BK480.out (by decide)) (fun _ hk => hk.2) (.string t460)) (fun _ hk => hk.2) (.int .i64 t461)) (fun _ hk => hk.2) (.int .i64 t462)) (fun _ hk => hk.2) (.int .i64 t463)) (fun _ hk => hk.2) (.int .i64 t464)) (fun _ hk => hk.2) (.slice Ao34 t465.length co34)) (fun _ hk => hk.2) (.int .i64 t468)) (fun _ hk => hk.2) (.int .i64 t469)) (fun _ hk => hk.2) (.slice Ao35 t470.length co35)) (fun _ hk => hk.2) (.slice Ao36 t473.length co36)) (fun _ hk => hk.2) (.slice Ao37 t476.length co37)) (fun _ h_ => h_.1))))) (Kd.R_lt (by (with_reducible repeat (first | apply Kd.R_alloc | apply Kd.R_drewN | apply Kd.R_drew)); exact (Kd.R_mono (Kd.R_far (p := ⟨gb480, 10, none⟩) (Kd.R_far (p := ⟨gb480, 9, none⟩) (Kd.R_far (p := ⟨gb480, 8, none⟩) (Kd.R_far (p := ⟨gb480, 7, none⟩) (Kd.R_far (p := ⟨gb480, 6, none⟩) (Kd.R_far (p := ⟨gb480, 5, none⟩) (Kd.R_far (p := ⟨gb480, 4, none⟩) (Kd.R_far (p := ⟨gb480, 3, none⟩) (Kd.R_far (p := ⟨gb480, 2, none⟩) (Kd.R_far (p := ⟨gb480, 1, none⟩) (Kd.R_far (p := ⟨gb480, 0, none⟩) (Kd.R_types HO475.out BK480.out (by decide)) (fun _ hk => hk.2) (.string t460)) (fun _ hk => hk.2) (.int .i64 t461)) (fun _ hk => hk.2) (.int .i64 t462)) (fun _ hk => hk.2) (.int .i64 t463)) (fun _ hk => hk.2) (.int .i64 t464)) (fun _ hk => hk.2) (.slice Ao34 t465.length co34)) (fun _ hk => hk.2) (.int .i64 t468)) (fun _ hk => hk.2) (.int .i64 t469)) (fun _ hk => hk.2) (.slice Ao35 t470.length co35)) (fun _ hk => hk.2) (.slice Ao36 t473.length co36)) (fun _ hk => hk.2) (.slice Ao37 t476.length co37)) (fun _ h_ => h_.1))))) (keep_size (w := w) (g := g) (row := none) (by repeat (first | (with_reducible first | exact HK.out | apply KeepBut.set_ | apply keep_drewN | apply keep_drew | apply keep_alloc | refine keep_far ?_ GW435.out _ | refine keep_far ?_ GW480.out _) | exact HK.out)))); have HO488 := Aside0.mk (Kd.R_lower (Kd.R_new' (Kd.R_new' (Kd.R_new' (Kd.R_new' (Kd.R_new' (Kd.R_newM (M := fun k_ => (w.heap.size ≤ k_)) ho1 (keep_size (w := w) (g := g) (row := none) (by repeat (first | (with_reducible first | exact HK.out | apply KeepBut.set_ | apply keep_drewN | apply keep_drew | apply keep_alloc | refine keep_far ?_ GW435.out _ | refine keep_far ?_ GW480.out _) | exact HK.out))) (fun k_ h_ => h_)) (Kd.R_lt (by (with_reducible repeat (first | apply Kd.R_alloc | apply Kd.R_drewN | apply Kd.R_drew)); exact (Kd.R_mono (Kd.R_far (p := ⟨gb480, 10, none⟩) (Kd.R_far (p := ⟨gb480, 9, none⟩) (Kd.R_far (p := ⟨gb480, 8, none⟩) (Kd.R_far (p := ⟨gb480, 7, none⟩) (Kd.R_far (p := ⟨gb480, 6, none⟩) (Kd.R_far (p := ⟨gb480, 5, none⟩) (Kd.R_far (p := ⟨gb480, 4, none⟩) (Kd.R_far (p := ⟨gb480, 3, none⟩) (Kd.R_far (p := ⟨gb480, 2, none⟩) (Kd.R_far (p := ⟨gb480, 1, none⟩) (Kd.R_far (p := ⟨gb480, 0, none⟩) (Kd.R_types HO438.out BK480.out (by decide)) (fun _ hk => hk.2) (.string t460)) (fun _ hk => hk.2) (.int .i64 t461)) (fun _ hk => hk.2) (.int .i64 t462)) (fun _ hk => hk.2) (.int .i64 t463)) (fun _ hk => hk.2) (.int .i64 t464)) (fun _ hk => hk.2) (.slice Ao34 t465.length co34)) (fun _ hk => hk.2) (.int .i64 t468)) (fun _ hk => hk.2) (.int .i64 t469)) (fun _ hk => hk.2) (.slice Ao35 t470.length co35)) (fun _ hk => hk.2) (.slice Ao36 t473.length co36)) (fun _ hk => hk.2) (.slice Ao37 t476.length co37)) (fun _ h_ => h_.1))))) (Kd.R_lt (by (with_reducible repeat (first | apply Kd.R_alloc | apply Kd.R_drewN | apply Kd.R_drew)); exact (Kd.R_mono (Kd.R_far (p := ⟨gb480, 10, none⟩) (Kd.R_far (p := ⟨gb480, 9, none⟩) (Kd.R_far (p := ⟨gb480, 8, none⟩) (Kd.R_far (p := ⟨gb480, 7, none⟩) (Kd.R_far (p := ⟨gb480, 6, none⟩) (Kd.R_far (p := ⟨gb480, 5, none⟩) (Kd.R_far (p := ⟨gb480, 4, none⟩) (Kd.R_far (p := ⟨gb480, 3, none⟩) (Kd.R_far (p := ⟨gb480, 2, none⟩) (Kd.R_far (p := ⟨gb480, 1, none⟩) (Kd.R_far (p := ⟨gb480, 0, none⟩) (Kd.R_types HO444.out BK480.out (by decide)) (fun _ hk => hk.2) (.string t460)) (fun _ hk => hk.2) (.int .i64 t461)) (fun _ hk => hk.2) (.int .i64 t462)) (fun _ hk => hk.2) (.int .i64 t463)) (fun _ hk => hk.2) (.int .i64 t464)) (fun _ hk => hk.2) (.slice Ao34 t465.length co34)) (fun _ hk => hk.2) (.int .i64 t468)) (fun _ hk => hk.2) (.int .i64 t469)) (fun _ hk => hk.2) (.slice Ao35 t470.length co35)) (fun _ hk => hk.2) (.slice Ao36 t473.length co36)) (fun _ hk => hk.2) (.slice Ao37 t476.length co37)) (fun _ h_ => h_.1))))) (Kd.R_lt (by (with_reducible repeat (first | apply Kd.R_alloc | apply Kd.R_drewN | apply Kd.R_drew)); exact (Kd.R_mono (Kd.R_far (p := ⟨gb480, 10, none⟩) (Kd.R_far (p := ⟨gb480, 9, none⟩) (Kd.R_far (p := ⟨gb480, 8, none⟩) (Kd.R_far (p := ⟨gb480, 7, none⟩) (Kd.R_far (p := ⟨gb480, 6, none⟩) (Kd.R_far (p := ⟨gb480, 5, none⟩) (Kd.R_far (p := ⟨gb480, 4, none⟩) (Kd.R_far (p := ⟨gb480, 3, none⟩) (Kd.R_far (p := ⟨gb480, 2, none⟩) (Kd.R_far (p := ⟨gb480, 1, none⟩) (Kd.R_far (p := ⟨gb480, 0, none⟩) (Kd.R_types HO450.out BK480.out (by decide)) (fun _ hk => hk.2) (.string t460)) (fun _ hk => hk.2) (.int .i64 t461)) (fun _ hk => hk.2) (.int .i64 t462)) (fun _ hk => hk.2) (.int .i64 t463)) (fun _ hk => hk.2) (.int .i64 t464)) (fun _ hk => hk.2) (.slice Ao34 t465.length co34)) (fun _ hk => hk.2) (.int .i64 t468)) (fun _ hk => hk.2) (.int .i64 t469)) (fun _ hk => hk.2) (.slice Ao35 t470.length co35)) (fun _ hk => hk.2) (.slice Ao36 t473.length co36)) (fun _ hk => hk.2) (.slice Ao37 t476.length co37)) (fun _ h_ => h_.1))))) (Kd.R_lt (by (with_reducible repeat (first | apply Kd.R_alloc | apply Kd.R_drewN | apply Kd.R_drew)); exact (Kd.R_mono (Kd.R_far (p := ⟨gb480, 10, none⟩) (Kd.R_far (p := ⟨gb480, 9, none⟩) (Kd.R_far (p := ⟨gb480, 8, none⟩) (Kd.R_far (p := ⟨gb480, 7, none⟩) (Kd.R_far (p := ⟨gb480, 6, none⟩) (Kd.R_far (p := ⟨gb480, 5, none⟩) (Kd.R_far (p := ⟨gb480, 4, none⟩) (Kd.R_far (p := ⟨gb480, 3, none⟩) (Kd.R_far (p := ⟨gb480, 2, none⟩) (Kd.R_far (p := ⟨gb480, 1, none⟩) (Kd.R_far (p := ⟨gb480, 0, none⟩) (Kd.R_types HO472.out BK480.out (by decide)) (fun _ hk => hk.2) (.string t460)) (fun _ hk => hk.2) (.int .i64 t461)) (fun _ hk => hk.2) (.int .i64 t462)) (fun _ hk => hk.2) (.int .i64 t463)) (fun _ hk => hk.2) (.int .i64 t464)) (fun _ hk => hk.2) (.slice Ao34 t465.length co34)) (fun _ hk => hk.2) (.int .i64 t468)) (fun _ hk => hk.2) (.int .i64 t469)) (fun _ hk => hk.2) (.slice Ao35 t470.length co35)) (fun _ hk => hk.2) (.slice Ao36 t473.length co36)) (fun _ hk => hk.2) (.slice Ao37 t476.length co37)) (fun _ h_ => h_.1))))) (Kd.R_lt (by (with_reducible repeat (first | apply Kd.R_alloc | apply Kd.R_drewN | apply Kd.R_drew)); exact (Kd.R_mono (Kd.R_far (p := ⟨gb480, 10, none⟩) (Kd.R_far (p := ⟨gb480, 9, none⟩) (Kd.R_far (p := ⟨gb480, 8, none⟩) (Kd.R_far (p := ⟨gb480, 7, none⟩) (Kd.R_far (p := ⟨gb480, 6, none⟩) (Kd.R_far (p := ⟨gb480, 5, none⟩) (Kd.R_far (p := ⟨gb480, 4, none⟩) (Kd.R_far (p := ⟨gb480, 3, none⟩) (Kd.R_far (p := ⟨gb480, 2, none⟩) (Kd.R_far (p := ⟨gb480, 1, none⟩) (Kd.R_far (p := ⟨gb480, 0, none⟩) (Kd.R_types HO475.out BK480.out (by decide)) (fun _ hk => hk.2) (.string t460)) (fun _ hk => hk.2) (.int .i64 t461)) (fun _ hk => hk.2) (.int .i64 t462)) (fun _ hk => hk.2) (.int .i64 t463)) (fun _ hk => hk.2) (.int .i64 t464)) (fun _ hk => hk.2) (.slice Ao34 t465.length co34)) (fun _ hk => hk.2) (.int .i64 t468)) (fun _ hk => hk.2) (.int .i64 t469)) (fun _ hk => hk.2) (.slice Ao35 t470.length co35)) (fun _ hk => hk.2) (.slice Ao36 t473.length co36)) (fun _ hk => hk.2) (.slice Ao37 t476.length co37)) (fun _ h_ => h_.1))))) (keep_size (w := w) (g := g) (row := none) (by repeat (first | (with_reducible first | exact HK.out | apply KeepBut.set_ | apply keep_drewN | apply keep_drew | apply keep_alloc | refine keep_far ?_ GW435.out _ | refine keep_far ?_ GW480.out _) | exact HK.out)))); replace HO438 := Aside0.mk (Kd.R_mono (Kd.R_told (Kd.R_told (Kd.R_oldK (IsS76.apart (show IsS76 w0 _ g s0_0 t458 t459 from by repeat (first | (with_reducible first | exact HI0.out | apply IsS76.alloc | apply IsS76.drewN | apply IsS76.drew | apply IsS76.set_1 | apply IsS76.set_2 | refine IsS76.far ?_ NB0_435.out _ | refine IsS76.far ?_ NB0_480.out _) | exact HI0.out)) (by (with_reducible repeat (first | apply Kd.R_alloc | apply Kd.R_drewN | apply Kd.R_drew)); exact (Kd.R_mono (Kd.R_far (p := ⟨gb480, 10, none⟩) (Kd.R_far (p := ⟨gb480, 9, none⟩) (Kd.R_far (p := ⟨gb480, 8, none⟩) (Kd.R_far (p := ⟨gb480, 7, none⟩) (Kd.R_far (p := ⟨gb480, 6, none⟩) (Kd.R_far (p := ⟨gb480, 5, none⟩) (Kd.R_far (p := ⟨gb480, 4, none⟩) (Kd.R_far (p := ⟨gb480, 3, none⟩) (Kd.R_far (p := ⟨gb480, 2, none⟩) (Kd.R_far (p := ⟨gb480, 1, none⟩) (Kd.R_far (p := ⟨gb480, 0, none⟩) (Kd.R_types HO438.out BK480.out (by decide)) (fun _ hk => hk.2) (.string t460)) (fun _ hk => hk.2) (.int .i64 t461)) (fun _ hk => hk.2) (.int .i64 t462)) (fun _ hk => hk.2) (.int .i64 t463)) (fun _ hk => hk.2) (.int .i64 t464)) (fun _ hk => hk.2) (.slice Ao34 t465.length co34)) (fun _ hk => hk.2) (.int .i64 t468)) (fun _ hk => hk.2) (.int .i64 t469)) (fun _ hk => hk.2) (.slice Ao35 t470.length co35)) (fun _ hk => hk.2) (.slice Ao36 t473.length co36)) (fun _ hk => hk.2) (.slice Ao37 t476.length co37)) (fun _ h_ => h_.1))) (by decide)) hk) (Kd.R_base ho0)) (Kd.R_base ho1)) (fun _ h_ => h_.1)); replace HO444 := Aside0.mk (Kd.R_mono (Kd.R_told (Kd.R_told (Kd.R_oldK (IsS76.apart (show IsS76 w0 _ g s0_0 t458 t459 from by repeat (first | (with_reducible first | exact HI0.out | apply IsS76.alloc | apply IsS76.drewN | apply IsS76.drew | apply IsS76.set_1 | apply IsS76.set_2 | refine IsS76.far ?_ NB0_435.out _ | refine IsS76.far ?_ NB0_480.out _) | exact HI0.out)) (by (with_reducible repeat (first | apply Kd.R_alloc | apply Kd.R_drewN | apply Kd.R_drew)); exact (Kd.R_mono (Kd.R_far (p := ⟨gb480, 10, none⟩) (Kd.R_far (p := ⟨gb480, 9, none⟩) (Kd.R_far (p := ⟨gb480, 8, none⟩) (Kd.R_far (p := ⟨gb480, 7, none⟩) (Kd.R_far (p := ⟨gb480, 6, none⟩) (Kd.R_far (p := ⟨gb480, 5, none⟩) (Kd.R_far (p := ⟨gb480, 4, none⟩) (Kd.R_far (p := ⟨gb480, 3, none⟩) (Kd.R_far (p := ⟨gb480, 2, none⟩) (Kd.R_far (p := ⟨gb480, 1, none⟩) (Kd.R_far (p := ⟨gb480, 0, none⟩) (Kd.R_types HO444.out BK480.out (by decide)) (fun _ hk => hk.2) (.string t460)) (fun _ hk => hk.2) (.int .i64 t461)) (fun _ hk => hk.2) (.int .i64 t462)) (fun _ hk => hk.2) (.int .i64 t463)) (fun _ hk => hk.2) (.int .i64 t464)) (fun _ hk => hk.2) (.slice Ao34 t465.length co34)) (fun _ hk => hk.2) (.int .i64 t468)) (fun _ hk => hk.2) (.int .i64 t469)) (fun _ hk => hk.2) (.slice Ao35 t470.length co35)) (fun _ hk => hk.2) (.slice Ao36 t473.length co36)) (fun _ hk => hk.2) (.slice Ao37 t476.length co37)) (fun _ h_ => h_.1))) (by decide)) hk) (Kd.R_base ho0)) (Kd.R_base ho1)) (fun _ h_ => h_.1)); replace HO450 := Aside0.mk (Kd.R_mono (Kd.R_told (Kd.R_told (Kd.R_oldK (IsS76.apart (show IsS76 w0 _ g s0_0 t458 t459 from by repeat (first | (with_reducible first | exact HI0.out | apply IsS76.alloc | apply IsS76.drewN | apply IsS76.drew | apply IsS76.set_1 | apply IsS76.set_2 | refine IsS76.far ?_ NB0_435.out _ | refine IsS76.far ?_ NB0_480.out _) | exact HI0.out)) (by (with_reducible repeat (first | apply Kd.R_alloc | apply Kd.R_drewN | apply Kd.R_drew)); exact (Kd.R_mono (Kd.R_far (p := ⟨gb480, 10, none⟩) (Kd.R_far (p := ⟨gb480, 9, none⟩) (Kd.R_far (p := ⟨gb480, 8, none⟩) (Kd.R_far (p := ⟨gb480, 7, none⟩) (Kd.R_far (p := ⟨gb480, 6, none⟩) (Kd.R_far (p := ⟨gb480, 5, none⟩) (Kd.R_far (p := ⟨gb480, 4, none⟩) (Kd.R_far (p := ⟨gb480, 3, none⟩) (Kd.R_far (p := ⟨gb480, 2, none⟩) (Kd.R_far (p := ⟨gb480, 1, none⟩) (Kd.R_far (p := ⟨gb480, 0, none⟩) (Kd.R_types HO450.out BK480.out (by decide)) (fun _ hk => hk.2) (.string t460)) (fun _ hk => hk.2) (.int .i64 t461)) (fun _ hk => hk.2) (.int .i64 t462)) (fun _ hk => hk.2) (.int .i64 t463)) (fun _ hk => hk.2) (.int .i64 t464)) (fun _ hk => hk.2) (.slice Ao34 t465.length co34)) (fun _ hk => hk.2) (.int .i64 t468)) (fun _ hk => hk.2) (.int .i64 t469)) (fun _ hk => hk.2) (.slice Ao35 t470.length co35)) (fun _ hk => hk.2) (.slice Ao36 t473.length co36)) (fun _ hk => hk.2) (.slice Ao37 t476.length co37)) (fun _ h_ => h_.1))) (by decide)) hk) (Kd.R_base ho0)) (Kd.R_base ho1)) (fun _ h_ => h_.1)); replace HO472 := Aside0.mk (Kd.R_mono (Kd.R_told (Kd.R_told (Kd.R_oldK (IsS76.apart (show IsS76 w0 _ g s0_0 t458 t459 from by repeat (first | (with_reducible first | exact HI0.out | apply IsS76.alloc | apply IsS76.drewN | apply IsS76.drew | apply IsS76.set_1 | apply IsS76.set_2 | refine IsS76.far ?_ NB0_435.out _ | refine IsS76.far ?_ NB0_480.out _) | exact HI0.out)) (by (with_reducible repeat (first | apply Kd.R_alloc | apply Kd.R_drewN | apply Kd.R_drew)); exact (Kd.R_mono (Kd.R_far (p := ⟨gb480, 10, none⟩) (Kd.R_far (p := ⟨gb480, 9, none⟩) (Kd.R_far (p := ⟨gb480, 8, none⟩) (Kd.R_far (p := ⟨gb480, 7, none⟩) (Kd.R_far (p := ⟨gb480, 6, none⟩) (Kd.R_far (p := ⟨gb480, 5, none⟩) (Kd.R_far (p := ⟨gb480, 4, none⟩) (Kd.R_far (p := ⟨gb480, 3, none⟩) (Kd.R_far (p := ⟨gb480, 2, none⟩) (Kd.R_far (p := ⟨gb480, 1, none⟩) (Kd.R_far (p := ⟨gb480, 0, none⟩) (Kd.R_types HO472.out BK480.out (by decide)) (fun _ hk => hk.2) (.string t460)) (fun _ hk => hk.2) (.int .i64 t461)) (fun _ hk => hk.2) (.int .i64 t462)) (fun _ hk => hk.2) (.int .i64 t463)) (fun _ hk => hk.2) (.int .i64 t464)) (fun _ hk => hk.2) (.slice Ao34 t465.length co34)) (fun _ hk => hk.2) (.int .i64 t468)) (fun _ hk => hk.2) (.int .i64 t469)) (fun _ hk => hk.2) (.slice Ao35 t470.length co35)) (fun _ hk => hk.2) (.slice Ao36 t473.length co36)) (fun _ hk => hk.2) (.slice Ao37 t476.length co37)) (fun _ h_ => h_.1))) (by decide)) hk) (Kd.R_base ho0)) (Kd.R_base ho1)) (fun _ h_ => h_.1)); replace HO475 := Aside0.mk (Kd.R_mono (Kd.R_told (Kd.R_told (Kd.R_oldK (IsS76.apart (show IsS76 w0 _ g s0_0 t458 t459 from by repeat (first | (with_reducible first | exact HI0.out | apply IsS76.alloc | apply IsS76.drewN | apply IsS76.drew | apply IsS76.set_1 | apply IsS76.set_2 | refine IsS76.far ?_ NB0_435.out _ | refine IsS76.far ?_ NB0_480.out _) | exact HI0.out)) (by (with_reducible repeat (first | apply Kd.R_alloc | apply Kd.R_drewN | apply Kd.R_drew)); exact (Kd.R_mono (Kd.R_far (p := ⟨gb480, 10, none⟩) (Kd.R_far (p := ⟨gb480, 9, none⟩) (Kd.R_far (p := ⟨gb480, 8, none⟩) (Kd.R_far (p := ⟨gb480, 7, none⟩) (Kd.R_far (p := ⟨gb480, 6, none⟩) (Kd.R_far (p := ⟨gb480, 5, none⟩) (Kd.R_far (p := ⟨gb480, 4, none⟩) (Kd.R_far (p := ⟨gb480, 3, none⟩) (Kd.R_far (p := ⟨gb480, 2, none⟩) (Kd.R_far (p := ⟨gb480, 1, none⟩) (Kd.R_far (p := ⟨gb480, 0, none⟩) (Kd.R_types HO475.out BK480.out (by decide)) (fun _ hk => hk.2) (.string t460)) (fun _ hk => hk.2) (.int .i64 t461)) (fun _ hk => hk.2) (.int .i64 t462)) (fun _ hk => hk.2) (.int .i64 t463)) (fun _ hk => hk.2) (.int .i64 t464)) (fun _ hk => hk.2) (.slice Ao34 t465.length co34)) (fun _ hk => hk.2) (.int .i64 t468)) (fun _ hk => hk.2) (.int .i64 t469)) (fun _ hk => hk.2) (.slice Ao35 t470.length co35)) (fun _ hk => hk.2) (.slice Ao36 t473.length co36)) (fun _ hk => hk.2) (.slice Ao37 t476.length co37)) (fun _ h_ => h_.1))) (by decide)) hk) (Kd.R_base ho0)) (Kd.R_base ho1)) (fun _ h_ => h_.1)); replace BK480 := Aside0.mk (KeepBut.blk hk (g' := gb480) (o := .cells #[.string t460, .int .i64 t461, .int .i64 t462, .int .i64 t463, .int .i64 t464, .slice Ao34 t465.length co34, .int .i64 t468, .int .i64 t469, .slice Ao35 t470.length co35, .slice Ao36 t473.length co36, .slice Ao37 t476.length co37] 29 (0, 0)) (by (with_reducible repeat (first | refine blk_drewN ?_ _ | refine blk_drew ?_ | refine blk_alloc ?_ _)); apply bq11_10_9_8_7_6_5_4_3_2_1_0_; (with_reducible repeat (first | refine blk_drewN ?_ _ | refine blk_drew ?_ | refine blk_alloc ?_ _)); exact BK480.out) NB480_0.out (by simp)); replace HK := Aside0.mk (KeepBut.trans (by repeat (first | (with_reducible first | exact HK.out | apply KeepBut.set_ | apply keep_drewN | apply keep_drew | apply keep_alloc | refine keep_far ?_ GW435.out _ | refine keep_far ?_ GW480.out _) | exact HK.out)) hk (.inl rfl)); replace HB := Aside0.mk (hb); replace HI0 := Aside0.mk (hi); (try clear hb); (try clear hb2); (try clear hk); (try clear hi); (try clear ho0); (try clear ho1); obtain ⟨hcz39_0, hcz39_1, hcz39_2, hcz39_3, hcz39_4, hcz39_5, hcz39_6, hcz39_7, hcz39_8, hcz39_9, hcz39_10, hfz39_0, hfz39_1, hfz39_2, hfz39_3, hfz39_4, hfz39_5, hfz39_6, hfz39_7, hfz39_8, hfz39_9, hfz39_10⟩ := bx11_ BK480; obtain ⟨Ao40, co40, eo40⟩ := Kd.R_slice HO485.out; subst eo40; obtain ⟨Ao41, co41, eo41⟩ := Kd.R_slice HO488.out; subst eo41) | ((with_reducible refine gate_callee (f := 54) rfl ?_); refine goesL_ (some 32) rfl rfl Tryd.func54 (by kernel_rfl) rfl #[.pointer (some ⟨g, 0, none⟩)] rfl gl_ ?_; (with_reducible refine (spec_l07Draw.calls k g s0_0 t489 t490 t491 t494 t495 w0 _ ?side1 ?side2 A10.out).mono ?_); (case side1 => repeat (first | (with_reducible first | exact HI0.out | apply IsS76.alloc | apply IsS76.drewN | apply IsS76.drew | apply IsS76.set_1 | apply IsS76.set_2 | refine IsS76.far ?_ NB0_435.out _ | refine IsS76.far ?_ NB0_480.out _) | exact HI0.out)); (case side2 => repeat (first | (with_reducible first | exact HB.out | apply below_alloc | apply pw_below_drewN | apply below_drew1 | refine below_set ?_ (IsS76.ge HI0.out) | refine below_set ?_ GE435.out | refine below_set ?_ GE480.out) | exact HB.out)); rintro e w42 ⟨v492, rfl, ho0, hi, hb, hk⟩; refine ⟨_, rfl, ?_⟩; replace BK435 := Aside0.mk (KeepBut.blk hk (g' := gb435) (o := .cells #[.string (⟨#[]⟩ : ByteArray), .int .i64 0, .int .i64 0, .int .i64 0, .int .i64 0, .slice none 0 0, .int .i64 0, .int .i64 0, .slice none 0 0, .slice none 0 0, .slice none 0 0] 29 (0, 0)) (by (with_reducible repeat (first | refine blk_drewN ?_ _ | refine blk_drew ?_ | refine blk_alloc ?_ _)); refine blk_far ?_ NB435_480.out _; (with_reducible repeat (first | refine blk_drewN ?_ _ | refine blk_drew ?_ | refine blk_alloc ?_ _)); refine blk_far ?_ NB435_480.out _; (with_reducible repeat (first | refine blk_drewN ?_ _ | refine blk_drew ?_ | refine blk_alloc ?_ _)); refine blk_far ?_ NB435_480.out _; (with_reducible repeat (first | refine blk_drewN ?_ _ | refine blk_drew ?_ | refine blk_alloc ?_ _)); refine blk_far ?_ NB435_480.out _; (with_reducible repeat (first | refine blk_drewN ?_ _ | refine blk_drew ?_ | refine blk_alloc ?_ _)); exact BK435.out) NB435_0.out (by simp)); replace HO438 := Aside0.mk (Kd.R_mono (Kd.R_keep (IsS76.apart (show IsS76 w0 _ g s0_0 t489 t490 from by repeat (first | (with_reducible first | exact HI0.out | apply IsS76.alloc | apply IsS76.drewN | apply IsS76.drew | apply IsS76.set_1 | apply IsS76.set_2 | refine IsS76.far ?_ NB0_435.out _ | refine IsS76.far ?_ NB0_480.out _) | exact HI0.out)) (by (with_reducible repeat (first | apply Kd.R_alloc | apply Kd.R_drewN | apply Kd.R_drew)); exact (Kd.R_mono (Kd.R_far (p := ⟨gb480, 9, none⟩) (Kd.R_far (p := ⟨gb480, 8, none⟩) (Kd.R_far (p := ⟨gb480, 7, none⟩) (Kd.R_far (p := ⟨gb480, 6, none⟩) (Kd.R_types HO438.out BK480.out (by decide)) (fun _ hk => hk.2) (.int .i64 t481)) (fun _ hk => hk.2) (.int .i64 t482)) (fun _ hk => hk.2) (.slice Ao40 t483.length co40)) (fun _ hk => hk.2) (.slice Ao41 t486.length co41)) (fun _ h_ => h_.1))) (by decide)) hk (fun _ h => h.2)) (fun _ h => h.1)); replace HO444 := Aside0.mk (Kd.R_mono (Kd.R_keep (IsS76.apart (show IsS76 w0 _ g s0_0 t489 t490 from by repeat (first | (with_reducible first | exact HI0.out | apply IsS76.alloc | apply IsS76.drewN | apply IsS76.drew | apply IsS76.set_1 | apply IsS76.set_2 | refine IsS76.far ?_ NB0_435.out _ | refine IsS76.far ?_ NB0_480.out _) | exact HI0.out)) (by (with_reducible repeat (first | apply Kd.R_alloc | apply Kd.R_drewN | apply Kd.R_drew)); exact (Kd.R_mono (Kd.R_far (p := ⟨gb480, 9, none⟩) (Kd.R_far (p := ⟨gb480, 8, none⟩) (Kd.R_far (p := ⟨gb480, 7, none⟩) (Kd.R_far (p := ⟨gb480, 6, none⟩) (Kd.R_types HO444.out BK480.out (by decide)) (fun _ hk => hk.2) (.int .i64 t481)) (fun _ hk => hk.2) (.int .i64 t482)) (fun _ hk => hk.2) (.slice Ao40 t483.length co40)) (fun _ hk => hk.2) (.slice Ao41 t486.length co41)) (fun _ h_ => h_.1))) (by decide)) hk (fun _ h => h.2)) (fun _ h => h.1)); replace HO450 := Aside0.mk (Kd.R_mono (Kd.R_keep (IsS76.apart (show IsS76 w0 _ g s0_0 t489 t490 from by repeat (first | (with_reducible first | exact HI0.out | apply IsS76.alloc | apply IsS76.drewN | apply IsS76.drew | apply IsS76.set_1 | apply IsS76.set_2 | refine IsS76.far ?_ NB0_435.out _ | refine IsS76.far ?_ NB0_480.out _) | exact HI0.out)) (by (with_reducible repeat (first | apply Kd.R_alloc | apply Kd.R_drewN | apply Kd.R_drew)); exact (Kd.R_mono (Kd.R_far (p := ⟨gb480, 9, none⟩) (Kd.R_far (p := ⟨gb480, 8, none⟩) (Kd.R_far (p := ⟨gb480, 7, none⟩) (Kd.R_far (p := ⟨gb480, 6, none⟩) (Kd.R_types HO450.out BK480.out (by decide)) (fun _ hk => hk.2) (.int .i64 t481)) (fun _ hk => hk.2) (.int .i64 t482)) (fun _ hk => hk.2) (.slice Ao40 t483.length co40)) (fun _ hk => hk.2) (.slice Ao41 t486.length co41)) (fun _ h_ => h_.1))) (by decide)) hk (fun _ h => h.2)) (fun _ h => h.1)); replace HO472 := Aside0.mk (Kd.R_mono (Kd.R_keep (IsS76.apart (show IsS76 w0 _ g s0_0 t489 t490 from by repeat (first | (with_reducible first | exact HI0.out | apply IsS76.alloc | apply IsS76.drewN | apply IsS76.drew | apply IsS76.set_1 | apply IsS76.set_2 | refine IsS76.far ?_ NB0_435.out _ | refine IsS76.far ?_ NB0_480.out _) | exact HI0.out)) (by (with_reducible repeat (first | apply Kd.R_alloc | apply Kd.R_drewN | apply Kd.R_drew)); exact (Kd.R_mono (Kd.R_far (p := ⟨gb480, 9, none⟩) (Kd.R_far (p := ⟨gb480, 8, none⟩) (Kd.R_far (p := ⟨gb480, 7, none⟩) (Kd.R_far (p := ⟨gb480, 6, none⟩) (Kd.R_types HO472.out BK480.out (by decide)) (fun _ hk => hk.2) (.int .i64 t481)) (fun _ hk => hk.2) (.int .i64 t482)) (fun _ hk => hk.2) (.slice Ao40 t483.length co40)) (fun _ hk => hk.2) (.slice Ao41 t486.length co41)) (fun _ h_ => h_.1))) (by decide)) hk (fun _ h => h.2)) (fun _ h => h.1)); replace HO475 := Aside0.mk (Kd.R_mono (Kd.R_keep (IsS76.apart (show IsS76 w0 _ g s0_0 t489 t490 from by repeat (first | (with_reducible first | exact HI0.out | apply IsS76.alloc | apply IsS76.drewN | apply IsS76.drew | apply IsS76.set_1 | apply IsS76.set_2 | refine IsS76.far ?_ NB0_435.out _ | refine IsS76.far ?_ NB0_480.out _) | exact HI0.out)) (by (with_reducible repeat (first | apply Kd.R_alloc | apply Kd.R_drewN | apply Kd.R_drew)); exact (Kd.R_mono (Kd.R_far (p := ⟨gb480, 9, none⟩) (Kd.R_far (p := ⟨gb480, 8, none⟩) (Kd.R_far (p := ⟨gb480, 7, none⟩) (Kd.R_far (p := ⟨gb480, 6, none⟩) (Kd.R_types HO475.out BK480.out (by decide)) (fun _ hk => hk.2) (.int .i64 t481)) (fun _ hk => hk.2) (.int .i64 t482)) (fun _ hk => hk.2) (.slice Ao40 t483.length co40)) (fun _ hk => hk.2) (.slice Ao41 t486.length co41)) (fun _ h_ => h_.1))) (by decide)) hk (fun _ h => h.2)) (fun _ h => h.1)); replace HO478 := Aside0.mk (Kd.N_mono (Kd.N_told (Kd.N_oldK (Kd.N_mono (ok := fun k_ => ((((((w.heap.size ≤ k_)) ∧ (some k_ ≠ (.slice Ao34 t465.length co34 : Value).ownBlock ∧ (some k_ ≠ (.slice Ao35 t470.length co35 : Value).ownBlock ∧ (some k_ ≠ (.slice Ao36 t473.length co36 : Value).ownBlock ∧ (some k_ ≠ (.slice Ao17 y436.length co17 : Value).ownBlock ∧ (some k_ ≠ (.slice Ao21 y442.length co21 : Value).ownBlock ∧ (some k_ ≠ (.slice Ao25 y448.length co25 : Value).ownBlock ∧ (k_ ≠ gb435 ∧ k_ ≠ g)))))))) ∧ k_ ≠ gb480) ∧ some k_ ≠ (.slice Ao40 t483.length co40 : Value).ownBlock) ∧ some k_ ≠ (.slice Ao41 t486.length co41 : Value).ownBlock)) (by (with_reducible repeat (first | apply Kd.N_alloc | apply Kd.N_drewN | apply Kd.N_drew)); exact (Kd.N_mono (Kd.N_far (p := ⟨gb480, 9, none⟩) (Kd.N_far (p := ⟨gb480, 8, none⟩) (Kd.N_far (p := ⟨gb480, 7, none⟩) (Kd.N_far (p := ⟨gb480, 6, none⟩) (Kd.N_mono HO478.out (fun k_ hk => (⟨hk, hk.1.1.2⟩ : _ ∧ k_ ≠ gb480))) (fun _ hk => hk.2) (.int .i64 t481)) (fun _ hk => hk.2) (.int .i64 t482)) (fun _ hk => hk.2) (.slice Ao40 t483.length co40)) (fun _ hk => hk.2) (.slice Ao41 t486.length co41)) (fun _ h_ => h_.1))) (fun k_ hk_ => (⟨hk_, hk_.1.1.1.2.2.2.2.2.2.2.2⟩ : _ ∧ k_ ≠ g))) hk) (Kd.R_base ho0)) (fun _ h_ => h_.1)); replace HO485 := Aside0.mk (Kd.R_mono (Kd.R_keep (IsS76.apart (show IsS76 w0 _ g s0_0 t489 t490 from by repeat (first | (with_reducible first | exact HI0.out | apply IsS76.alloc | apply IsS76.drewN | apply IsS76.drew | apply IsS76.set_1 | apply IsS76.set_2 | refine IsS76.far ?_ NB0_435.out _ | refine IsS76.far ?_ NB0_480.out _) | exact HI0.out)) (by (with_reducible repeat (first | apply Kd.R_alloc | apply Kd.R_drewN | apply Kd.R_drew)); exact (Kd.R_mono (Kd.R_far (p := ⟨gb480, 9, none⟩) (Kd.R_far (p := ⟨gb480, 8, none⟩) (Kd.R_far (p := ⟨gb480, 7, none⟩) (Kd.R_far (p := ⟨gb480, 6, none⟩) (Kd.R_types HO485.out BK480.out (by decide)) (fun _ hk => hk.2) (.int .i64 t481)) (fun _ hk => hk.2) (.int .i64 t482)) (fun _ hk => hk.2) (.slice Ao40 t483.length co40)) (fun _ hk => hk.2) (.slice Ao41 t486.length co41)) (fun _ h_ => h_.1))) (by decide)) hk (fun _ h => h.2)) (fun _ h => h.1)); replace HO488 := Aside0.mk (Kd.R_mono (Kd.R_keep (IsS76.apart (show IsS76 w0 _ g s0_0 t489 t490 from by repeat (first | (with_reducible first | exact HI0.out | apply IsS76.alloc | apply IsS76.drewN | apply IsS76.drew | apply IsS76.set_1 | apply IsS76.set_2 | refine IsS76.far ?_ NB0_435.out _ | refine IsS76.far ?_ NB0_480.out _) | exact HI0.out)) (by (with_reducible repeat (first | apply Kd.R_alloc | apply Kd.R_drewN | apply Kd.R_drew)); exact (Kd.R_mono (Kd.R_far (p := ⟨gb480, 9, none⟩) (Kd.R_far (p := ⟨gb480, 8, none⟩) (Kd.R_far (p := ⟨gb480, 7, none⟩) (Kd.R_far (p := ⟨gb480, 6, none⟩) (Kd.R_types HO488.out BK480.out (by decide)) (fun _ hk => hk.2) (.int .i64 t481)) (fun _ hk => hk.2) (.int .i64 t482)) (fun _ hk => hk.2) (.slice Ao40 t483.length co40)) (fun _ hk => hk.2) (.slice Ao41 t486.length co41)) (fun _ h_ => h_.1))) (by decide)) hk (fun _ h => h.2)) (fun _ h => h.1)); have HO493 := Aside0.mk (Kd.R_lower (Kd.R_new' (Kd.R_newM (M := fun k_ => (w.heap.size ≤ k_)) ho0 (keep_size (w := w) (g := g) (row := none) (by repeat (first | (with_reducible first | exact HK.out | apply KeepBut.set_ | apply keep_drewN | apply keep_drew | apply keep_alloc | refine keep_far ?_ GW435.out _ | refine keep_far ?_ GW480.out _) | exact HK.out))) (fun k_ h_ => h_)) (Kd.R_lt (by (with_reducible repeat (first | apply Kd.R_alloc | apply Kd.R_drewN | apply Kd.R_drew)); exact (Kd.R_mono (Kd.R_far (p := ⟨gb480, 9, none⟩) (Kd.R_far (p := ⟨gb480, 8, none⟩) (Kd.R_far (p := ⟨gb480, 7, none⟩) (Kd.R_far (p := ⟨gb480, 6, none⟩) (Kd.R_types HO467.out BK480.out (by decide)) (fun _ hk => hk.2) (.int .i64 t481)) (fun _ hk => hk.2) (.int .i64 t482)) (fun _ hk => hk.2) (.slice Ao40 t483.length co40)) (fun _ hk => hk.2) (.slice Ao41 t486.length co41)) (fun _ h_ => h_.1))))) (keep_size (w := w) (g := g) (row := none) (by repeat (first | (with_reducible first | exact HK.out | apply KeepBut.set_ | apply keep_drewN | apply keep_drew | apply keep_alloc | refine keep_far ?_ GW435.out _ | refine keep_far ?_ GW480.out _) | exact HK.out)))); replace HO467 := Aside0.mk (Kd.R_mono (Kd.R_told (Kd.R_oldK (IsS76.apart (show IsS76 w0 _ g s0_0 t489 t490 from by repeat (first | (with_reducible first | exact HI0.out | apply IsS76.alloc | apply IsS76.drewN | apply IsS76.drew | apply IsS76.set_1 | apply IsS76.set_2 | refine IsS76.far ?_ NB0_435.out _ | refine IsS76.far ?_ NB0_480.out _) | exact HI0.out)) (by (with_reducible repeat (first | apply Kd.R_alloc | apply Kd.R_drewN | apply Kd.R_drew)); exact (Kd.R_mono (Kd.R_far (p := ⟨gb480, 9, none⟩) (Kd.R_far (p := ⟨gb480, 8, none⟩) (Kd.R_far (p := ⟨gb480, 7, none⟩) (Kd.R_far (p := ⟨gb480, 6, none⟩) (Kd.R_types HO467.out BK480.out (by decide)) (fun _ hk => hk.2) (.int .i64 t481)) (fun _ hk => hk.2) (.int .i64 t482)) (fun _ hk => hk.2) (.slice Ao40 t483.length co40)) (fun _ hk => hk.2) (.slice Ao41 t486.length co41)) (fun _ h_ => h_.1))) (by decide)) hk) (Kd.R_base ho0)) (fun _ h_ => h_.1)); replace BK480 := Aside0.mk (KeepBut.blk hk (g' := gb480) (o := .cells #[.string t460, .int .i64 t461, .int .i64 t462, .int .i64 t463, .int .i64 t464, .slice Ao34 t465.length co34, .int .i64 t481, .int .i64 t482, .slice Ao40 t483.length co40, .slice Ao41 t486.length co41, .slice Ao37 t476.length co37] 29 (0, 0)) (by (with_reducible repeat (first | refine blk_drewN ?_ _ | refine blk_drew ?_ | refine blk_alloc ?_ _)); apply bq11_9_8_7_6_; (with_reducible repeat (first | refine blk_drewN ?_ _ | refine blk_drew ?_ | refine blk_alloc ?_ _)); exact BK480.out) NB480_0.out (by simp)); replace HK := Aside0.mk (KeepBut.trans (by repeat (first | (with_reducible first | exact HK.out | apply KeepBut.set_ | apply keep_drewN | apply keep_drew | apply keep_alloc | refine keep_far ?_ GW435.out _ | refine keep_far ?_ GW480.out _) | exact HK.out)) hk (.inl rfl)); replace HB := Aside0.mk (hb); replace HI0 := Aside0.mk (hi); (try clear hb); (try clear hb2); (try clear hk); (try clear hi); (try clear ho0)))
 have n0_ := Aside0.mk (Kd.R_drew HO438.out)
 have n1_ := Aside0.mk (Kd.R_drew HO444.out)
 have n2_ := Aside0.mk (Kd.R_drew HO450.out)
 have n3_ := Aside0.mk (Kd.R_drew HO467.out)
 have n4_ := Aside0.mk (Kd.R_drew HO472.out)
 have n5_ := Aside0.mk (Kd.R_drew HO475.out)
 have n6_ := Aside0.mk (Kd.N_drew HO478.out)
 have n7_ := Aside0.mk (Kd.R_drew HO485.out)
 have n8_ := Aside0.mk (Kd.R_drew HO488.out)
 have n9_ := Aside0.mk (Kd.R_drew HO493.out)
 have n10_ := Aside0.mk (blk_drew BK435.out)
 have n11_ := Aside0.mk (blk_drew BK480.out)
 have n12_ := Aside0.mk (IsS76.drew HI0.out)
 have n13_ := Aside0.mk (keep_drew HK.out)
 have n14_ := Aside0.mk (below_drew1 HB.out)
 clear HO438
 clear HO444
 clear HO450
 clear HO467
 clear HO472
 clear HO475
 clear HO478
 clear HO485
 clear HO488
 clear HO493
 clear BK435
 clear BK480
 clear HI0
 clear HK
 clear HB
 have HO438 := n0_
 have HO444 := n1_
 have HO450 := n2_
 have HO467 := n3_
 have HO472 := n4_
 have HO475 := n5_
 have HO478 := n6_
 have HO485 := n7_
 have HO488 := n8_
 have HO493 := n9_
 have BK435 := n10_
 have BK480 := n11_
 have HI0 := n12_
 have HK := n13_
 have HB := n14_
 clear n0_ n1_ n2_ n3_ n4_ n5_ n6_ n7_ n8_ n9_ n10_ n11_ n12_ n13_ n14_
 obtain ⟨Ao44, co44, eo44⟩ := Kd.R_slice HO493.out
 (first | subst eo44 | (injection eo44 with f1_ f2_ f3_; have f4_ := f1_.symm; have f5_ := f3_.symm; clear f1_ f2_ f3_; subst f4_; subst f5_))
 refine start_ (n := 6) (S := fun w' => w'.cell? ⟨gb480, 0, none⟩ = some (.string t460) ∧ w'.cell? ⟨gb480, 1, none⟩ = some (.int .i64 t461) ∧ w'.cell? ⟨gb480, 2, none⟩ = some (.int .i64 t462) ∧ w'.cell? ⟨gb480, 3, none⟩ = some (.int .i64 t463) ∧ w'.cell? ⟨gb480, 4, none⟩ = some (.int .i64 t464) ∧ w'.cell? ⟨gb480, 5, none⟩ = some (.slice Ao34 t465.length co34) ∧ w'.cell? ⟨gb480, 6, none⟩ = some (.int .i64 t481) ∧ w'.cell? ⟨gb480, 7, none⟩ = some (.int .i64 t482) ∧ w'.cell? ⟨gb480, 8, none⟩ = some (.slice Ao40 t483.length co40) ∧ w'.cell? ⟨gb480, 9, none⟩ = some (.slice Ao41 t486.length co41) ∧ w'.cell? ⟨gb480, 10, none⟩ = some (.slice Ao37 t476.length co37)) (ds := []) #[false, false, false, false, false, false] (by kernel_rfl) rfl rfl ⟨cy_ BK480 0, cy_ BK480 1, cy_ BK480 2, cy_ BK480 3, cy_ BK480 4, cy_ BK480 5, cy_ BK480 6, cy_ BK480 7, cy_ BK480 8, cy_ BK480 9, cy_ BK480 10⟩ (fun hHeld => ?_)
 generalize w42.drew = w43 at HO438 HO444 HO450 HO467 HO472 HO475 HO478 HO485 HO488 HO493 BK435 BK480 HI0 HK HB hHeld ⊢
 refine pure_ (i := 0) (N := some 33) (v := ?_) (a' := ?_) #[true, false, false, false, false, false] rfl rfl (by kernel_rfl) (fun _ _ _ h => h) (Or.inl ⟨by rfl, ?_⟩) ?_ ?_
 rotate_left
 ·intro w'
  go_simp
  with_reducible rfl
 rotate_left
 ·simp only [Act.put, q_]
  rfl
 refine pure_ (i := 3) (N := some 36) (v := ?_) (a' := ?_) #[true, false, false, true, false, false] rfl rfl (by kernel_rfl) (fun _ _ _ h => h) (Or.inl ⟨by rfl, ?_⟩) ?_ ?_
 rotate_left
 ·intro w'
  go_simp
  with_reducible rfl
 rotate_left
 ·simp only [Act.put, q_]
  rfl
 refine take_ (i := 4) (N := some 37) (v := ?_) (a' := ?_) #[true, false, false, true, true, false] rfl rfl (by kernel_rfl) (fun _ _ _ h => h) (Or.inl ⟨by rfl, ?_⟩) hHeld ?_ ?_
 rotate_left
 ·rintro w' ⟨s0, s1, s2, s3, s4, s5, s6, s7, s8, s9, s10⟩
  go_simp
  with_reducible rfl
 rotate_left
 ·simp only [Act.put, q_]
  rfl
 refine one_ (i := 1) (N := some 34) #[true, true, false, true, true, false] rfl rfl (by kernel_rfl) (by decide) (fun K hK => ?_)
 refine goes_ Tryd.func56 (by kernel_rfl) rfl #[.slice Ao44 t491.length co44] (by rfl) rfl rfl gl_ ?_
 with_reducible refine (spec_Stored.calls k _ _ t491 t496 _ ?side1 ?side2 A11.out).mono ?_
 (case side1 => exact ca_ ((Kd.R_reads' HO493.out).2.2))
 (case side2 => exact (Kd.R_reads' HO493.out).2.1)
 rintro e w45 ⟨rfl, hb⟩
 refine ⟨_, rfl, ?_⟩
 have n0_ := Aside0.mk (Kd.R_below (ra_ HO438) hb)
 have n1_ := Aside0.mk (Kd.R_below (ra_ HO444) hb)
 have n2_ := Aside0.mk (Kd.R_below (ra_ HO450) hb)
 have n3_ := Aside0.mk (Kd.R_below (ra_ HO467) hb)
 have n4_ := Aside0.mk (Kd.R_below (ra_ HO472) hb)
 have n5_ := Aside0.mk (Kd.R_below (ra_ HO475) hb)
 have n6_ := Aside0.mk (Kd.N_below (by (with_reducible repeat (first | apply Kd.N_alloc | apply Kd.N_drewN | apply Kd.N_drew)); exact HO478.out) hb)
 have n7_ := Aside0.mk (Kd.R_below (ra_ HO485) hb)
 have n8_ := Aside0.mk (Kd.R_below (ra_ HO488) hb)
 have n9_ := Aside0.mk (Kd.R_below (ra_ HO493) hb)
 have n10_ := Aside0.mk (IsS76.below (by repeat (first | (with_reducible first | exact HI0.out | apply IsS76.alloc | apply IsS76.drewN | apply IsS76.drew | apply IsS76.set_1 | apply IsS76.set_2 | refine IsS76.far ?_ NB0_435.out _ | refine IsS76.far ?_ NB0_480.out _) | exact HI0.out)) hb)
 have n11_ := Aside0.mk (blk_below (bk_ BK435) hb)
 have n12_ := Aside0.mk (blk_below (bk_ BK480) hb)
 have n13_ := Aside0.mk (KeepBut.trans (by repeat (first | (with_reducible first | exact HK.out | apply KeepBut.set_ | apply keep_drewN | apply keep_drew | apply keep_alloc | refine keep_far ?_ GW435.out _ | refine keep_far ?_ GW480.out _) | exact HK.out)) (KeepBut.of_below hb g none) (.inl rfl))
 have n14_ := Aside0.mk (below_step (by repeat (first | (with_reducible first | exact HB.out | apply below_alloc | apply pw_below_drewN | apply below_drew1 | refine below_set ?_ (IsS76.ge HI0.out) | refine below_set ?_ GE435.out | refine below_set ?_ GE480.out) | exact HB.out)) hb)
 clear HO438
 clear HO444
 clear HO450
 clear HO467
 clear HO472
 clear HO475
 clear HO478
 clear HO485
 clear HO488
 clear HO493
 clear HI0
 clear BK435
 clear BK480
 clear HK
 clear HB
 have HO438 := n0_
 have HO444 := n1_
 have HO450 := n2_
 have HO467 := n3_
 have HO472 := n4_
 have HO475 := n5_
 have HO478 := n6_
 have HO485 := n7_
 have HO488 := n8_
 have HO493 := n9_
 have HI0 := n10_
 have BK435 := n11_
 have BK480 := n12_
 have HK := n13_
 have HB := n14_
 clear n0_ n1_ n2_ n3_ n4_ n5_ n6_ n7_ n8_ n9_ n10_ n11_ n12_ n13_ n14_
 (try clear hb)
 (try clear hb2)
 (try clear hk)
 (try clear hi)
 refine hK.out _ _ ⟨cy_ BK480 0, cy_ BK480 1, cy_ BK480 2, cy_ BK480 3, cy_ BK480 4, cy_ BK480 5, cy_ BK480 6, cy_ BK480 7, cy_ BK480 8, cy_ BK480 9, cy_ BK480 10⟩ (fun hHeld => ?_)
 clear hK K
 refine norm_ (a' := ?_) ?_ ?_
 rotate_left
 ·show Act.put _ (some 34) _ = _
  simp only [Act.put, q_]
  rfl
 refine one_ (i := 2) (N := some 35) #[true, true, true, true, true, false] rfl rfl (by kernel_rfl) (by decide) (fun K hK => ?_)
 refine goes_ Tryd.func55 (by kernel_rfl) rfl #[.int .i64 t496, .int .i64 0] (by rfl) rfl rfl gl_ ?_
 with_reducible refine (spec_AddSat.calls t496 0 t497 _ A12.out).mono ?_
 rintro e w' ⟨rfl, ⟨nd, rfl⟩⟩
 refine ⟨_, rfl, ?_⟩
 refine hK.out _ _ ⟨cy_ BK480 0, cy_ BK480 1, cy_ BK480 2, cy_ BK480 3, cy_ BK480 4, cy_ BK480 5, cy_ BK480 6, cy_ BK480 7, cy_ BK480 8, cy_ BK480 9, cy_ BK480 10⟩ (fun hHeld => ?_)
 clear hK K
 refine norm_ (a' := ?_) ?_ ?_
 rotate_left
 ·show Act.put _ (some 35) _ = _
  simp only [Act.put, q_]
  rfl
 refine pure_ (i := 5) (N := some 38) (v := ?_) (a' := ?_) #[true, true, true, true, true, true] rfl rfl (by kernel_rfl) (fun _ _ _ h => h) (Or.inl ⟨by rfl, ?_⟩) ?_ ?_
 rotate_left
 ·intro w'
  go_simp
  with_reducible rfl
 rotate_left
 ·simp only [Act.put, q_]
  rfl
 refine done_ (by kernel_rfl) ?_
 go_upto_if 38 with (fail)
 go_cut [] (fun wc => ∃ (kq : Nat) (x481005_12 : List (S116)) (u481005 : Value), Aside0 (spec_l09Draw.j0 kq s0_0 t494 t495 t460 t461 t462 t463 t464 x481005_12 t481 t482 t483 t486 t476 = some (r1, r2, r3, r4, r5, r6, r7, r8, r9, r10, r11, r12, r13)) ∧ Aside0 (kq ≤ k) ∧ Aside0 (Kd.R k116 116 wc w.heap.size (fun k_ => (w.heap.size ≤ k_)) u481005 x481005_12) ∧ Aside0 (Kd.R (Kd.int .i64) 3 wc w.heap.size (fun k_ => (w.heap.size ≤ k_) ∧ some k_ ≠ ((.slice Ao41 t486.length co41) : Value).ownBlock) (.slice Ao40 t483.length co40) t483) ∧ Aside0 (Kd.R (Kd.int .i64) 3 wc w.heap.size (fun k_ => (w.heap.size ≤ k_) ∧ some k_ ≠ ((.slice Ao40 t483.length co40) : Value).ownBlock) (.slice Ao41 t486.length co41) t486) ∧ Aside0 (Kd.N k122 122 wc w.heap.size (fun k_ => (w.heap.size ≤ k_) ∧ some k_ ≠ (u481005 : Value).ownBlock ∧ some k_ ≠ ((.slice Ao40 t483.length co40) : Value).ownBlock ∧ some k_ ≠ ((.slice Ao41 t486.length co41) : Value).ownBlock ∧ k_ ≠ gb435 ∧ k_ ≠ gb480 ∧ k_ ≠ g) (.slice Ao37 t476.length co37) t476) ∧ Aside0 (wc.heap[gb435]? = some (.cells #[.string (⟨#[]⟩ : ByteArray), .int .i64 0, .int .i64 0, .int .i64 0, .int .i64 0, (.slice none 0 0), .int .i64 0, .int .i64 0, (.slice none 0 0), (.slice none 0 0), (.slice none 0 0)] 29 (0, 0))) ∧ Aside0 (wc.heap[gb480]? = some (.cells #[.string t460, .int .i64 t461, .int .i64 t462, .int .i64 t463, .int .i64 t464, u481005, .int .i64 t481, .int .i64 t482, (.slice Ao40 t483.length co40), (.slice Ao41 t486.length co41), (.slice Ao37 t476.length co37)] 29 (0, 0))) ∧ Aside0 (IsS76 w0 wc g s0_0 t494 t495) ∧ Aside0 (KeepBut w wc g none) ∧ Aside0 (Below w0.heap.size w0 wc))
 case first =>
  have H := HC13.out
  clear HC13
  by_cases c46 : t497 ≤ t461
  ·rw [if_pos c46] at H
   have c46b0 : decide (t497 ≤ t461) = true := decide_eq_true c46
   clear c46
   (first | rw [c46b0] | (simp only [i64_w, i32_w]; rw [c46b0]) | skip)
   have H' := Aside0.mk H
   clear H
   have hnb47 := NB480_435.out
   have hnc47 := NB435_480.out
   have hnb48 := NB480_0.out
   have hnc48 := NB0_480.out
   have hcz49_0 := cz_ BK480 0 (.string t460)
   have hcz49_1 := cz_ BK480 1 (.int .i64 t461)
   have hcz49_2 := cz_ BK480 2 (.int .i64 t462)
   have hcz49_3 := cz_ BK480 3 (.int .i64 t463)
   have hcz49_4 := cz_ BK480 4 (.int .i64 t464)
   have hcz49_5 := cz_ BK480 5 (.slice Ao34 t465.length co34)
   have hcz49_6 := cz_ BK480 6 (.int .i64 t481)
   have hcz49_7 := cz_ BK480 7 (.int .i64 t482)
   have hcz49_8 := cz_ BK480 8 (.slice Ao40 t483.length co40)
   have hcz49_9 := cz_ BK480 9 (.slice Ao41 t486.length co41)
   have hcz49_10 := cz_ BK480 10 (.slice Ao37 t476.length co37)
   have hfz49_0 := fz_ BK480 0
   have hfz49_1 := fz_ BK480 1
   have hfz49_2 := fz_ BK480 2
   have hfz49_3 := fz_ BK480 3
   have hfz49_4 := fz_ BK480 4
   have hfz49_5 := fz_ BK480 5
   have hfz49_6 := fz_ BK480 6
   have hfz49_7 := fz_ BK480 7
   have hfz49_8 := fz_ BK480 8
   have hfz49_9 := fz_ BK480 9
   have hfz49_10 := fz_ BK480 10
   go_wp2
   go_meet
   case rel => exact ⟨_, (t491), (.slice Ao44 t491.length co44), H', ⟨by first | omega | exact Nat.le_refl _⟩, ⟨by (with_reducible repeat (first | apply Kd.R_alloc | apply Kd.R_drewN | apply Kd.R_drew)); exact Kd.R_mono (Kd.R_far (p := ⟨gb480, 5, none⟩) (Kd.R_types HO493.out BK480.out (by decide)) (fun _ hk => hk.2) (.slice Ao44 t491.length co44)) (fun _ hk => hk.1.1.1)⟩, ⟨by (with_reducible repeat (first | apply Kd.R_alloc | apply Kd.R_drewN | apply Kd.R_drew)); exact Kd.R_mono (Kd.R_far (p := ⟨gb480, 5, none⟩) (Kd.R_types HO485.out BK480.out (by decide)) (fun _ hk => hk.2) (.slice Ao44 t491.length co44)) (fun _ hk => ⟨hk.1.1.1.1.1.1.1, hk.1.1.1.1.1.1.2⟩)⟩, ⟨by (with_reducible repeat (first | apply Kd.R_alloc | apply Kd.R_drewN | apply Kd.R_drew)); exact Kd.R_mono (Kd.R_far (p := ⟨gb480, 5, none⟩) (Kd.R_types HO488.out BK480.out (by decide)) (fun _ hk => hk.2) (.slice Ao44 t491.length co44)) (fun _ hk => ⟨hk.1.1.1.1.1.1.1, hk.1.1.1.1.1.1.2⟩)⟩, ⟨by (with_reducible repeat (first | apply Kd.N_alloc | apply Kd.N_drewN | apply Kd.N_drew)); exact Kd.N_mono (Kd.N_far (p := ⟨gb480, 5, none⟩) (Kd.N_mono HO478.out (fun k_ hk => (⟨hk, hk.1.1.1.2⟩ : _ ∧ k_ ≠ gb480))) (fun _ hk => hk.2) (.slice Ao44 t491.length co44)) (fun _ hk => ⟨hk.1.1.1.1.1.1, ⟨hk.1.2, ⟨hk.1.1.1.2, ⟨hk.1.1.2, ⟨hk.1.1.1.1.1.2.2.2.2.2.2.2.1, ⟨hk.1.1.1.1.2, hk.1.1.1.1.1.2.2.2.2.2.2.2.2⟩⟩⟩⟩⟩⟩)⟩, ⟨by (with_reducible repeat (first | refine blk_drewN ?_ _ | refine blk_drew ?_ | refine blk_alloc ?_ _)); refine blk_far ?_ NB435_480.out _; (with_reducible repeat (first | refine blk_drewN ?_ _ | refine blk_drew ?_ | refine blk_alloc ?_ _)); exact BK435.out⟩, ⟨by (with_reducible repeat (first | refine blk_drewN ?_ _ | refine blk_drew ?_ | refine blk_alloc ?_ _)); apply bq11_5_; (with_reducible repeat (first | refine blk_drewN ?_ _ | refine blk_drew ?_ | refine blk_alloc ?_ _)); exact BK480.out⟩, ⟨by repeat (first | (with_reducible first | exact HI0.out | apply IsS76.alloc | apply IsS76.drewN | apply IsS76.drew | apply IsS76.set_1 | apply IsS76.set_2 | refine IsS76.far ?_ NB0_435.out _ | refine IsS76.far ?_ NB0_480.out _) | exact HI0.out)⟩, ⟨by repeat (first | (with_reducible first | exact HK.out | apply KeepBut.set_ | apply keep_drewN | apply keep_drew | apply keep_alloc | refine keep_far ?_ GW435.out _ | refine keep_far ?_ GW480.out _) | exact HK.out)⟩, ⟨by repeat (first | (with_reducible first | exact HB.out | apply below_alloc | apply pw_below_drewN | apply below_drew1 | refine below_set ?_ (IsS76.ge HI0.out) | refine below_set ?_ GE435.out | refine below_set ?_ GE480.out) | exact HB.out)⟩⟩
  ·rw [if_neg c46] at H
   have c46b0 : decide (t497 ≤ t461) = false := decide_eq_false c46
   clear c46
   (first | rw [c46b0] | (simp only [i64_w, i32_w]; rw [c46b0]) | skip)
   have H' := Aside0.mk H
   clear H
   go_wp2
   go_meet
   case rel => exact ⟨_, (t465), (.slice Ao34 t465.length co34), H', ⟨by first | omega | exact Nat.le_refl _⟩, ⟨by (with_reducible repeat (first | apply Kd.R_alloc | apply Kd.R_drewN | apply Kd.R_drew)); exact Kd.R_mono HO467.out (fun _ hk => hk.1.1)⟩, ⟨by (with_reducible repeat (first | apply Kd.R_alloc | apply Kd.R_drewN | apply Kd.R_drew)); exact Kd.R_mono HO485.out (fun _ hk => ⟨hk.1.1.1.1.1.1, hk.1.1.1.1.1.2⟩)⟩, ⟨by (with_reducible repeat (first | apply Kd.R_alloc | apply Kd.R_drewN | apply Kd.R_drew)); exact Kd.R_mono HO488.out (fun _ hk => ⟨hk.1.1.1.1.1.1, hk.1.1.1.1.1.2⟩)⟩, ⟨by (with_reducible repeat (first | apply Kd.N_alloc | apply Kd.N_drewN | apply Kd.N_drew)); exact Kd.N_mono HO478.out (fun _ hk => ⟨hk.1.1.1.1.1, ⟨hk.1.1.1.1.2.1, ⟨hk.1.1.2, ⟨hk.1.2, ⟨hk.1.1.1.1.2.2.2.2.2.2.2.1, ⟨hk.1.1.1.2, hk.1.1.1.1.2.2.2.2.2.2.2.2⟩⟩⟩⟩⟩⟩)⟩, ⟨by (with_reducible repeat (first | refine blk_drewN ?_ _ | refine blk_drew ?_ | refine blk_alloc ?_ _)); exact BK435.out⟩, ⟨by (with_reducible repeat (first | refine blk_drewN ?_ _ | refine blk_drew ?_ | refine blk_alloc ?_ _)); exact BK480.out⟩, ⟨by repeat (first | (with_reducible first | exact HI0.out | apply IsS76.alloc | apply IsS76.drewN | apply IsS76.drew | apply IsS76.set_1 | apply IsS76.set_2 | refine IsS76.far ?_ NB0_435.out _ | refine IsS76.far ?_ NB0_480.out _) | exact HI0.out)⟩, ⟨by repeat (first | (with_reducible first | exact HK.out | apply KeepBut.set_ | apply keep_drewN | apply keep_drew | apply keep_alloc | refine keep_far ?_ GW435.out _ | refine keep_far ?_ GW480.out _) | exact HK.out)⟩, ⟨by repeat (first | (with_reducible first | exact HB.out | apply below_alloc | apply pw_below_drewN | apply below_drew1 | refine below_set ?_ (IsS76.ge HI0.out) | refine below_set ?_ GE435.out | refine below_set ?_ GE480.out) | exact HB.out)⟩⟩
 case rest =>
  clear HC13
  try clear c2
  try clear p2
  try clear c3
  try clear c4
  try clear c5
  try clear p6
  try clear c24
  try clear c31
  try clear c32
  try clear c46
  try clear c46b0
  try clear c47
  try clear c48
  try clear hcz33_0
  try clear hcz33_1
  try clear hcz33_10
  try clear hcz33_2
  try clear hcz33_3
  try clear hcz33_4
  try clear hcz33_5
  try clear hcz33_6
  try clear hcz33_7
  try clear hcz33_8
  try clear hcz33_9
  try clear hcz39_0
  try clear hcz39_1
  try clear hcz39_10
  try clear hcz39_2
  try clear hcz39_3
  try clear hcz39_4
  try clear hcz39_5
  try clear hcz39_6
  try clear hcz39_7
  try clear hcz39_8
  try clear hcz39_9
  try clear hcz49_0
  try clear hcz49_1
  try clear hcz49_10
  try clear hcz49_2
  try clear hcz49_3
  try clear hcz49_4
  try clear hcz49_5
  try clear hcz49_6
  try clear hcz49_7
  try clear hcz49_8
  try clear hcz49_9
  try clear hfz33_0
  try clear hfz33_1
  try clear hfz33_10
  try clear hfz33_2
  try clear hfz33_3
  try clear hfz33_4
  try clear hfz33_5
  try clear hfz33_6
  try clear hfz33_7
  try clear hfz33_8
  try clear hfz33_9
  try clear hfz39_0
  try clear hfz39_1
  try clear hfz39_10
  try clear hfz39_2
  try clear hfz39_3
  try clear hfz39_4
  try clear hfz39_5
  try clear hfz39_6
  try clear hfz39_7
  try clear hfz39_8
  try clear hfz39_9
  try clear hfz49_0
  try clear hfz49_1
  try clear hfz49_10
  try clear hfz49_2
  try clear hfz49_3
  try clear hfz49_4
  try clear hfz49_5
  try clear hfz49_6
  try clear hfz49_7
  try clear hfz49_8
  try clear hfz49_9
  obtain ⟨kq, x481005_12, u481005, HA, HJ12, HO_481005, HO_481008, HO_481009, HO_481010, BK435, BK480, HI0, HK, HB⟩ := hcut
  cases kq with
  | zero => exact absurd HA.out (by simp [spec_l09Draw.j0])
  | succ kj12 =>
   have H := HA.out
   clear HA
   simp only [spec_l09Draw.j0] at H
   have HC50 := Aside0.mk H
   clear H
   go_upto_region 6 with (fail)
   go_cut [50] (fun v50 wc => ∃ (kq : Nat) (x50_49 : Bool) (x1001_49 : Int) (x1002_49 : Int), v50 = .bool x50_49 ∧ Aside0 (spec_l09Draw.j1 kq x50_49 s0_0 x1001_49 x1002_49 t460 t461 t462 t463 t464 x481005_12 t481 t482 t483 t486 t476 = some (r1, r2, r3, r4, r5, r6, r7, r8, r9, r10, r11, r12, r13)) ∧ Aside0 (kq ≤ kj12) ∧ Aside0 (Kd.R k116 116 wc w.heap.size (fun k_ => (w.heap.size ≤ k_)) u481005 x481005_12) ∧ Aside0 (Kd.R (Kd.int .i64) 3 wc w.heap.size (fun k_ => (w.heap.size ≤ k_) ∧ some k_ ≠ ((.slice Ao41 t486.length co41) : Value).ownBlock) (.slice Ao40 t483.length co40) t483) ∧ Aside0 (Kd.R (Kd.int .i64) 3 wc w.heap.size (fun k_ => (w.heap.size ≤ k_) ∧ some k_ ≠ ((.slice Ao40 t483.length co40) : Value).ownBlock) (.slice Ao41 t486.length co41) t486) ∧ Aside0 (Kd.N k122 122 wc w.heap.size (fun k_ => (w.heap.size ≤ k_) ∧ some k_ ≠ (u481005 : Value).ownBlock ∧ some k_ ≠ ((.slice Ao40 t483.length co40) : Value).ownBlock ∧ some k_ ≠ ((.slice Ao41 t486.length co41) : Value).ownBlock ∧ k_ ≠ gb435 ∧ k_ ≠ gb480 ∧ k_ ≠ g) (.slice Ao37 t476.length co37) t476) ∧ Aside0 (wc.heap[gb435]? = some (.cells #[.string (⟨#[]⟩ : ByteArray), .int .i64 0, .int .i64 0, .int .i64 0, .int .i64 0, (.slice none 0 0), .int .i64 0, .int .i64 0, (.slice none 0 0), (.slice none 0 0), (.slice none 0 0)] 29 (0, 0))) ∧ Aside0 (wc.heap[gb480]? = some (.cells #[.string t460, .int .i64 t461, .int .i64 t462, .int .i64 t463, .int .i64 t464, u481005, .int .i64 t481, .int .i64 t482, (.slice Ao40 t483.length co40), (.slice Ao41 t486.length co41), (.slice Ao37 t476.length co37)] 29 (0, 0))) ∧ Aside0 (IsS76 w0 wc g s0_0 x1001_49 x1002_49) ∧ Aside0 (KeepBut w wc g none) ∧ Aside0 (Below w0.heap.size w0 wc))
   case first =>
    have H := HC50.out
    clear HC50
    obtain ⟨t498, A51, H⟩ := ob_ H
    by_cases c52 : t461 > t498
    ·rw [if_pos c52] at H
     have c52b0 : decide (t498 < t461) = true := decide_eq_true c52
     clear c52
     (first | rw [c52b0] | (simp only [i64_w, i32_w]; rw [c52b0]) | skip)
     obtain ⟨⟨t499, t500, t501⟩, A53, H⟩ := ob_ H
     (try dsimp only at H)
     have H' := Aside0.mk H
     clear H
     try go_wp2
     have n0_ := Aside0.mk (Kd.R_drew HO_481005.out)
     have n1_ := Aside0.mk (Kd.R_drew HO_481008.out)
     have n2_ := Aside0.mk (Kd.R_drew HO_481009.out)
     have n3_ := Aside0.mk (Kd.N_drew HO_481010.out)
     have n4_ := Aside0.mk (blk_drew BK435.out)
     have n5_ := Aside0.mk (blk_drew BK480.out)
     have n6_ := Aside0.mk (IsS76.drew HI0.out)
     have n7_ := Aside0.mk (keep_drew HK.out)
     have n8_ := Aside0.mk (below_drew1 HB.out)
     clear HO_481005
     clear HO_481008
     clear HO_481009
     clear HO_481010
     clear BK435
     clear BK480
     clear HI0
     clear HK
     clear HB
     have HO_481005 := n0_
     have HO_481008 := n1_
     have HO_481009 := n2_
     have HO_481010 := n3_
     have BK435 := n4_
     have BK480 := n5_
     have HI0 := n6_
     have HK := n7_
     have HB := n8_
     clear n0_ n1_ n2_ n3_ n4_ n5_ n6_ n7_ n8_
     obtain ⟨Ao55, co55, eo55⟩ := Kd.R_slice HO_481005.out
     (first | subst eo55 | (injection eo55 with f1_ f2_ f3_; have f4_ := f1_.symm; have f5_ := f3_.symm; clear f1_ f2_ f3_; subst f4_; subst f5_))
     refine start_ (n := 10) (S := fun w' => w'.cell? ⟨gb480, 0, none⟩ = some (.string t460) ∧ w'.cell? ⟨gb480, 1, none⟩ = some (.int .i64 t461) ∧ w'.cell? ⟨gb480, 2, none⟩ = some (.int .i64 t462) ∧ w'.cell? ⟨gb480, 3, none⟩ = some (.int .i64 t463) ∧ w'.cell? ⟨gb480, 4, none⟩ = some (.int .i64 t464) ∧ w'.cell? ⟨gb480, 5, none⟩ = some (.slice Ao55 x481005_12.length co55) ∧ w'.cell? ⟨gb480, 6, none⟩ = some (.int .i64 t481) ∧ w'.cell? ⟨gb480, 7, none⟩ = some (.int .i64 t482) ∧ w'.cell? ⟨gb480, 8, none⟩ = some (.slice Ao40 t483.length co40) ∧ w'.cell? ⟨gb480, 9, none⟩ = some (.slice Ao41 t486.length co41) ∧ w'.cell? ⟨gb480, 10, none⟩ = some (.slice Ao37 t476.length co37)) (ds := []) tb10_0_13 (by kernel_rfl) rfl rfl ⟨cy_ BK480 0, cy_ BK480 1, cy_ BK480 2, cy_ BK480 3, cy_ BK480 4, cy_ BK480 5, cy_ BK480 6, cy_ BK480 7, cy_ BK480 8, cy_ BK480 9, cy_ BK480 10⟩ (fun hHeld => ?_); refine with_tabW spec_l09Draw.tab6 spec_l09Draw.bits6 (fun HT_ HW_ => ?_)
     generalize wc.drew = w54 at HO_481005 HO_481008 HO_481009 HO_481010 BK435 BK480 HI0 HK HB hHeld ⊢
     refine pl_ HT_ 0 41 tb10_1_13 ?_
     refine pl_ HT_ 2 43 tb10_5_13 ?_
     refine pt_ HT_ HW_ hHeld 1 42 tb10_7_13 ?_
     refine pt_ HT_ HW_ hHeld 3 44 tb10_f_13 ?_
     refine one_ (i := 4) (N := some 45) tb10_1f_13 rfl rfl (one_of HT_.out (by kernel_rfl)) (by decide) (fun K hK => ?_)
     refine goes_ Tryd.func56 (by kernel_rfl) rfl #[.slice Ao55 x481005_12.length co55] (by rfl) rfl rfl gl_ ?_
     with_reducible refine (spec_Stored.calls kj12 _ _ x481005_12 t498 _ ?side1 ?side2 A51.out).mono ?_
     (case side1 => exact ca_ ((Kd.R_reads' HO_481005.out).2.2))
     (case side2 => exact (Kd.R_reads' HO_481005.out).2.1)
     rintro e w56 ⟨rfl, hb⟩
     refine ⟨_, rfl, ?_⟩
     have n0_ := Aside0.mk (Kd.R_below (ra_ HO_481005) hb)
     have n1_ := Aside0.mk (Kd.R_below (ra_ HO_481008) hb)
     have n2_ := Aside0.mk (Kd.R_below (ra_ HO_481009) hb)
     have n3_ := Aside0.mk (Kd.N_below (by (with_reducible repeat (first | apply Kd.N_alloc | apply Kd.N_drewN | apply Kd.N_drew)); exact HO_481010.out) hb)
     have n4_ := Aside0.mk (blk_below (bk_ BK435) hb)
     have n5_ := Aside0.mk (blk_below (bk_ BK480) hb)
     have n6_ := Aside0.mk (IsS76.below (by repeat (first | (with_reducible first | exact HI0.out | apply IsS76.alloc | apply IsS76.drewN | apply IsS76.drew | apply IsS76.set_1 | apply IsS76.set_2 | refine IsS76.far ?_ NB0_435.out _ | refine IsS76.far ?_ NB0_480.out _) | exact HI0.out)) hb)
     have n7_ := Aside0.mk (KeepBut.trans (by repeat (first | (with_reducible first | exact HK.out | apply KeepBut.set_ | apply keep_drewN | apply keep_drew | apply keep_alloc | refine keep_far ?_ GW435.out _ | refine keep_far ?_ GW480.out _) | exact HK.out)) (KeepBut.of_below hb g none) (.inl rfl))
     have n8_ := Aside0.mk (below_step (by repeat (first | (with_reducible first | exact HB.out | apply below_alloc | apply pw_below_drewN | apply below_drew1 | refine below_set ?_ (IsS76.ge HI0.out) | refine below_set ?_ GE435.out | refine below_set ?_ GE480.out) | exact HB.out)) hb)
     clear HO_481005
     clear HO_481008
     clear HO_481009
     clear HO_481010
     clear BK435
     clear BK480
     clear HI0
     clear HK
     clear HB
     have HO_481005 := n0_
     have HO_481008 := n1_
     have HO_481009 := n2_
     have HO_481010 := n3_
     have BK435 := n4_
     have BK480 := n5_
     have HI0 := n6_
     have HK := n7_
     have HB := n8_
     clear n0_ n1_ n2_ n3_ n4_ n5_ n6_ n7_ n8_
     (try clear hb)
     (try clear hb2)
     (try clear hk)
     (try clear hi)
     refine hK.out _ _ ⟨cy_ BK480 0, cy_ BK480 1, cy_ BK480 2, cy_ BK480 3, cy_ BK480 4, cy_ BK480 5, cy_ BK480 6, cy_ BK480 7, cy_ BK480 8, cy_ BK480 9, cy_ BK480 10⟩ (fun hHeld => ?_)
     clear hK K
     refine norm_ (a' := ?_) ?_ ?_
     rotate_left
     ·show Act.put _ (some 45) _ = _
      simp only [Act.put, q_]
      rfl
     refine pl_ HT_ 5 46 tb10_3f_13 ?_
     refine pl_ HT_ 6 47 tb10_7f_13 ?_
     refine pl_ HT_ 7 48 tb10_ff_13 ?_
     refine one_ (i := 8) (N := some 49) tb10_1ff_13 rfl rfl (one_of HT_.out (by kernel_rfl)) (by decide) (fun K hK => ?_)
     refine goes_ Tryd.func57 (by kernel_rfl) rfl #[.pointer (some ⟨g, 0, none⟩), .int .i64 2] (by rfl) rfl rfl gl_ ?_
     with_reducible refine (spec_l01Once.calls g s0_0 t494 t495 2 t499 t500 t501 w0 _ ?side1 ?side2 A53.out).mono ?_
     (case side1 => repeat (first | (with_reducible first | exact HI0.out | apply IsS76.alloc | apply IsS76.drewN | apply IsS76.drew | apply IsS76.set_1 | apply IsS76.set_2 | refine IsS76.far ?_ NB0_435.out _ | refine IsS76.far ?_ NB0_480.out _) | exact HI0.out))
     (case side2 => repeat (first | (with_reducible first | exact HB.out | apply below_alloc | apply pw_below_drewN | apply below_drew1 | refine below_set ?_ (IsS76.ge HI0.out) | refine below_set ?_ GE435.out | refine below_set ?_ GE480.out) | exact HB.out))
     rintro e w57 ⟨rfl, hi, hb, hk⟩
     refine ⟨_, rfl, ?_⟩
     have n0_ := Aside0.mk (Kd.R_mono (Kd.R_keep (IsS76.apart (show IsS76 w0 _ g s0_0 t494 t495 from by repeat (first | (with_reducible first | exact HI0.out | apply IsS76.alloc | apply IsS76.drewN | apply IsS76.drew | apply IsS76.set_1 | apply IsS76.set_2 | refine IsS76.far ?_ NB0_435.out _ | refine IsS76.far ?_ NB0_480.out _) | exact HI0.out)) (ra_ HO_481005) (by decide)) hk (fun _ h => h.2)) (fun _ h => h.1))
     have n1_ := Aside0.mk (Kd.R_mono (Kd.R_keep (IsS76.apart (show IsS76 w0 _ g s0_0 t494 t495 from by repeat (first | (with_reducible first | exact HI0.out | apply IsS76.alloc | apply IsS76.drewN | apply IsS76.drew | apply IsS76.set_1 | apply IsS76.set_2 | refine IsS76.far ?_ NB0_435.out _ | refine IsS76.far ?_ NB0_480.out _) | exact HI0.out)) (ra_ HO_481008) (by decide)) hk (fun _ h => h.2)) (fun _ h => h.1))
     have n2_ := Aside0.mk (Kd.R_mono (Kd.R_keep (IsS76.apart (show IsS76 w0 _ g s0_0 t494 t495 from by repeat (first | (with_reducible first | exact HI0.out | apply IsS76.alloc | apply IsS76.drewN | apply IsS76.drew | apply IsS76.set_1 | apply IsS76.set_2 | refine IsS76.far ?_ NB0_435.out _ | refine IsS76.far ?_ NB0_480.out _) | exact HI0.out)) (ra_ HO_481009) (by decide)) hk (fun _ h => h.2)) (fun _ h => h.1))
     have n3_ := Aside0.mk (Kd.N_mono (Kd.N_keep (Kd.N_mono (ok := fun k_ => (((w.heap.size ≤ k_)) ∧ (some k_ ≠ (.slice Ao55 x481005_12.length co55 : Value).ownBlock ∧ (some k_ ≠ (.slice Ao40 t483.length co40 : Value).ownBlock ∧ (some k_ ≠ (.slice Ao41 t486.length co41 : Value).ownBlock ∧ (k_ ≠ gb435 ∧ (k_ ≠ gb480 ∧ k_ ≠ g))))))) (by (with_reducible repeat (first | apply Kd.N_alloc | apply Kd.N_drewN | apply Kd.N_drew)); exact HO_481010.out) (fun k_ hk_ => (⟨hk_, hk_.2.2.2.2.2.2⟩ : _ ∧ k_ ≠ g))) hk (fun _ h => h.2)) (fun _ h => h.1))
     have n4_ := Aside0.mk (KeepBut.blk hk (g' := gb435) (o := .cells #[.string (⟨#[]⟩ : ByteArray), .int .i64 0, .int .i64 0, .int .i64 0, .int .i64 0, .slice none 0 0, .int .i64 0, .int .i64 0, .slice none 0 0, .slice none 0 0, .slice none 0 0] 29 (0, 0)) (by (with_reducible repeat (first | refine blk_drewN ?_ _ | refine blk_drew ?_ | refine blk_alloc ?_ _)); exact BK435.out) NB435_0.out (by simp))
     have n5_ := Aside0.mk (KeepBut.blk hk (g' := gb480) (o := .cells #[.string t460, .int .i64 t461, .int .i64 t462, .int .i64 t463, .int .i64 t464, .slice Ao55 x481005_12.length co55, .int .i64 t481, .int .i64 t482, .slice Ao40 t483.length co40, .slice Ao41 t486.length co41, .slice Ao37 t476.length co37] 29 (0, 0)) (by (with_reducible repeat (first | refine blk_drewN ?_ _ | refine blk_drew ?_ | refine blk_alloc ?_ _)); exact BK480.out) NB480_0.out (by simp))
     have n6_ := Aside0.mk (KeepBut.trans (by repeat (first | (with_reducible first | exact HK.out | apply KeepBut.set_ | apply keep_drewN | apply keep_drew | apply keep_alloc | refine keep_far ?_ GW435.out _ | refine keep_far ?_ GW480.out _) | exact HK.out)) hk (.inl rfl))
     have n7_ := Aside0.mk (hb)
     have n8_ := Aside0.mk (hi)
     clear HO_481005
     clear HO_481008
     clear HO_481009
     clear HO_481010
     clear BK435
     clear BK480
     clear HK
     clear HB
     clear HI0
     have HO_481005 := n0_
     have HO_481008 := n1_
     have HO_481009 := n2_
     have HO_481010 := n3_
     have BK435 := n4_
     have BK480 := n5_
     have HK := n6_
     have HB := n7_
     have HI0 := n8_
     clear n0_ n1_ n2_ n3_ n4_ n5_ n6_ n7_ n8_
     (try clear hb)
     (try clear hb2)
     (try clear hk)
     (try clear hi)
     refine hK.out _ _ ⟨cy_ BK480 0, cy_ BK480 1, cy_ BK480 2, cy_ BK480 3, cy_ BK480 4, cy_ BK480 5, cy_ BK480 6, cy_ BK480 7, cy_ BK480 8, cy_ BK480 9, cy_ BK480 10⟩ (fun hHeld => ?_)
     clear hK K
     refine norm_ (a' := ?_) ?_ ?_
     rotate_left
     ·show Act.put _ (some 49) _ = _
      simp only [Act.put, q_]
      rfl
     refine pl_ HT_ 9 50 tb10_3ff_13 ?_
     refine done_ (done_of HT_.out (by kernel_rfl)) ?_
     try go_wp2
     go_meet
     case rel => exact ⟨_, (t499), (t500), (t501), sp_, H', ⟨by have := HJ12.out; first | omega | exact Nat.le_refl _⟩, ⟨ra_ HO_481005⟩, ⟨ra_ HO_481008⟩, ⟨ra_ HO_481009⟩, ⟨by (with_reducible repeat (first | apply Kd.N_alloc | apply Kd.N_drewN | apply Kd.N_drew)); exact HO_481010.out⟩, ⟨by (with_reducible repeat (first | refine blk_drewN ?_ _ | refine blk_drew ?_ | refine blk_alloc ?_ _)); exact BK435.out⟩, ⟨by (with_reducible repeat (first | refine blk_drewN ?_ _ | refine blk_drew ?_ | refine blk_alloc ?_ _)); exact BK480.out⟩, ⟨by repeat (first | (with_reducible first | exact HI0.out | apply IsS76.alloc | apply IsS76.drewN | apply IsS76.drew | apply IsS76.set_1 | apply IsS76.set_2 | refine IsS76.far ?_ NB0_435.out _ | refine IsS76.far ?_ NB0_480.out _) | exact HI0.out)⟩, ⟨by repeat (first | (with_reducible first | exact HK.out | apply KeepBut.set_ | apply keep_drewN | apply keep_drew | apply keep_alloc | refine keep_far ?_ GW435.out _ | refine keep_far ?_ GW480.out _) | exact HK.out)⟩, ⟨by repeat (first | (with_reducible first | exact HB.out | apply below_alloc | apply pw_below_drewN | apply below_drew1 | refine below_set ?_ (IsS76.ge HI0.out) | refine below_set ?_ GE435.out | refine below_set ?_ GE480.out) | exact HB.out)⟩⟩
    ·rw [if_neg c52] at H
     have c52b0 : decide (t498 < t461) = false := decide_eq_false c52
     clear c52
     (first | rw [c52b0] | (simp only [i64_w, i32_w]; rw [c52b0]) | skip)
     have H' := Aside0.mk H
     clear H
     try go_wp2
     have n0_ := Aside0.mk (Kd.R_drew HO_481005.out)
     have n1_ := Aside0.mk (Kd.R_drew HO_481008.out)
     have n2_ := Aside0.mk (Kd.R_drew HO_481009.out)
     have n3_ := Aside0.mk (Kd.N_drew HO_481010.out)
     have n4_ := Aside0.mk (blk_drew BK435.out)
     have n5_ := Aside0.mk (blk_drew BK480.out)
     have n6_ := Aside0.mk (IsS76.drew HI0.out)
     have n7_ := Aside0.mk (keep_drew HK.out)
     have n8_ := Aside0.mk (below_drew1 HB.out)
     clear HO_481005
     clear HO_481008
     clear HO_481009
     clear HO_481010
     clear BK435
     clear BK480
     clear HI0
     clear HK
     clear HB
     have HO_481005 := n0_
     have HO_481008 := n1_
     have HO_481009 := n2_
     have HO_481010 := n3_
     have BK435 := n4_
     have BK480 := n5_
     have HI0 := n6_
     have HK := n7_
     have HB := n8_
     clear n0_ n1_ n2_ n3_ n4_ n5_ n6_ n7_ n8_
     obtain ⟨Ao59, co59, eo59⟩ := Kd.R_slice HO_481005.out
     (first | subst eo59 | (injection eo59 with f1_ f2_ f3_; have f4_ := f1_.symm; have f5_ := f3_.symm; clear f1_ f2_ f3_; subst f4_; subst f5_))
     refine start_ (n := 10) (S := fun w' => w'.cell? ⟨gb480, 0, none⟩ = some (.string t460) ∧ w'.cell? ⟨gb480, 1, none⟩ = some (.int .i64 t461) ∧ w'.cell? ⟨gb480, 2, none⟩ = some (.int .i64 t462) ∧ w'.cell? ⟨gb480, 3, none⟩ = some (.int .i64 t463) ∧ w'.cell? ⟨gb480, 4, none⟩ = some (.int .i64 t464) ∧ w'.cell? ⟨gb480, 5, none⟩ = some (.slice Ao59 x481005_12.length co59) ∧ w'.cell? ⟨gb480, 6, none⟩ = some (.int .i64 t481) ∧ w'.cell? ⟨gb480, 7, none⟩ = some (.int .i64 t482) ∧ w'.cell? ⟨gb480, 8, none⟩ = some (.slice Ao40 t483.length co40) ∧ w'.cell? ⟨gb480, 9, none⟩ = some (.slice Ao41 t486.length co41) ∧ w'.cell? ⟨gb480, 10, none⟩ = some (.slice Ao37 t476.length co37)) (ds := []) tb10_0_13 (by kernel_rfl) rfl rfl ⟨cy_ BK480 0, cy_ BK480 1, cy_ BK480 2, cy_ BK480 3, cy_ BK480 4, cy_ BK480 5, cy_ BK480 6, cy_ BK480 7, cy_ BK480 8, cy_ BK480 9, cy_ BK480 10⟩ (fun hHeld => ?_); refine with_tabW spec_l09Draw.tab6 spec_l09Draw.bits6 (fun HT_ HW_ => ?_)
     generalize wc.drew = w58 at HO_481005 HO_481008 HO_481009 HO_481010 BK435 BK480 HI0 HK HB hHeld ⊢
     refine pl_ HT_ 0 41 tb10_1_13 ?_
     refine pl_ HT_ 2 43 tb10_5_13 ?_
     refine pt_ HT_ HW_ hHeld 1 42 tb10_7_13 ?_
     refine pt_ HT_ HW_ hHeld 3 44 tb10_f_13 ?_
     refine one_ (i := 4) (N := some 45) tb10_1f_13 rfl rfl (one_of HT_.out (by kernel_rfl)) (by decide) (fun K hK => ?_)
     refine goes_ Tryd.func56 (by kernel_rfl) rfl #[.slice Ao59 x481005_12.length co59] (by rfl) rfl rfl gl_ ?_
     with_reducible refine (spec_Stored.calls kj12 _ _ x481005_12 t498 _ ?side1 ?side2 A51.out).mono ?_
     (case side1 => exact ca_ ((Kd.R_reads' HO_481005.out).2.2))
     (case side2 => exact (Kd.R_reads' HO_481005.out).2.1)
     rintro e w60 ⟨rfl, hb⟩
     refine ⟨_, rfl, ?_⟩
     have n0_ := Aside0.mk (Kd.R_below (ra_ HO_481005) hb)
     have n1_ := Aside0.mk (Kd.R_below (ra_ HO_481008) hb)
     have n2_ := Aside0.mk (Kd.R_below (ra_ HO_481009) hb)
     have n3_ := Aside0.mk (Kd.N_below (by (with_reducible repeat (first | apply Kd.N_alloc | apply Kd.N_drewN | apply Kd.N_drew)); exact HO_481010.out) hb)
     have n4_ := Aside0.mk (blk_below (bk_ BK435) hb)
     have n5_ := Aside0.mk (blk_below (bk_ BK480) hb)
     have n6_ := Aside0.mk (IsS76.below (by repeat (first | (with_reducible first | exact HI0.out | apply IsS76.alloc | apply IsS76.drewN | apply IsS76.drew | apply IsS76.set_1 | apply IsS76.set_2 | refine IsS76.far ?_ NB0_435.out _ | refine IsS76.far ?_ NB0_480.out _) | exact HI0.out)) hb)
     have n7_ := Aside0.mk (KeepBut.trans (by repeat (first | (with_reducible first | exact HK.out | apply KeepBut.set_ | apply keep_drewN | apply keep_drew | apply keep_alloc | refine keep_far ?_ GW435.out _ | refine keep_far ?_ GW480.out _) | exact HK.out)) (KeepBut.of_below hb g none) (.inl rfl))
     have n8_ := Aside0.mk (below_step (by repeat (first | (with_reducible first | exact HB.out | apply below_alloc | apply pw_below_drewN | apply below_drew1 | refine below_set ?_ (IsS76.ge HI0.out) | refine below_set ?_ GE435.out | refine below_set ?_ GE480.out) | exact HB.out)) hb)
     clear HO_481005
     clear HO_481008
     clear HO_481009
     clear HO_481010
     clear BK435
     clear BK480
     clear HI0
     clear HK
     clear HB
     have HO_481005 := n0_
     have HO_481008 := n1_
     have HO_481009 := n2_
     have HO_481010 := n3_
     have BK435 := n4_
     have BK480 := n5_
     have HI0 := n6_
     have HK := n7_
     have HB := n8_
     clear n0_ n1_ n2_ n3_ n4_ n5_ n6_ n7_ n8_
     (try clear hb)
     (try clear hb2)
     (try clear hk)
     (try clear hi)
     refine hK.out _ _ ⟨cy_ BK480 0, cy_ BK480 1, cy_ BK480 2, cy_ BK480 3, cy_ BK480 4, cy_ BK480 5, cy_ BK480 6, cy_ BK480 7, cy_ BK480 8, cy_ BK480 9, cy_ BK480 10⟩ (fun hHeld => ?_)
     clear hK K
     refine norm_ (a' := ?_) ?_ ?_
     rotate_left
     ·show Act.put _ (some 45) _ = _
      simp only [Act.put, q_]
      rfl
     refine pl_ HT_ 5 46 tb10_3f_13 ?_
     refine pl_ HT_ 6 47 tb10_7f_13 ?_
     refine pr_ HT_ 7 48 tb10_ff_13 ?_
     refine pr_ HT_ 8 49 tb10_1ff_13 ?_
     refine pl_ HT_ 9 50 tb10_3ff_13 ?_
     refine done_ (done_of HT_.out (by kernel_rfl)) ?_
     try go_wp2
     go_meet
     case rel => exact ⟨_, (false), (t494), (t495), sp_, H', ⟨by have := HJ12.out; first | omega | exact Nat.le_refl _⟩, ⟨ra_ HO_481005⟩, ⟨ra_ HO_481008⟩, ⟨ra_ HO_481009⟩, ⟨by (with_reducible repeat (first | apply Kd.N_alloc | apply Kd.N_drewN | apply Kd.N_drew)); exact HO_481010.out⟩, ⟨by (with_reducible repeat (first | refine blk_drewN ?_ _ | refine blk_drew ?_ | refine blk_alloc ?_ _)); exact BK435.out⟩, ⟨by (with_reducible repeat (first | refine blk_drewN ?_ _ | refine blk_drew ?_ | refine blk_alloc ?_ _)); exact BK480.out⟩, ⟨by repeat (first | (with_reducible first | exact HI0.out | apply IsS76.alloc | apply IsS76.drewN | apply IsS76.drew | apply IsS76.set_1 | apply IsS76.set_2 | refine IsS76.far ?_ NB0_435.out _ | refine IsS76.far ?_ NB0_480.out _) | exact HI0.out)⟩, ⟨by repeat (first | (with_reducible first | exact HK.out | apply KeepBut.set_ | apply keep_drewN | apply keep_drew | apply keep_alloc | refine keep_far ?_ GW435.out _ | refine keep_far ?_ GW480.out _) | exact HK.out)⟩, ⟨by repeat (first | (with_reducible first | exact HB.out | apply below_alloc | apply pw_below_drewN | apply below_drew1 | refine below_set ?_ (IsS76.ge HI0.out) | refine below_set ?_ GE435.out | refine below_set ?_ GE480.out) | exact HB.out)⟩⟩
   case rest =>
    clear HC50
    try clear c2
    try clear p2
    try clear c3
    try clear c4
    try clear c5
    try clear p6
    try clear c24
    try clear c31
    try clear c32
    try clear c46
    try clear c46b0
    try clear c47
    try clear c48
    try clear c52
    try clear c52b0
    try clear c55
    try clear c56
    try clear c57
    try clear hcz33_0
    try clear hcz33_1
    try clear hcz33_10
    try clear hcz33_2
    try clear hcz33_3
    try clear hcz33_4
    try clear hcz33_5
    try clear hcz33_6
    try clear hcz33_7
    try clear hcz33_8
    try clear hcz33_9
    try clear hcz39_0
    try clear hcz39_1
    try clear hcz39_10
    try clear hcz39_2
    try clear hcz39_3
    try clear hcz39_4
    try clear hcz39_5
    try clear hcz39_6
    try clear hcz39_7
    try clear hcz39_8
    try clear hcz39_9
    try clear hcz49_0
    try clear hcz49_1
    try clear hcz49_10
    try clear hcz49_2
    try clear hcz49_3
    try clear hcz49_4
    try clear hcz49_5
    try clear hcz49_6
    try clear hcz49_7
    try clear hcz49_8
    try clear hcz49_9
    try clear hfz33_0
    try clear hfz33_1
    try clear hfz33_10
    try clear hfz33_2
    try clear hfz33_3
    try clear hfz33_4
    try clear hfz33_5
    try clear hfz33_6
    try clear hfz33_7
    try clear hfz33_8
    try clear hfz33_9
    try clear hfz39_0
    try clear hfz39_1
    try clear hfz39_10
    try clear hfz39_2
    try clear hfz39_3
    try clear hfz39_4
    try clear hfz39_5
    try clear hfz39_6
    try clear hfz39_7
    try clear hfz39_8
    try clear hfz39_9
    try clear hfz49_0
    try clear hfz49_1
    try clear hfz49_10
    try clear hfz49_2
    try clear hfz49_3
    try clear hfz49_4
    try clear hfz49_5
    try clear hfz49_6
    try clear hfz49_7
    try clear hfz49_8
    try clear hfz49_9
    try clear p2
    try clear p6
    obtain ⟨kq, x50_49, x1001_49, x1002_49, rfl, HA, HJ49, HO_481005, HO_481008, HO_481009, HO_481010, BK435, BK480, HI0, HK, HB⟩ := hcut
    cases kq with
    | zero => exact absurd HA.out (by simp [spec_l09Draw.j1])
    | succ kj49 =>
     have H := HA.out
     clear HA
     simp only [spec_l09Draw.j1] at H
     have HC61 := Aside0.mk H
     clear H
     go_upto_if 50 with (fail)
     go_cut [] (fun wc => ∃ (kq : Nat) (x1001_60 : Int) (x1002_60 : Int) (x481002_60 : Int), Aside0 (spec_l09Draw.j2 kq s0_0 x1001_60 x1002_60 t460 t461 x481002_60 t463 t464 x481005_12 t481 t482 t483 t486 t476 = some (r1, r2, r3, r4, r5, r6, r7, r8, r9, r10, r11, r12, r13)) ∧ Aside0 (kq ≤ kj49) ∧ Aside0 (Kd.R k116 116 wc w.heap.size (fun k_ => (w.heap.size ≤ k_)) u481005 x481005_12) ∧ Aside0 (Kd.R (Kd.int .i64) 3 wc w.heap.size (fun k_ => (w.heap.size ≤ k_) ∧ some k_ ≠ ((.slice Ao41 t486.length co41) : Value).ownBlock) (.slice Ao40 t483.length co40) t483) ∧ Aside0 (Kd.R (Kd.int .i64) 3 wc w.heap.size (fun k_ => (w.heap.size ≤ k_) ∧ some k_ ≠ ((.slice Ao40 t483.length co40) : Value).ownBlock) (.slice Ao41 t486.length co41) t486) ∧ Aside0 (Kd.N k122 122 wc w.heap.size (fun k_ => (w.heap.size ≤ k_) ∧ some k_ ≠ (u481005 : Value).ownBlock ∧ some k_ ≠ ((.slice Ao40 t483.length co40) : Value).ownBlock ∧ some k_ ≠ ((.slice Ao41 t486.length co41) : Value).ownBlock ∧ k_ ≠ gb435 ∧ k_ ≠ gb480 ∧ k_ ≠ g) (.slice Ao37 t476.length co37) t476) ∧ Aside0 (wc.heap[gb435]? = some (.cells #[.string (⟨#[]⟩ : ByteArray), .int .i64 0, .int .i64 0, .int .i64 0, .int .i64 0, (.slice none 0 0), .int .i64 0, .int .i64 0, (.slice none 0 0), (.slice none 0 0), (.slice none 0 0)] 29 (0, 0))) ∧ Aside0 (wc.heap[gb480]? = some (.cells #[.string t460, .int .i64 t461, .int .i64 x481002_60, .int .i64 t463, .int .i64 t464, u481005, .int .i64 t481, .int .i64 t482, (.slice Ao40 t483.length co40), (.slice Ao41 t486.length co41), (.slice Ao37 t476.length co37)] 29 (0, 0))) ∧ Aside0 (IsS76 w0 wc g s0_0 x1001_60 x1002_60) ∧ Aside0 (KeepBut w wc g none) ∧ Aside0 (Below w0.heap.size w0 wc))
     case first =>
      have H := HC61.out
      clear HC61
      by_cases c62 : x50_49 = true
      ·subst c62
       replace H := ip_ H
       obtain ⟨t502, A63, H⟩ := ob_ H
       obtain ⟨⟨t503, t504, t505⟩, A64, H⟩ := ob_ H
       (try dsimp only at H)
       have H' := Aside0.mk H
       clear H
       try go_wp2
       have n0_ := Aside0.mk (Kd.R_drew HO_481005.out)
       have n1_ := Aside0.mk (Kd.R_drew HO_481008.out)
       have n2_ := Aside0.mk (Kd.R_drew HO_481009.out)
       have n3_ := Aside0.mk (Kd.N_drew HO_481010.out)
       have n4_ := Aside0.mk (blk_drew BK435.out)
       have n5_ := Aside0.mk (blk_drew BK480.out)
       have n6_ := Aside0.mk (IsS76.drew HI0.out)
       have n7_ := Aside0.mk (keep_drew HK.out)
       have n8_ := Aside0.mk (below_drew1 HB.out)
       clear HO_481005
       clear HO_481008
       clear HO_481009
       clear HO_481010
       clear BK435
       clear BK480
       clear HI0
       clear HK
       clear HB
       have HO_481005 := n0_
       have HO_481008 := n1_
       have HO_481009 := n2_
       have HO_481010 := n3_
       have BK435 := n4_
       have BK480 := n5_
       have HI0 := n6_
       have HK := n7_
       have HB := n8_
       clear n0_ n1_ n2_ n3_ n4_ n5_ n6_ n7_ n8_
       obtain ⟨Ao66, co66, eo66⟩ := Kd.R_slice HO_481005.out
       (first | subst eo66 | (injection eo66 with f1_ f2_ f3_; have f4_ := f1_.symm; have f5_ := f3_.symm; clear f1_ f2_ f3_; subst f4_; subst f5_))
       refine start_ (n := 11) (S := fun w' => w'.cell? ⟨gb480, 0, none⟩ = some (.string t460) ∧ w'.cell? ⟨gb480, 1, none⟩ = some (.int .i64 t461) ∧ w'.cell? ⟨gb480, 2, none⟩ = some (.int .i64 t462) ∧ w'.cell? ⟨gb480, 3, none⟩ = some (.int .i64 t463) ∧ w'.cell? ⟨gb480, 4, none⟩ = some (.int .i64 t464) ∧ w'.cell? ⟨gb480, 5, none⟩ = some (.slice Ao66 x481005_12.length co66) ∧ w'.cell? ⟨gb480, 6, none⟩ = some (.int .i64 t481) ∧ w'.cell? ⟨gb480, 7, none⟩ = some (.int .i64 t482) ∧ w'.cell? ⟨gb480, 8, none⟩ = some (.slice Ao40 t483.length co40) ∧ w'.cell? ⟨gb480, 9, none⟩ = some (.slice Ao41 t486.length co41) ∧ w'.cell? ⟨gb480, 10, none⟩ = some (.slice Ao37 t476.length co37)) (ds := [10]) tb11_0_13 (by kernel_rfl) rfl rfl ⟨cy_ BK480 0, cy_ BK480 1, cy_ BK480 2, cy_ BK480 3, cy_ BK480 4, cy_ BK480 5, cy_ BK480 6, cy_ BK480 7, cy_ BK480 8, cy_ BK480 9, cy_ BK480 10⟩ (fun hHeld => ?_); refine with_tabW spec_l09Draw.tab7 spec_l09Draw.bits7 (fun HT_ HW_ => ?_)
       generalize wc.drew = w65 at HO_481005 HO_481008 HO_481009 HO_481010 BK435 BK480 HI0 HK HB hHeld ⊢
       refine pl_ HT_ 0 51 tb11_1_13 ?_
       refine pl_ HT_ 1 52 tb11_3_13 ?_
       refine pl_ HT_ 3 54 tb11_b_13 ?_
       refine pt_ HT_ HW_ hHeld 2 53 tb11_f_13 ?_
       refine pt_ HT_ HW_ hHeld 4 55 tb11_1f_13 ?_
       refine one_ (i := 5) (N := some 56) tb11_3f_13 rfl rfl (one_of HT_.out (by kernel_rfl)) (by decide) (fun K hK => ?_)
       refine goes_ Tryd.func56 (by kernel_rfl) rfl #[.slice Ao66 x481005_12.length co66] (by rfl) rfl rfl gl_ ?_
       with_reducible refine (spec_Stored.calls kj49 _ _ x481005_12 t502 _ ?side1 ?side2 A63.out).mono ?_
       (case side1 => exact ca_ ((Kd.R_reads' HO_481005.out).2.2))
       (case side2 => exact (Kd.R_reads' HO_481005.out).2.1)
       rintro e w67 ⟨rfl, hb⟩
       refine ⟨_, rfl, ?_⟩
       have n0_ := Aside0.mk (Kd.R_below (ra_ HO_481005) hb)
       have n1_ := Aside0.mk (Kd.R_below (ra_ HO_481008) hb)
       have n2_ := Aside0.mk (Kd.R_below (ra_ HO_481009) hb)
       have n3_ := Aside0.mk (Kd.N_below (by (with_reducible repeat (first | apply Kd.N_alloc | apply Kd.N_drewN | apply Kd.N_drew)); exact HO_481010.out) hb)
       have n4_ := Aside0.mk (blk_below (bk_ BK435) hb)
       have n5_ := Aside0.mk (blk_below (bk_ BK480) hb)
       have n6_ := Aside0.mk (IsS76.below (by repeat (first | (with_reducible first | exact HI0.out | apply IsS76.alloc | apply IsS76.drewN | apply IsS76.drew | apply IsS76.set_1 | apply IsS76.set_2 | refine IsS76.far ?_ NB0_435.out _ | refine IsS76.far ?_ NB0_480.out _) | exact HI0.out)) hb)
       have n7_ := Aside0.mk (KeepBut.trans (by repeat (first | (with_reducible first | exact HK.out | apply KeepBut.set_ | apply keep_drewN | apply keep_drew | apply keep_alloc | refine keep_far ?_ GW435.out _ | refine keep_far ?_ GW480.out _) | exact HK.out)) (KeepBut.of_below hb g none) (.inl rfl))
       have n8_ := Aside0.mk (below_step (by repeat (first | (with_reducible first | exact HB.out | apply below_alloc | apply pw_below_drewN | apply below_drew1 | refine below_set ?_ (IsS76.ge HI0.out) | refine below_set ?_ GE435.out | refine below_set ?_ GE480.out) | exact HB.out)) hb)
       clear HO_481005
       clear HO_481008
       clear HO_481009
       clear HO_481010
       clear BK435
       clear BK480
       clear HI0
       clear HK
       clear HB
       have HO_481005 := n0_
       have HO_481008 := n1_
       have HO_481009 := n2_
       have HO_481010 := n3_
       have BK435 := n4_
       have BK480 := n5_
       have HI0 := n6_
       have HK := n7_
       have HB := n8_
       clear n0_ n1_ n2_ n3_ n4_ n5_ n6_ n7_ n8_
       (try clear hb)
       (try clear hb2)
       (try clear hk)
       (try clear hi)
       refine hK.out _ _ ⟨cy_ BK480 0, cy_ BK480 1, cy_ BK480 2, cy_ BK480 3, cy_ BK480 4, cy_ BK480 5, cy_ BK480 6, cy_ BK480 7, cy_ BK480 8, cy_ BK480 9, cy_ BK480 10⟩ (fun hHeld => ?_)
       clear hK K
       refine norm_ (a' := ?_) ?_ ?_
       rotate_left
       ·show Act.put _ (some 56) _ = _
        simp only [Act.put, q_]
        rfl
       refine pl_ HT_ 6 57 tb11_7f_13 ?_
       refine pl_ HT_ 7 58 tb11_ff_13 ?_
       refine one_ (i := 8) (N := some 59) tb11_1ff_13 rfl rfl (one_of HT_.out (by kernel_rfl)) (by decide) (fun K hK => ?_)
       refine goes_ Tryd.func52 (by kernel_rfl) rfl #[.pointer (some ⟨g, 0, none⟩), .int .i64 (wrap64 ((wrap64 (t461 - t502)) + 1))] (by rfl) rfl rfl gl_ ?_
       with_reducible refine (spec_l01Below.calls g s0_0 x1001_49 x1002_49 (wrap64 ((wrap64 (t461 - t502)) + 1)) t503 t504 t505 w0 _ ?side1 ?side2 A64.out).mono ?_
       (case side1 => repeat (first | (with_reducible first | exact HI0.out | apply IsS76.alloc | apply IsS76.drewN | apply IsS76.drew | apply IsS76.set_1 | apply IsS76.set_2 | refine IsS76.far ?_ NB0_435.out _ | refine IsS76.far ?_ NB0_480.out _) | exact HI0.out))
       (case side2 => repeat (first | (with_reducible first | exact HB.out | apply below_alloc | apply pw_below_drewN | apply below_drew1 | refine below_set ?_ (IsS76.ge HI0.out) | refine below_set ?_ GE435.out | refine below_set ?_ GE480.out) | exact HB.out))
       rintro e w68 ⟨rfl, hi, hb, hk⟩
       refine ⟨_, rfl, ?_⟩
       have n0_ := Aside0.mk (Kd.R_mono (Kd.R_keep (IsS76.apart (show IsS76 w0 _ g s0_0 x1001_49 x1002_49 from by repeat (first | (with_reducible first | exact HI0.out | apply IsS76.alloc | apply IsS76.drewN | apply IsS76.drew | apply IsS76.set_1 | apply IsS76.set_2 | refine IsS76.far ?_ NB0_435.out _ | refine IsS76.far ?_ NB0_480.out _) | exact HI0.out)) (ra_ HO_481005) (by decide)) hk (fun _ h => h.2)) (fun _ h => h.1))
       have n1_ := Aside0.mk (Kd.R_mono (Kd.R_keep (IsS76.apart (show IsS76 w0 _ g s0_0 x1001_49 x1002_49 from by repeat (first | (with_reducible first | exact HI0.out | apply IsS76.alloc | apply IsS76.drewN | apply IsS76.drew | apply IsS76.set_1 | apply IsS76.set_2 | refine IsS76.far ?_ NB0_435.out _ | refine IsS76.far ?_ NB0_480.out _) | exact HI0.out)) (ra_ HO_481008) (by decide)) hk (fun _ h => h.2)) (fun _ h => h.1))
       have n2_ := Aside0.mk (Kd.R_mono (Kd.R_keep (IsS76.apart (show IsS76 w0 _ g s0_0 x1001_49 x1002_49 from by repeat (first | (with_reducible first | exact HI0.out | apply IsS76.alloc | apply IsS76.drewN | apply IsS76.drew | apply IsS76.set_1 | apply IsS76.set_2 | refine IsS76.far ?_ NB0_435.out _ | refine IsS76.far ?_ NB0_480.out _) | exact HI0.out)) (ra_ HO_481009) (by decide)) hk (fun _ h => h.2)) (fun _ h => h.1))
       have n3_ := Aside0.mk (Kd.N_mono (Kd.N_keep (Kd.N_mono (ok := fun k_ => (((w.heap.size ≤ k_)) ∧ (some k_ ≠ (.slice Ao66 x481005_12.length co66 : Value).ownBlock ∧ (some k_ ≠ (.slice Ao40 t483.length co40 : Value).ownBlock ∧ (some k_ ≠ (.slice Ao41 t486.length co41 : Value).ownBlock ∧ (k_ ≠ gb435 ∧ (k_ ≠ gb480 ∧ k_ ≠ g))))))) (by (with_reducible repeat (first | apply Kd.N_alloc | apply Kd.N_drewN | apply Kd.N_drew)); exact HO_481010.out) (fun k_ hk_ => (⟨hk_, hk_.2.2.2.2.2.2⟩ : _ ∧ k_ ≠ g))) hk (fun _ h => h.2)) (fun _ h => h.1))
       have n4_ := Aside0.mk (KeepBut.blk hk (g' := gb435) (o := .cells #[.string (⟨#[]⟩ : ByteArray), .int .i64 0, .int .i64 0, .int .i64 0, .int .i64 0, .slice none 0 0, .int .i64 0, .int .i64 0, .slice none 0 0, .slice none 0 0, .slice none 0 0] 29 (0, 0)) (by (with_reducible repeat (first | refine blk_drewN ?_ _ | refine blk_drew ?_ | refine blk_alloc ?_ _)); exact BK435.out) NB435_0.out (by simp))
       have n5_ := Aside0.mk (KeepBut.blk hk (g' := gb480) (o := .cells #[.string t460, .int .i64 t461, .int .i64 t462, .int .i64 t463, .int .i64 t464, .slice Ao66 x481005_12.length co66, .int .i64 t481, .int .i64 t482, .slice Ao40 t483.length co40, .slice Ao41 t486.length co41, .slice Ao37 t476.length co37] 29 (0, 0)) (by (with_reducible repeat (first | refine blk_drewN ?_ _ | refine blk_drew ?_ | refine blk_alloc ?_ _)); exact BK480.out) NB480_0.out (by simp))
       have n6_ := Aside0.mk (KeepBut.trans (by repeat (first | (with_reducible first | exact HK.out | apply KeepBut.set_ | apply keep_drewN | apply keep_drew | apply keep_alloc | refine keep_far ?_ GW435.out _ | refine keep_far ?_ GW480.out _) | exact HK.out)) hk (.inl rfl))
       have n7_ := Aside0.mk (hb)
       have n8_ := Aside0.mk (hi)
       clear HO_481005
       clear HO_481008
       clear HO_481009
       clear HO_481010
       clear BK435
       clear BK480
       clear HK
       clear HB
       clear HI0
       have HO_481005 := n0_
       have HO_481008 := n1_
       have HO_481009 := n2_
       have HO_481010 := n3_
       have BK435 := n4_
       have BK480 := n5_
       have HK := n6_
       have HB := n7_
       have HI0 := n8_
       clear n0_ n1_ n2_ n3_ n4_ n5_ n6_ n7_ n8_
       (try clear hb)
       (try clear hb2)
       (try clear hk)
       (try clear hi)
       refine hK.out _ _ ⟨cy_ BK480 0, cy_ BK480 1, cy_ BK480 2, cy_ BK480 3, cy_ BK480 4, cy_ BK480 5, cy_ BK480 6, cy_ BK480 7, cy_ BK480 8, cy_ BK480 9, cy_ BK480 10⟩ (fun hHeld => ?_)
       clear hK K
       refine norm_ (a' := ?_) ?_ ?_
       rotate_left
       ·show Act.put _ (some 59) _ = _
        simp only [Act.put, q_]
        rfl
       refine pl_ HT_ 9 60 tb11_3ff_13 ?_
       refine last_ (i := 10) (N := none) tb11_7ff_13 rfl rfl (one_of HT_.out (by kernel_rfl)) (by decide) (fun K hK => ?_)
       have hs69 : w68.cell? ⟨gb480, 2, none⟩ = some (.int .i64 t462) := cy_ BK480 2
       have hfs69 := fz_ BK480 2
       have hns69_0 := NB435_480.out
       have hms69_0 := NB480_435.out
       refine skip_ (w1 := ?_) (by rfl) rfl ?_ ?_
       rotate_left
       ·go_simp
        rfl
       refine hK.out _ _ ?_
       clear hK K
       refine done_ (done_of HT_.out (by kernel_rfl)) ?_
       try go_wp2
       go_meet
       case rel => exact ⟨_, (t504), (t505), (t503), H', ⟨by have := HJ12.out; have := HJ49.out; first | omega | exact Nat.le_refl _⟩, ⟨by (with_reducible repeat (first | apply Kd.R_alloc | apply Kd.R_drewN | apply Kd.R_drew)); exact Kd.R_mono (Kd.R_far (p := ⟨gb480, 2, none⟩) (Kd.R_types HO_481005.out BK480.out (by decide)) (fun _ hk => hk.2) (.int .i64 t503)) (fun _ hk => hk.1)⟩, ⟨by (with_reducible repeat (first | apply Kd.R_alloc | apply Kd.R_drewN | apply Kd.R_drew)); exact Kd.R_mono (Kd.R_far (p := ⟨gb480, 2, none⟩) (Kd.R_types HO_481008.out BK480.out (by decide)) (fun _ hk => hk.2) (.int .i64 t503)) (fun _ hk => ⟨hk.1.1, hk.1.2⟩)⟩, ⟨by (with_reducible repeat (first | apply Kd.R_alloc | apply Kd.R_drewN | apply Kd.R_drew)); exact Kd.R_mono (Kd.R_far (p := ⟨gb480, 2, none⟩) (Kd.R_types HO_481009.out BK480.out (by decide)) (fun _ hk => hk.2) (.int .i64 t503)) (fun _ hk => ⟨hk.1.1, hk.1.2⟩)⟩, ⟨by (with_reducible repeat (first | apply Kd.N_alloc | apply Kd.N_drewN | apply Kd.N_drew)); exact Kd.N_mono (Kd.N_far (p := ⟨gb480, 2, none⟩) (Kd.N_mono HO_481010.out (fun k_ hk => (⟨hk, hk.2.2.2.2.2.1⟩ : _ ∧ k_ ≠ gb480))) (fun _ hk => hk.2) (.int .i64 t503)) (fun _ hk => ⟨hk.1.1, ⟨hk.1.2.1, ⟨hk.1.2.2.1, ⟨hk.1.2.2.2.1, ⟨hk.1.2.2.2.2.1, ⟨hk.1.2.2.2.2.2.1, hk.1.2.2.2.2.2.2⟩⟩⟩⟩⟩⟩)⟩, ⟨by (with_reducible repeat (first | refine blk_drewN ?_ _ | refine blk_drew ?_ | refine blk_alloc ?_ _)); refine blk_far ?_ NB435_480.out _; (with_reducible repeat (first | refine blk_drewN ?_ _ | refine blk_drew ?_ | refine blk_alloc ?_ _)); exact BK435.out⟩, ⟨by (with_reducible repeat (first | refine blk_drewN ?_ _ | refine blk_drew ?_ | refine blk_alloc ?_ _)); apply bq11_2_; (with_reducible repeat (first | refine blk_drewN ?_ _ | refine blk_drew ?_ | refine blk_alloc ?_ _)); exact BK480.out⟩, ⟨by repeat (first | (with_reducible first | exact HI0.out | apply IsS76.alloc | apply IsS76.drewN | apply IsS76.drew | apply IsS76.set_1 | apply IsS76.set_2 | refine IsS76.far ?_ NB0_435.out _ | refine IsS76.far ?_ NB0_480.out _) | exact HI0.out)⟩, ⟨by repeat (first | (with_reducible first | exact HK.out | apply KeepBut.set_ | apply keep_drewN | apply keep_drew | apply keep_alloc | refine keep_far ?_ GW435.out _ | refine keep_far ?_ GW480.out _) | exact HK.out)⟩, ⟨by repeat (first | (with_reducible first | exact HB.out | apply below_alloc | apply pw_below_drewN | apply below_drew1 | refine below_set ?_ (IsS76.ge HI0.out) | refine below_set ?_ GE435.out | refine below_set ?_ GE480.out) | exact HB.out)⟩⟩
      ·replace c62 := Bool.eq_false_iff.mpr c62
       subst c62
       replace H := in_ H
       have H' := Aside0.mk H
       clear H
       go_wp2
       go_meet
       case rel => exact ⟨_, (x1001_49), (x1002_49), (t462), H', ⟨by have := HJ12.out; have := HJ49.out; first | omega | exact Nat.le_refl _⟩, ⟨ra_ HO_481005⟩, ⟨ra_ HO_481008⟩, ⟨ra_ HO_481009⟩, ⟨by (with_reducible repeat (first | apply Kd.N_alloc | apply Kd.N_drewN | apply Kd.N_drew)); exact HO_481010.out⟩, ⟨by (with_reducible repeat (first | refine blk_drewN ?_ _ | refine blk_drew ?_ | refine blk_alloc ?_ _)); exact BK435.out⟩, ⟨by (with_reducible repeat (first | refine blk_drewN ?_ _ | refine blk_drew ?_ | refine blk_alloc ?_ _)); exact BK480.out⟩, ⟨by repeat (first | (with_reducible first | exact HI0.out | apply IsS76.alloc | apply IsS76.drewN | apply IsS76.drew | apply IsS76.set_1 | apply IsS76.set_2 | refine IsS76.far ?_ NB0_435.out _ | refine IsS76.far ?_ NB0_480.out _) | exact HI0.out)⟩, ⟨by repeat (first | (with_reducible first | exact HK.out | apply KeepBut.set_ | apply keep_drewN | apply keep_drew | apply keep_alloc | refine keep_far ?_ GW435.out _ | refine keep_far ?_ GW480.out _) | exact HK.out)⟩, ⟨by repeat (first | (with_reducible first | exact HB.out | apply below_alloc | apply pw_below_drewN | apply below_drew1 | refine below_set ?_ (IsS76.ge HI0.out) | refine below_set ?_ GE435.out | refine below_set ?_ GE480.out) | exact HB.out)⟩⟩
     case rest =>
      clear HC61
      try clear c2
      try clear p2
      try clear c3
      try clear c4
      try clear c5
      try clear c6
      try clear p6
      try clear c24
      try clear c31
      try clear c32
      try clear c46
      try clear c46b0
      try clear c47
      try clear c48
      try clear c52
      try clear c52b0
      try clear c55
      try clear c56
      try clear c57
      try clear c62
      try clear p64
      try clear hcz33_0
      try clear hcz33_1
      try clear hcz33_10
      try clear hcz33_2
      try clear hcz33_3
      try clear hcz33_4
      try clear hcz33_5
      try clear hcz33_6
      try clear hcz33_7
      try clear hcz33_8
      try clear hcz33_9
      try clear hcz39_0
      try clear hcz39_1
      try clear hcz39_10
      try clear hcz39_2
      try clear hcz39_3
      try clear hcz39_4
      try clear hcz39_5
      try clear hcz39_6
      try clear hcz39_7
      try clear hcz39_8
      try clear hcz39_9
      try clear hcz49_0
      try clear hcz49_1
      try clear hcz49_10
      try clear hcz49_2
      try clear hcz49_3
      try clear hcz49_4
      try clear hcz49_5
      try clear hcz49_6
      try clear hcz49_7
      try clear hcz49_8
      try clear hcz49_9
      try clear hfz33_0
      try clear hfz33_1
      try clear hfz33_10
      try clear hfz33_2
      try clear hfz33_3
      try clear hfz33_4
      try clear hfz33_5
      try clear hfz33_6
      try clear hfz33_7
      try clear hfz33_8
      try clear hfz33_9
      try clear hfz39_0
      try clear hfz39_1
      try clear hfz39_10
      try clear hfz39_2
      try clear hfz39_3
      try clear hfz39_4
      try clear hfz39_5
      try clear hfz39_6
      try clear hfz39_7
      try clear hfz39_8
      try clear hfz39_9
      try clear hfz49_0
      try clear hfz49_1
      try clear hfz49_10
      try clear hfz49_2
      try clear hfz49_3
      try clear hfz49_4
      try clear hfz49_5
      try clear hfz49_6
      try clear hfz49_7
      try clear hfz49_8
      try clear hfz49_9
      try clear p2
      try clear p6
      obtain ⟨kq, x1001_60, x1002_60, x481002_60, HA, HJ60, HO_481005, HO_481008, HO_481009, HO_481010, BK435, BK480, HI0, HK, HB⟩ := hcut
      cases kq with
      | zero => exact absurd HA.out (by simp [spec_l09Draw.j2])
      | succ kj60 =>
       have H := HA.out
       clear HA
       simp only [spec_l09Draw.j2] at H
       obtain ⟨⟨t506, t507, t508⟩, A70, H⟩ := ob_ H
       (try dsimp only at H)
       by_cases c71 : t506 = true
       ·subst c71
        replace H := ip_ H
        obtain ⟨⟨t509, t512, t513⟩, A72, H⟩ := ob_ H
        (try dsimp only at H)
        simp only [Option.some.injEq, Prod.mk.injEq] at H
        obtain ⟨rfl, rfl, rfl, rfl, rfl, rfl, rfl, rfl, rfl, rfl, rfl, rfl, rfl⟩ := H
        go_wp2_with (first | ((with_reducible refine gate_callee (f := 57) rfl ?_); refine goesL_ (some 62) rfl rfl Tryd.func57 (by kernel_rfl) rfl #[.pointer (some ⟨g, 0, none⟩), .int .i64 3] rfl gl_ ?_; (with_reducible refine (spec_l01Once.calls g s0_0 x1001_60 x1002_60 3 true t507 t508 w0 _ ?side1 ?side2 A70.out).mono ?_); (case side1 => repeat (first | (with_reducible first | exact HI0.out | apply IsS76.alloc | apply IsS76.drewN | apply IsS76.drew | apply IsS76.set_1 | apply IsS76.set_2 | refine IsS76.far ?_ NB0_435.out _ | refine IsS76.far ?_ NB0_480.out _) | exact HI0.out)); (case side2 => repeat (first | (with_reducible first | exact HB.out | apply below_alloc | apply pw_below_drewN | apply below_drew1 | refine below_set ?_ (IsS76.ge HI0.out) | refine below_set ?_ GE435.out | refine below_set ?_ GE480.out) | exact HB.out)); rintro e w73 ⟨rfl, hi, hb, hk⟩; refine ⟨_, rfl, ?_⟩; replace HO_481005 := Aside0.mk (Kd.R_mono (Kd.R_keep (IsS76.apart (show IsS76 w0 _ g s0_0 x1001_60 x1002_60 from by repeat (first | (with_reducible first | exact HI0.out | apply IsS76.alloc | apply IsS76.drewN | apply IsS76.drew | apply IsS76.set_1 | apply IsS76.set_2 | refine IsS76.far ?_ NB0_435.out _ | refine IsS76.far ?_ NB0_480.out _) | exact HI0.out)) (ra_ HO_481005) (by decide)) hk (fun _ h => h.2)) (fun _ h => h.1)); replace HO_481008 := Aside0.mk (Kd.R_mono (Kd.R_keep (IsS76.apart (show IsS76 w0 _ g s0_0 x1001_60 x1002_60 from by repeat (first | (with_reducible first | exact HI0.out | apply IsS76.alloc | apply IsS76.drewN | apply IsS76.drew | apply IsS76.set_1 | apply IsS76.set_2 | refine IsS76.far ?_ NB0_435.out _ | refine IsS76.far ?_ NB0_480.out _) | exact HI0.out)) (ra_ HO_481008) (by decide)) hk (fun _ h => h.2)) (fun _ h => h.1)); replace HO_481009 := Aside0.mk (Kd.R_mono (Kd.R_keep (IsS76.apart (show IsS76 w0 _ g s0_0 x1001_60 x1002_60 from by repeat (first | (with_reducible first | exact HI0.out | apply IsS76.alloc | apply IsS76.drewN | apply IsS76.drew | apply IsS76.set_1 | apply IsS76.set_2 | refine IsS76.far ?_ NB0_435.out _ | refine IsS76.far ?_ NB0_480.out _) | exact HI0.out)) (ra_ HO_481009) (by decide)) hk (fun _ h => h.2)) (fun _ h => h.1)); replace HO_481010 := Aside0.mk (Kd.N_mono (Kd.N_keep (Kd.N_mono (ok := fun k_ => (((w.heap.size ≤ k_)) ∧ (some k_ ≠ (u481005 : Value).ownBlock ∧ (some k_ ≠ (.slice Ao40 t483.length co40 : Value).ownBlock ∧ (some k_ ≠ (.slice Ao41 t486.length co41 : Value).ownBlock ∧ (k_ ≠ gb435 ∧ (k_ ≠ gb480 ∧ k_ ≠ g))))))) (by (with_reducible repeat (first | apply Kd.N_alloc | apply Kd.N_drewN | apply Kd.N_drew)); exact HO_481010.out) (fun k_ hk_ => (⟨hk_, hk_.2.2.2.2.2.2⟩ : _ ∧ k_ ≠ g))) hk (fun _ h => h.2)) (fun _ h => h.1)); replace BK435 := Aside0.mk (KeepBut.blk hk (g' := gb435) (o := .cells #[.string (⟨#[]⟩ : ByteArray), .int .i64 0, .int .i64 0, .int .i64 0, .int .i64 0, .slice none 0 0, .int .i64 0, .int .i64 0, .slice none 0 0, .slice none 0 0, .slice none 0 0] 29 (0, 0)) (by (with_reducible repeat (first | refine blk_drewN ?_ _ | refine blk_drew ?_ | refine blk_alloc ?_ _)); exact BK435.out) NB435_0.out (by simp)); replace BK480 := Aside0.mk (KeepBut.blk hk (g' := gb480) (o := .cells #[.string t460, .int .i64 t461, .int .i64 x481002_60, .int .i64 t463, .int .i64 t464, u481005, .int .i64 t481, .int .i64 t482, .slice Ao40 t483.length co40, .slice Ao41 t486.length co41, .slice Ao37 t476.length co37] 29 (0, 0)) (by (with_reducible repeat (first | refine blk_drewN ?_ _ | refine blk_drew ?_ | refine blk_alloc ?_ _)); exact BK480.out) NB480_0.out (by simp)); replace HK := Aside0.mk (KeepBut.trans (by repeat (first | (with_reducible first | exact HK.out | apply KeepBut.set_ | apply keep_drewN | apply keep_drew | apply keep_alloc | refine keep_far ?_ GW435.out _ | refine keep_far ?_ GW480.out _) | exact HK.out)) hk (.inl rfl)); replace HB := Aside0.mk (hb); replace HI0 := Aside0.mk (hi); (try clear hb); (try clear hb2); (try clear hk); (try clear hi)) | ((with_reducible refine gate_callee (f := 58) rfl ?_); refine goesL_ (some 64) rfl rfl Tryd.func58 (by kernel_rfl) rfl #[.pointer (some ⟨g, 0, none⟩)] rfl gl_ ?_; (with_reducible refine (spec_l08Draw.calls kj60 g s0_0 t507 t508 t509 t512 t513 w0 _ ?side1 ?side2 A72.out).mono ?_); (case side1 => repeat (first | (with_reducible first | exact HI0.out | apply IsS76.alloc | apply IsS76.drewN | apply IsS76.drew | apply IsS76.set_1 | apply IsS76.set_2 | refine IsS76.far ?_ NB0_435.out _ | refine IsS76.far ?_ NB0_480.out _) | exact HI0.out)); (case side2 => repeat (first | (with_reducible first | exact HB.out | apply below_alloc | apply pw_below_drewN | apply below_drew1 | refine below_set ?_ (IsS76.ge HI0.out) | refine below_set ?_ GE435.out | refine below_set ?_ GE480.out) | exact HB.out)); rintro e w74 ⟨v510, rfl, ho0, hi, hb, hk⟩; refine ⟨_, rfl, ?_⟩; have HO511 := Aside0.mk (Kd.N_lower (Kd.N_mono (ok' := fun k_ => (w.heap.size ≤ k_) ∧ some k_ ≠ (u481005 : Value).ownBlock ∧ some k_ ≠ (.slice Ao40 t483.length co40 : Value).ownBlock ∧ some k_ ≠ (.slice Ao41 t486.length co41 : Value).ownBlock ∧ some k_ ≠ (.slice Ao37 t476.length co37 : Value).ownBlock ∧ k_ ≠ gb435 ∧ k_ ≠ gb480 ∧ k_ ≠ g) ho0 (fun k_ hk_ => ⟨(Nat.le_trans (keep_size (w := w) (g := g) (row := none) (by repeat (first | (with_reducible first | exact HK.out | apply KeepBut.set_ | apply keep_drewN | apply keep_drew | apply keep_alloc | refine keep_far ?_ GW435.out _ | refine keep_far ?_ GW480.out _) | exact HK.out))) hk_), (Kd.fresh' (Kd.R_lt (ra_ HO_481005)) k_ hk_), (Kd.fresh' (Kd.R_lt (ra_ HO_481008)) k_ hk_), (Kd.fresh' (Kd.R_lt (ra_ HO_481009)) k_ hk_), (Kd.fresh' (Kd.N_lt (by (with_reducible repeat (first | apply Kd.N_alloc | apply Kd.N_drewN | apply Kd.N_drew)); exact HO_481010.out)) k_ hk_), (Kd.freshB (bk_ BK435) k_ hk_), (Kd.freshB (bk_ BK480) k_ hk_), (IsS76.fresh (by repeat (first | (with_reducible first | exact HI0.out | apply IsS76.alloc | apply IsS76.drewN | apply IsS76.drew | apply IsS76.set_1 | apply IsS76.set_2 | refine IsS76.far ?_ NB0_435.out _ | refine IsS76.far ?_ NB0_480.out _) | exact HI0.out)) k_ hk_)⟩)) (keep_size (w := w) (g := g) (row := none) (by repeat (first | (with_reducible first | exact HK.out | apply KeepBut.set_ | apply keep_drewN | apply keep_drew | apply keep_alloc | refine keep_far ?_ GW435.out _ | refine keep_far ?_ GW480.out _) | exact HK.out)))); replace HO_481005 := Aside0.mk (Kd.R_mono (Kd.R_keep (IsS76.apart (show IsS76 w0 _ g s0_0 t507 t508 from by repeat (first | (with_reducible first | exact HI0.out | apply IsS76.alloc | apply IsS76.drewN | apply IsS76.drew | apply IsS76.set_1 | apply IsS76.set_2 | refine IsS76.far ?_ NB0_435.out _ | refine IsS76.far ?_ NB0_480.out _) | exact HI0.out)) (ra_ HO_481005) (by decide)) hk (fun _ h => h.2)) (fun _ h => h.1)); replace HO_481008 := Aside0.mk (Kd.R_mono (Kd.R_keep (IsS76.apart (show IsS76 w0 _ g s0_0 t507 t508 from by repeat (first | (with_reducible first | exact HI0.out | apply IsS76.alloc | apply IsS76.drewN | apply IsS76.drew | apply IsS76.set_1 | apply IsS76.set_2 | refine IsS76.far ?_ NB0_435.out _ | refine IsS76.far ?_ NB0_480.out _) | exact HI0.out)) (ra_ HO_481008) (by decide)) hk (fun _ h => h.2)) (fun _ h => h.1)); replace HO_481009 := Aside0.mk (Kd.R_mono (Kd.R_keep (IsS76.apart (show IsS76 w0 _ g s0_0 t507 t508 from by repeat (first | (with_reducible first | exact HI0.out | apply IsS76.alloc | apply IsS76.drewN | apply IsS76.drew | apply IsS76.set_1 | apply IsS76.set_2 | refine IsS76.far ?_ NB0_435.out _ | refine IsS76.far ?_ NB0_480.out _) | exact HI0.out)) (ra_ HO_481009) (by decide)) hk (fun _ h => h.2)) (fun _ h => h.1)); replace HO_481010 := Aside0.mk (Kd.N_mono (Kd.N_told (Kd.N_oldK (Kd.N_mono (ok := fun k_ => (((w.heap.size ≤ k_)) ∧ (some k_ ≠ (u481005 : Value).ownBlock ∧ (some k_ ≠ (.slice Ao40 t483.length co40 : Value).ownBlock ∧ (some k_ ≠ (.slice Ao41 t486.length co41 : Value).ownBlock ∧ (k_ ≠ gb435 ∧ (k_ ≠ gb480 ∧ k_ ≠ g))))))) (by (with_reducible repeat (first | apply Kd.N_alloc | apply Kd.N_drewN | apply Kd.N_drew)); exact HO_481010.out) (fun k_ hk_ => (⟨hk_, hk_.2.2.2.2.2.2⟩ : _ ∧ k_ ≠ g))) hk) (Kd.N_base ho0)) (fun _ h_ => h_.1)); replace BK435 := Aside0.mk (KeepBut.blk hk (g' := gb435) (o := .cells #[.string (⟨#[]⟩ : ByteArray), .int .i64 0, .int .i64 0, .int .i64 0, .int .i64 0, .slice none 0 0, .int .i64 0, .int .i64 0, .slice none 0 0, .slice none 0 0, .slice none 0 0] 29 (0, 0)) (by (with_reducible repeat (first | refine blk_drewN ?_ _ | refine blk_drew ?_ | refine blk_alloc ?_ _)); exact BK435.out) NB435_0.out (by simp)); replace BK480 := Aside0.mk (KeepBut.blk hk (g' := gb480) (o := .cells #[.string t460, .int .i64 t461, .int .i64 x481002_60, .int .i64 t463, .int .i64 t464, u481005, .int .i64 t481, .int .i64 t482, .slice Ao40 t483.length co40, .slice Ao41 t486.length co41, .slice Ao37 t476.length co37] 29 (0, 0)) (by (with_reducible repeat (first | refine blk_drewN ?_ _ | refine blk_drew ?_ | refine blk_alloc ?_ _)); exact BK480.out) NB480_0.out (by simp)); replace HK := Aside0.mk (KeepBut.trans (by repeat (first | (with_reducible first | exact HK.out | apply KeepBut.set_ | apply keep_drewN | apply keep_drew | apply keep_alloc | refine keep_far ?_ GW435.out _ | refine keep_far ?_ GW480.out _) | exact HK.out)) hk (.inl rfl)); replace HB := Aside0.mk (hb); replace HI0 := Aside0.mk (hi); (try clear hb); (try clear hb2); (try clear hk); (try clear hi); (try clear ho0); obtain ⟨Ao75, co75, eo75⟩ := Kd.N_slice HO511.out; subst eo75; have hnb76 := NB480_435.out; have hnc76 := NB435_480.out; have hnb77 := NB480_0.out; have hnc77 := NB0_480.out; obtain ⟨hcz78_0, hcz78_1, hcz78_2, hcz78_3, hcz78_4, hcz78_5, hcz78_6, hcz78_7, hcz78_8, hcz78_9, hcz78_10, hfz78_0, hfz78_1, hfz78_2, hfz78_3, hfz78_4, hfz78_5, hfz78_6, hfz78_7, hfz78_8, hfz78_9, hfz78_10⟩ := bx11_ BK480; have hnb79 := NB435_0.out; have hnc79 := NB0_435.out; obtain ⟨hcz80_0, hcz80_1, hcz80_2, hcz80_3, hcz80_4, hcz80_5, hcz80_6, hcz80_7, hcz80_8, hcz80_9, hcz80_10, hfz80_0, hfz80_1, hfz80_2, hfz80_3, hfz80_4, hfz80_5, hfz80_6, hfz80_7, hfz80_8, hfz80_9, hfz80_10⟩ := bx11_ BK435; obtain ⟨Ao81, co81, eo81⟩ := Kd.R_slice HO_481005.out; subst eo81))
        refine bodyPost_ret (results_cell_row rfl _ _ gb435 29 #[.string t460, .int .i64 t461, .int .i64 x481002_60, .int .i64 t463, .int .i64 t464, .slice Ao81 x481005_12.length co81, .int .i64 t481, .int .i64 t482, .slice Ao40 t483.length co40, .slice Ao41 t486.length co41, .slice Ao75 t509.length co75] (0, 0) _ rfl (by (with_reducible repeat (first | refine blk_drewN ?_ _ | refine blk_drew ?_ | refine blk_alloc ?_ _)); apply bq11_10_9_8_7_6_5_4_3_2_1_0_; (with_reducible repeat (first | refine blk_drewN ?_ _ | refine blk_drew ?_ | refine blk_alloc ?_ _)); refine blk_far ?_ NB435_480.out _; (with_reducible repeat (first | refine blk_drewN ?_ _ | refine blk_drew ?_ | refine blk_alloc ?_ _)); exact BK435.out) Tryd.underlying29 rfl (by kernel_rfl)) rfl ?_
        exact ⟨_, _, _, _, by first | rfl | (simp [errW_none, errW_some] <;> rfl) | (simp [*, errW_none, errW_some] <;> rfl), by (with_reducible repeat (first | apply Kd.R_alloc | apply Kd.R_drewN | apply Kd.R_drew)); exact Kd.R_mono (Kd.R_far (p := ⟨gb435, 10, none⟩) (Kd.R_far (p := ⟨gb435, 9, none⟩) (Kd.R_far (p := ⟨gb435, 8, none⟩) (Kd.R_far (p := ⟨gb435, 7, none⟩) (Kd.R_far (p := ⟨gb435, 6, none⟩) (Kd.R_far (p := ⟨gb435, 5, none⟩) (Kd.R_far (p := ⟨gb435, 4, none⟩) (Kd.R_far (p := ⟨gb435, 3, none⟩) (Kd.R_far (p := ⟨gb435, 2, none⟩) (Kd.R_far (p := ⟨gb435, 1, none⟩) (Kd.R_far (p := ⟨gb435, 0, none⟩) (Kd.R_far (p := ⟨gb480, 10, none⟩) (Kd.R_types (Kd.R_types HO_481005.out BK480.out (by decide)) BK435.out (by decide)) (fun _ hk => hk.1.2) (.slice Ao75 t509.length co75)) (fun _ hk => hk.2) (.string t460)) (fun _ hk => hk.2) (.int .i64 t461)) (fun _ hk => hk.2) (.int .i64 x481002_60)) (fun _ hk => hk.2) (.int .i64 t463)) (fun _ hk => hk.2) (.int .i64 t464)) (fun _ hk => hk.2) (.slice Ao81 x481005_12.length co81)) (fun _ hk => hk.2) (.int .i64 t481)) (fun _ hk => hk.2) (.int .i64 t482)) (fun _ hk => hk.2) (.slice Ao40 t483.length co40)) (fun _ hk => hk.2) (.slice Ao41 t486.length co41)) (fun _ hk => hk.2) (.slice Ao75 t509.length co75)) (fun _ hk => hk.1.1), by (with_reducible repeat (first | apply Kd.R_alloc | apply Kd.R_drewN | apply Kd.R_drew)); exact Kd.R_mono (Kd.R_far (p := ⟨gb435, 10, none⟩) (Kd.R_far (p := ⟨gb435, 9, none⟩) (Kd.R_far (p := ⟨gb435, 8, none⟩) (Kd.R_far (p := ⟨gb435, 7, none⟩) (Kd.R_far (p := ⟨gb435, 6, none⟩) (Kd.R_far (p := ⟨gb435, 5, none⟩) (Kd.R_far (p := ⟨gb435, 4, none⟩) (Kd.R_far (p := ⟨gb435, 3, none⟩) (Kd.R_far (p := ⟨gb435, 2, none⟩) (Kd.R_far (p := ⟨gb435, 1, none⟩) (Kd.R_far (p := ⟨gb435, 0, none⟩) (Kd.R_far (p := ⟨gb480, 10, none⟩) (Kd.R_types (Kd.R_types HO_481008.out BK480.out (by decide)) BK435.out (by decide)) (fun _ hk => hk.1.2) (.slice Ao75 t509.length co75)) (fun _ hk => hk.2) (.string t460)) (fun _ hk => hk.2) (.int .i64 t461)) (fun _ hk => hk.2) (.int .i64 x481002_60)) (fun _ hk => hk.2) (.int .i64 t463)) (fun _ hk => hk.2) (.int .i64 t464)) (fun _ hk => hk.2) (.slice Ao81 x481005_12.length co81)) (fun _ hk => hk.2) (.int .i64 t481)) (fun _ hk => hk.2) (.int .i64 t482)) (fun _ hk => hk.2) (.slice Ao40 t483.length co40)) (fun _ hk => hk.2) (.slice Ao41 t486.length co41)) (fun _ hk => hk.2) (.slice Ao75 t509.length co75)) (fun _ hk => ⟨hk.1.1.1, hk.1.1.2⟩), by (with_reducible repeat (first | apply Kd.R_alloc | apply Kd.R_drewN | apply Kd.R_drew)); exact Kd.R_mono (Kd.R_far (p := ⟨gb435, 10, none⟩) (Kd.R_far (p := ⟨gb435, 9, none⟩) (Kd.R_far (p := ⟨gb435, 8, none⟩) (Kd.R_far (p := ⟨gb435, 7, none⟩) (Kd.R_far (p := ⟨gb435, 6, none⟩) (Kd.R_far (p := ⟨gb435, 5, none⟩) (Kd.R_far (p := ⟨gb435, 4, none⟩) (Kd.R_far (p := ⟨gb435, 3, none⟩) (Kd.R_far (p := ⟨gb435, 2, none⟩) (Kd.R_far (p := ⟨gb435, 1, none⟩) (Kd.R_far (p := ⟨gb435, 0, none⟩) (Kd.R_far (p := ⟨gb480, 10, none⟩) (Kd.R_types (Kd.R_types HO_481009.out BK480.out (by decide)) BK435.out (by decide)) (fun _ hk => hk.1.2) (.slice Ao75 t509.length co75)) (fun _ hk => hk.2) (.string t460)) (fun _ hk => hk.2) (.int .i64 t461)) (fun _ hk => hk.2) (.int .i64 x481002_60)) (fun _ hk => hk.2) (.int .i64 t463)) (fun _ hk => hk.2) (.int .i64 t464)) (fun _ hk => hk.2) (.slice Ao81 x481005_12.length co81)) (fun _ hk => hk.2) (.int .i64 t481)) (fun _ hk => hk.2) (.int .i64 t482)) (fun _ hk => hk.2) (.slice Ao40 t483.length co40)) (fun _ hk => hk.2) (.slice Ao41 t486.length co41)) (fun _ hk => hk.2) (.slice Ao75 t509.length co75)) (fun _ hk => ⟨hk.1.1.1, hk.1.1.2⟩), by (with_reducible repeat (first | apply Kd.N_alloc | apply Kd.N_drewN | apply Kd.N_drew)); exact Kd.N_mono (Kd.N_far (p := ⟨gb435, 10, none⟩) (Kd.N_far (p := ⟨gb435, 9, none⟩) (Kd.N_far (p := ⟨gb435, 8, none⟩) (Kd.N_far (p := ⟨gb435, 7, none⟩) (Kd.N_far (p := ⟨gb435, 6, none⟩) (Kd.N_far (p := ⟨gb435, 5, none⟩) (Kd.N_far (p := ⟨gb435, 4, none⟩) (Kd.N_far (p := ⟨gb435, 3, none⟩) (Kd.N_far (p := ⟨gb435, 2, none⟩) (Kd.N_far (p := ⟨gb435, 1, none⟩) (Kd.N_far (p := ⟨gb435, 0, none⟩) (Kd.N_far (p := ⟨gb480, 10, none⟩) (Kd.N_mono (Kd.N_mono HO511.out (fun k_ hk => (⟨hk, hk.2.2.2.2.2.2.1⟩ : _ ∧ k_ ≠ gb480))) (fun k_ hk => (⟨hk, hk.1.2.2.2.2.2.1⟩ : _ ∧ k_ ≠ gb435))) (fun _ hk => hk.1.2) (.slice Ao75 t509.length co75)) (fun _ hk => hk.2) (.string t460)) (fun _ hk => hk.2) (.int .i64 t461)) (fun _ hk => hk.2) (.int .i64 x481002_60)) (fun _ hk => hk.2) (.int .i64 t463)) (fun _ hk => hk.2) (.int .i64 t464)) (fun _ hk => hk.2) (.slice Ao81 x481005_12.length co81)) (fun _ hk => hk.2) (.int .i64 t481)) (fun _ hk => hk.2) (.int .i64 t482)) (fun _ hk => hk.2) (.slice Ao40 t483.length co40)) (fun _ hk => hk.2) (.slice Ao41 t486.length co41)) (fun _ hk => hk.2) (.slice Ao75 t509.length co75)) (fun _ hk => ⟨hk.1.1.1, ⟨hk.1.1.2.1, ⟨hk.1.1.2.2.1, hk.1.1.2.2.2.1⟩⟩⟩), by repeat (first | (with_reducible first | exact HI0.out | apply IsS76.alloc | apply IsS76.drewN | apply IsS76.drew | apply IsS76.set_1 | apply IsS76.set_2 | refine IsS76.far ?_ NB0_435.out _ | refine IsS76.far ?_ NB0_480.out _) | exact HI0.out), by repeat (first | (with_reducible first | exact HB.out | apply below_alloc | apply pw_below_drewN | apply below_drew1 | refine below_set ?_ (IsS76.ge HI0.out) | refine below_set ?_ GE435.out | refine below_set ?_ GE480.out) | exact HB.out), by repeat (first | (with_reducible first | exact HK.out | apply KeepBut.set_ | apply keep_drewN | apply keep_drew | apply keep_alloc | refine keep_far ?_ GW435.out _ | refine keep_far ?_ GW480.out _) | exact HK.out)⟩
       ·replace c71 := Bool.eq_false_iff.mpr c71
        subst c71
        replace H := in_ H
        simp only [Option.some.injEq, Prod.mk.injEq] at H
        obtain ⟨rfl, rfl, rfl, rfl, rfl, rfl, rfl, rfl, rfl, rfl, rfl, rfl, rfl⟩ := H
        go_wp2_with (first | ((with_reducible refine gate_callee (f := 57) rfl ?_); refine goesL_ (some 62) rfl rfl Tryd.func57 (by kernel_rfl) rfl #[.pointer (some ⟨g, 0, none⟩), .int .i64 3] rfl gl_ ?_; (with_reducible refine (spec_l01Once.calls g s0_0 x1001_60 x1002_60 3 false t507 t508 w0 _ ?side1 ?side2 A70.out).mono ?_); (case side1 => repeat (first | (with_reducible first | exact HI0.out | apply IsS76.alloc | apply IsS76.drewN | apply IsS76.drew | apply IsS76.set_1 | apply IsS76.set_2 | refine IsS76.far ?_ NB0_435.out _ | refine IsS76.far ?_ NB0_480.out _) | exact HI0.out)); (case side2 => repeat (first | (with_reducible first | exact HB.out | apply below_alloc | apply pw_below_drewN | apply below_drew1 | refine below_set ?_ (IsS76.ge HI0.out) | refine below_set ?_ GE435.out | refine below_set ?_ GE480.out) | exact HB.out)); rintro e w82 ⟨rfl, hi, hb, hk⟩; refine ⟨_, rfl, ?_⟩; replace HO_481005 := Aside0.mk (Kd.R_mono (Kd.R_keep (IsS76.apart (show IsS76 w0 _ g s0_0 x1001_60 x1002_60 from by repeat (first | (with_reducible first | exact HI0.out | apply IsS76.alloc | apply IsS76.drewN | apply IsS76.drew | apply IsS76.set_1 | apply IsS76.set_2 | refine IsS76.far ?_ NB0_435.out _ | refine IsS76.far ?_ NB0_480.out _) | exact HI0.out)) (ra_ HO_481005) (by decide)) hk (fun _ h => h.2)) (fun _ h => h.1)); replace HO_481008 := Aside0.mk (Kd.R_mono (Kd.R_keep (IsS76.apart (show IsS76 w0 _ g s0_0 x1001_60 x1002_60 from by repeat (first | (with_reducible first | exact HI0.out | apply IsS76.alloc | apply IsS76.drewN | apply IsS76.drew | apply IsS76.set_1 | apply IsS76.set_2 | refine IsS76.far ?_ NB0_435.out _ | refine IsS76.far ?_ NB0_480.out _) | exact HI0.out)) (ra_ HO_481008) (by decide)) hk (fun _ h => h.2)) (fun _ h => h.1)); replace HO_481009 := Aside0.mk (Kd.R_mono (Kd.R_keep (IsS76.apart (show IsS76 w0 _ g s0_0 x1001_60 x1002_60 from by repeat (first | (with_reducible first | exact HI0.out | apply IsS76.alloc | apply IsS76.drewN | apply IsS76.drew | apply IsS76.set_1 | apply IsS76.set_2 | refine IsS76.far ?_ NB0_435.out _ | refine IsS76.far ?_ NB0_480.out _) | exact HI0.out)) (ra_ HO_481009) (by decide)) hk (fun _ h => h.2)) (fun _ h => h.1)); replace HO_481010 := Aside0.mk (Kd.N_mono (Kd.N_keep (Kd.N_mono (ok := fun k_ => (((w.heap.size ≤ k_)) ∧ (some k_ ≠ (u481005 : Value).ownBlock ∧ (some k_ ≠ (.slice Ao40 t483.length co40 : Value).ownBlock ∧ (some k_ ≠ (.slice Ao41 t486.length co41 : Value).ownBlock ∧ (k_ ≠ gb435 ∧ (k_ ≠ gb480 ∧ k_ ≠ g))))))) (by (with_reducible repeat (first | apply Kd.N_alloc | apply Kd.N_drewN | apply Kd.N_drew)); exact HO_481010.out) (fun k_ hk_ => (⟨hk_, hk_.2.2.2.2.2.2⟩ : _ ∧ k_ ≠ g))) hk (fun _ h => h.2)) (fun _ h => h.1)); replace BK435 := Aside0.mk (KeepBut.blk hk (g' := gb435) (o := .cells #[.string (⟨#[]⟩ : ByteArray), .int .i64 0, .int .i64 0, .int .i64 0, .int .i64 0, .slice none 0 0, .int .i64 0, .int .i64 0, .slice none 0 0, .slice none 0 0, .slice none 0 0] 29 (0, 0)) (by (with_reducible repeat (first | refine blk_drewN ?_ _ | refine blk_drew ?_ | refine blk_alloc ?_ _)); exact BK435.out) NB435_0.out (by simp)); replace BK480 := Aside0.mk (KeepBut.blk hk (g' := gb480) (o := .cells #[.string t460, .int .i64 t461, .int .i64 x481002_60, .int .i64 t463, .int .i64 t464, u481005, .int .i64 t481, .int .i64 t482, .slice Ao40 t483.length co40, .slice Ao41 t486.length co41, .slice Ao37 t476.length co37] 29 (0, 0)) (by (with_reducible repeat (first | refine blk_drewN ?_ _ | refine blk_drew ?_ | refine blk_alloc ?_ _)); exact BK480.out) NB480_0.out (by simp)); replace HK := Aside0.mk (KeepBut.trans (by repeat (first | (with_reducible first | exact HK.out | apply KeepBut.set_ | apply keep_drewN | apply keep_drew | apply keep_alloc | refine keep_far ?_ GW435.out _ | refine keep_far ?_ GW480.out _) | exact HK.out)) hk (.inl rfl)); replace HB := Aside0.mk (hb); replace HI0 := Aside0.mk (hi); (try clear hb); (try clear hb2); (try clear hk); (try clear hi); have hnb83 := NB480_435.out; have hnc83 := NB435_480.out; have hnb84 := NB480_0.out; have hnc84 := NB0_480.out; obtain ⟨hcz85_0, hcz85_1, hcz85_2, hcz85_3, hcz85_4, hcz85_5, hcz85_6, hcz85_7, hcz85_8, hcz85_9, hcz85_10, hfz85_0, hfz85_1, hfz85_2, hfz85_3, hfz85_4, hfz85_5, hfz85_6, hfz85_7, hfz85_8, hfz85_9, hfz85_10⟩ := bx11_ BK480; have hnb86 := NB435_0.out; have hnc86 := NB0_435.out; obtain ⟨hcz87_0, hcz87_1, hcz87_2, hcz87_3, hcz87_4, hcz87_5, hcz87_6, hcz87_7, hcz87_8, hcz87_9, hcz87_10, hfz87_0, hfz87_1, hfz87_2, hfz87_3, hfz87_4, hfz87_5, hfz87_6, hfz87_7, hfz87_8, hfz87_9, hfz87_10⟩ := bx11_ BK435; obtain ⟨Ao88, co88, eo88⟩ := Kd.R_slice HO_481005.out; subst eo88))
        refine bodyPost_ret (results_cell_row rfl _ _ gb435 29 #[.string t460, .int .i64 t461, .int .i64 x481002_60, .int .i64 t463, .int .i64 t464, .slice Ao88 x481005_12.length co88, .int .i64 t481, .int .i64 t482, .slice Ao40 t483.length co40, .slice Ao41 t486.length co41, .slice Ao37 t476.length co37] (0, 0) _ rfl (by (with_reducible repeat (first | refine blk_drewN ?_ _ | refine blk_drew ?_ | refine blk_alloc ?_ _)); apply bq11_10_9_8_7_6_5_4_3_2_1_0_; (with_reducible repeat (first | refine blk_drewN ?_ _ | refine blk_drew ?_ | refine blk_alloc ?_ _)); exact BK435.out) Tryd.underlying29 rfl (by kernel_rfl)) rfl ?_
        exact ⟨_, _, _, _, by first | rfl | (simp [errW_none, errW_some] <;> rfl) | (simp [*, errW_none, errW_some] <;> rfl), by (with_reducible repeat (first | apply Kd.R_alloc | apply Kd.R_drewN | apply Kd.R_drew)); exact Kd.R_mono (Kd.R_far (p := ⟨gb435, 10, none⟩) (Kd.R_far (p := ⟨gb435, 9, none⟩) (Kd.R_far (p := ⟨gb435, 8, none⟩) (Kd.R_far (p := ⟨gb435, 7, none⟩) (Kd.R_far (p := ⟨gb435, 6, none⟩) (Kd.R_far (p := ⟨gb435, 5, none⟩) (Kd.R_far (p := ⟨gb435, 4, none⟩) (Kd.R_far (p := ⟨gb435, 3, none⟩) (Kd.R_far (p := ⟨gb435, 2, none⟩) (Kd.R_far (p := ⟨gb435, 1, none⟩) (Kd.R_far (p := ⟨gb435, 0, none⟩) (Kd.R_types HO_481005.out BK435.out (by decide)) (fun _ hk => hk.2) (.string t460)) (fun _ hk => hk.2) (.int .i64 t461)) (fun _ hk => hk.2) (.int .i64 x481002_60)) (fun _ hk => hk.2) (.int .i64 t463)) (fun _ hk => hk.2) (.int .i64 t464)) (fun _ hk => hk.2) (.slice Ao88 x481005_12.length co88)) (fun _ hk => hk.2) (.int .i64 t481)) (fun _ hk => hk.2) (.int .i64 t482)) (fun _ hk => hk.2) (.slice Ao40 t483.length co40)) (fun _ hk => hk.2) (.slice Ao41 t486.length co41)) (fun _ hk => hk.2) (.slice Ao37 t476.length co37)) (fun _ hk => hk.1), by (with_reducible repeat (first | apply Kd.R_alloc | apply Kd.R_drewN | apply Kd.R_drew)); exact Kd.R_mono (Kd.R_far (p := ⟨gb435, 10, none⟩) (Kd.R_far (p := ⟨gb435, 9, none⟩) (Kd.R_far (p := ⟨gb435, 8, none⟩) (Kd.R_far (p := ⟨gb435, 7, none⟩) (Kd.R_far (p := ⟨gb435, 6, none⟩) (Kd.R_far (p := ⟨gb435, 5, none⟩) (Kd.R_far (p := ⟨gb435, 4, none⟩) (Kd.R_far (p := ⟨gb435, 3, none⟩) (Kd.R_far (p := ⟨gb435, 2, none⟩) (Kd.R_far (p := ⟨gb435, 1, none⟩) (Kd.R_far (p := ⟨gb435, 0, none⟩) (Kd.R_types HO_481008.out BK435.out (by decide)) (fun _ hk => hk.2) (.string t460)) (fun _ hk => hk.2) (.int .i64 t461)) (fun _ hk => hk.2) (.int .i64 x481002_60)) (fun _ hk => hk.2) (.int .i64 t463)) (fun _ hk => hk.2) (.int .i64 t464)) (fun _ hk => hk.2) (.slice Ao88 x481005_12.length co88)) (fun _ hk => hk.2) (.int .i64 t481)) (fun _ hk => hk.2) (.int .i64 t482)) (fun _ hk => hk.2) (.slice Ao40 t483.length co40)) (fun _ hk => hk.2) (.slice Ao41 t486.length co41)) (fun _ hk => hk.2) (.slice Ao37 t476.length co37)) (fun _ hk => ⟨hk.1.1, hk.1.2⟩), by (with_reducible repeat (first | apply Kd.R_alloc | apply Kd.R_drewN | apply Kd.R_drew)); exact Kd.R_mono (Kd.R_far (p := ⟨gb435, 10, none⟩) (Kd.R_far (p := ⟨gb435, 9, none⟩) (Kd.R_far (p := ⟨gb435, 8, none⟩) (Kd.R_far (p := ⟨gb435, 7, none⟩) (Kd.R_far (p := ⟨gb435, 6, none⟩) (Kd.R_far (p := ⟨gb435, 5, none⟩) (Kd.R_far (p := ⟨gb435, 4, none⟩) (Kd.R_far (p := ⟨gb435, 3, none⟩) (Kd.R_far (p := ⟨gb435, 2, none⟩) (Kd.R_far (p := ⟨gb435, 1, none⟩) (Kd.R_far (p := ⟨gb435, 0, none⟩) (Kd.R_types HO_481009.out BK435.out (by decide)) (fun _ hk => hk.2) (.string t460)) (fun _ hk => hk.2) (.int .i64 t461)) (fun _ hk => hk.2) (.int .i64 x481002_60)) (fun _ hk => hk.2) (.int .i64 t463)) (fun _ hk => hk.2) (.int .i64 t464)) (fun _ hk => hk.2) (.slice Ao88 x481005_12.length co88)) (fun _ hk => hk.2) (.int .i64 t481)) (fun _ hk => hk.2) (.int .i64 t482)) (fun _ hk => hk.2) (.slice Ao40 t483.length co40)) (fun _ hk => hk.2) (.slice Ao41 t486.length co41)) (fun _ hk => hk.2) (.slice Ao37 t476.length co37)) (fun _ hk => ⟨hk.1.1, hk.1.2⟩), by (with_reducible repeat (first | apply Kd.N_alloc | apply Kd.N_drewN | apply Kd.N_drew)); exact Kd.N_mono (Kd.N_far (p := ⟨gb435, 10, none⟩) (Kd.N_far (p := ⟨gb435, 9, none⟩) (Kd.N_far (p := ⟨gb435, 8, none⟩) (Kd.N_far (p := ⟨gb435, 7, none⟩) (Kd.N_far (p := ⟨gb435, 6, none⟩) (Kd.N_far (p := ⟨gb435, 5, none⟩) (Kd.N_far (p := ⟨gb435, 4, none⟩) (Kd.N_far (p := ⟨gb435, 3, none⟩) (Kd.N_far (p := ⟨gb435, 2, none⟩) (Kd.N_far (p := ⟨gb435, 1, none⟩) (Kd.N_far (p := ⟨gb435, 0, none⟩) (Kd.N_mono HO_481010.out (fun k_ hk => (⟨hk, hk.2.2.2.2.1⟩ : _ ∧ k_ ≠ gb435))) (fun _ hk => hk.2) (.string t460)) (fun _ hk => hk.2) (.int .i64 t461)) (fun _ hk => hk.2) (.int .i64 x481002_60)) (fun _ hk => hk.2) (.int .i64 t463)) (fun _ hk => hk.2) (.int .i64 t464)) (fun _ hk => hk.2) (.slice Ao88 x481005_12.length co88)) (fun _ hk => hk.2) (.int .i64 t481)) (fun _ hk => hk.2) (.int .i64 t482)) (fun _ hk => hk.2) (.slice Ao40 t483.length co40)) (fun _ hk => hk.2) (.slice Ao41 t486.length co41)) (fun _ hk => hk.2) (.slice Ao37 t476.length co37)) (fun _ hk => ⟨hk.1.1, ⟨hk.1.2.1, ⟨hk.1.2.2.1, hk.1.2.2.2.1⟩⟩⟩), by repeat (first | (with_reducible first | exact HI0.out | apply IsS76.alloc | apply IsS76.drewN | apply IsS76.drew | apply IsS76.set_1 | apply IsS76.set_2 | refine IsS76.far ?_ NB0_435.out _ | refine IsS76.far ?_ NB0_480.out _) | exact HI0.out), by repeat (first | (with_reducible first | exact HB.out | apply below_alloc | apply pw_below_drewN | apply below_drew1 | refine below_set ?_ (IsS76.ge HI0.out) | refine below_set ?_ GE435.out | refine below_set ?_ GE480.out) | exact HB.out), by repeat (first | (with_reducible first | exact HK.out | apply KeepBut.set_ | apply keep_drewN | apply keep_drew | apply keep_alloc | refine keep_far ?_ GW435.out _ | refine keep_far ?_ GW480.out _) | exact HK.out)⟩
end Go.Proofs.YtbjpfknmkpnhjaaDoor.QFnMoney
