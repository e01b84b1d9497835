-- by my own printer (myprint.py, over the kit's print.py)
import Derived.Test.YtbllcjgccpdbkaaQFnExactNameOpx0
namespace Go.Proofs.Ytbllcjgccpdbkaa.QFnExactNameOp
open Go.RowKit Go.Proofs.YtbllcjgccpdbkaaW.PrintWords Go.Proofs.YtbllcjgccpdbkaaW.PrintLast Go.Proofs.YtbllcjgccpdbkaaW.PrintMore
attribute [local go_sem] max2_int min2_int max_two min_two max_three min_three max_four min_four   -- for this text's walks alone
set_option linter.unusedVariables false
set_option linter.unusedSimpArgs false

attribute [local go_sem] my_geq my_leq my_gtr
/-! ### spec_l01In: function 50 -/
def spec_l01In.f (a0 : Int) (a1 : Int) (a2 : Int) : Option (Bool) := if a0 ≥ a1 then (some (decide (a0 ≤ a2))) else (some false)
set_option maxHeartbeats 8000000 in
set_option maxRecDepth 100000 in
theorem spec_l01In.calls (a0 : Int) (a1 : Int) (a2 : Int) (r : Bool) (w : World) (h : spec_l01In.f a0 a1 a2 = some r) :
    Calls Try.prog 50 #[.int .i64 a0, .int .i64 a1, .int .i64 a2] w fun e w' => e = .returned (.bool r) ∧ Drawn0 w w' := by
  have H : (if a0 ≥ a1 then (some (decide (a0 ≤ a2))) else (some false)) = some r := h
  clear h
  by_cases c4 : a0 ≥ a1
  · rw [if_pos c4] at H
    have c4b0 : decide (a1 ≤ a0) = true := decide_eq_true c4
    clear c4
    obtain rfl := Option.some.inj H
    go_enter Try.func50, Try.ntmps50
    go_wp2
    go_ret
    exact ⟨by first | rfl | (simp; done) | (simp [*]; done) | (simp [my_isEmpty, my_w256, Go.Proofs.YtbllcjgccpdbkaaW.PrintLast.i64_w, Go.Proofs.YtbllcjgccpdbkaaW.PrintLast.i32_w, Go.IntKind.wrap_u8, Go.IntKind.wrap_u32]; done), by repeat (first | exact Drawn0.refl _ | apply Drawn0.step)⟩
  · rw [if_neg c4] at H
    have c4b0 : decide (a1 ≤ a0) = false := decide_eq_false c4
    clear c4
    obtain rfl := Option.some.inj H
    go_enter Try.func50, Try.ntmps50
    go_wp2
    go_ret
    exact ⟨by first | rfl | (simp; done) | (simp [*]; done) | (simp [my_isEmpty, my_w256, Go.Proofs.YtbllcjgccpdbkaaW.PrintLast.i64_w, Go.Proofs.YtbllcjgccpdbkaaW.PrintLast.i32_w, Go.IntKind.wrap_u8, Go.IntKind.wrap_u32]; done), by repeat (first | exact Drawn0.refl _ | apply Drawn0.step)⟩

/-! ### spec_l11Op: function 52 -/
def spec_l11Op.f (a0 : Int) : Option (Bool) := (spec_l01In.f a0 1 8).bind fun t101 => (some t101)
set_option maxHeartbeats 8000000 in
set_option maxRecDepth 100000 in
theorem spec_l11Op.calls (a0 : Int) (r : Bool) (w : World) (h : spec_l11Op.f a0 = some r) :
    Calls Try.prog 52 #[.int .i64 a0] w fun e w' => e = .returned (.bool r) ∧ Drawn0 w w' := by
  have H : ((spec_l01In.f a0 1 8).bind fun t101 => (some t101)) = some r := h
  clear h
  replace H := Option.bind_eq_some_iff.mp H
  obtain ⟨t101, A20, H⟩ := H
  replace H : (some t101) = some r := H
  have A2 := Aside0.mk A20
  clear A20
  obtain rfl := Option.some.inj H
  go_enter Try.func52, Try.ntmps52
  go_wp2_with (first | ((with_reducible refine gate_callee (f := 50) rfl ?_); refine goesL_ (some 4) rfl rfl Try.func50 (by kernel_rfl) rfl #[.int .i64 a0, .int .i64 1, .int .i64 8] rfl gl_ ?_; (with_reducible refine (spec_l01In.calls a0 1 8 t101 _ A2.out).mono ?_); rintro e w' ⟨rfl, ⟨nd, rfl⟩⟩; refine ⟨_, rfl, ?_⟩))
  go_ret
  exact ⟨by first | rfl | (simp; done) | (simp [*]; done) | (simp [my_isEmpty, my_w256, Go.Proofs.YtbllcjgccpdbkaaW.PrintLast.i64_w, Go.Proofs.YtbllcjgccpdbkaaW.PrintLast.i32_w, Go.IntKind.wrap_u8, Go.IntKind.wrap_u32]; done), by repeat (first | exact Drawn0.refl _ | apply Drawn0.step)⟩

/-! ### spec_OpName: function 19 -/
def spec_OpName.f (a0 : Int) : Option (ByteArray) := (spec_l11Op.f a0).bind fun t102 => (if t102 = true then ((some (([(⟨#[]⟩ : ByteArray), (⟨#[97, 117, 116, 104]⟩ : ByteArray), (⟨#[109, 111, 114, 101]⟩ : ByteArray), (⟨#[112, 97, 114, 116]⟩ : ByteArray), (⟨#[102, 105, 110, 97, 108]⟩ : ByteArray), (⟨#[102, 114, 101, 101]⟩ : ByteArray), (⟨#[109, 111, 118, 101]⟩ : ByteArray), (⟨#[97, 115, 107]⟩ : ByteArray), (⟨#[115, 119, 101, 101, 112]⟩ : ByteArray)] : List ByteArray) : List ByteArray)).bind fun y103 => (if 0 ≤ a0 then (if a0 < (y103.length : Int) then (some (rdOf ByteArray.empty y103 a0)) else (none)) else (none))) else (some (⟨#[]⟩ : ByteArray)))
set_option maxHeartbeats 8000000 in
set_option maxRecDepth 100000 in
theorem spec_OpName.calls (a0 : Int) (r : ByteArray) (w : World) (h : spec_OpName.f a0 = some r) :
    Calls Try.prog 19 #[.int .i64 a0] w fun e w' => e = .returned (.string r) ∧ Below w.heap.size w w' := by
  have HB := Aside0.mk (Below.refl w.heap.size w)
  have H : ((spec_l11Op.f a0).bind fun t102 => (if t102 = true then ((some (([(⟨#[]⟩ : ByteArray), (⟨#[97, 117, 116, 104]⟩ : ByteArray), (⟨#[109, 111, 114, 101]⟩ : ByteArray), (⟨#[112, 97, 114, 116]⟩ : ByteArray), (⟨#[102, 105, 110, 97, 108]⟩ : ByteArray), (⟨#[102, 114, 101, 101]⟩ : ByteArray), (⟨#[109, 111, 118, 101]⟩ : ByteArray), (⟨#[97, 115, 107]⟩ : ByteArray), (⟨#[115, 119, 101, 101, 112]⟩ : ByteArray)] : List ByteArray) : List ByteArray)).bind fun y103 => (if 0 ≤ a0 then (if a0 < (y103.length : Int) then (some (rdOf ByteArray.empty y103 a0)) else (none)) else (none))) else (some (⟨#[]⟩ : ByteArray)))) = some r := h
  clear h
  replace H := Option.bind_eq_some_iff.mp H
  obtain ⟨t102, A20, H⟩ := H
  replace H : (if t102 = true then ((some (([(⟨#[]⟩ : ByteArray), (⟨#[97, 117, 116, 104]⟩ : ByteArray), (⟨#[109, 111, 114, 101]⟩ : ByteArray), (⟨#[112, 97, 114, 116]⟩ : ByteArray), (⟨#[102, 105, 110, 97, 108]⟩ : ByteArray), (⟨#[102, 114, 101, 101]⟩ : ByteArray), (⟨#[109, 111, 118, 101]⟩ : ByteArray), (⟨#[97, 115, 107]⟩ : ByteArray), (⟨#[115, 119, 101, 101, 112]⟩ : ByteArray)] : List ByteArray) : List ByteArray)).bind fun y103 => (if 0 ≤ a0 then (if a0 < (y103.length : Int) then (some (rdOf ByteArray.empty y103 a0)) else (none)) else (none))) else (some (⟨#[]⟩ : ByteArray))) = some r := H
  have A2 := Aside0.mk A20
  clear A20
  by_cases c3 : t102 = true
  · subst c3
    have H1 : ((some (([(⟨#[]⟩ : ByteArray), (⟨#[97, 117, 116, 104]⟩ : ByteArray), (⟨#[109, 111, 114, 101]⟩ : ByteArray), (⟨#[112, 97, 114, 116]⟩ : ByteArray), (⟨#[102, 105, 110, 97, 108]⟩ : ByteArray), (⟨#[102, 114, 101, 101]⟩ : ByteArray), (⟨#[109, 111, 118, 101]⟩ : ByteArray), (⟨#[97, 115, 107]⟩ : ByteArray), (⟨#[115, 119, 101, 101, 112]⟩ : ByteArray)] : List ByteArray) : List ByteArray)).bind fun y103 => (if 0 ≤ a0 then (if a0 < (y103.length : Int) then (some (rdOf ByteArray.empty y103 a0)) else (none)) else (none))) = some r := by rw [if_pos rfl] at H; exact H
    clear H
    have H := H1
    clear H1
    obtain ⟨y103, hy103⟩ : ∃ y_ : List ByteArray, y_ = (([(⟨#[]⟩ : ByteArray), (⟨#[97, 117, 116, 104]⟩ : ByteArray), (⟨#[109, 111, 114, 101]⟩ : ByteArray), (⟨#[112, 97, 114, 116]⟩ : ByteArray), (⟨#[102, 105, 110, 97, 108]⟩ : ByteArray), (⟨#[102, 114, 101, 101]⟩ : ByteArray), (⟨#[109, 111, 118, 101]⟩ : ByteArray), (⟨#[97, 115, 107]⟩ : ByteArray), (⟨#[115, 119, 101, 101, 112]⟩ : ByteArray)] : List ByteArray)) := ⟨_, rfl⟩
    replace H : (if 0 ≤ a0 then (if a0 < (y103.length : Int) then (some (rdOf ByteArray.empty y103 a0)) else (none)) else (none)) = some r := by first | (rw [hy103]; with_reducible exact H) | (have H2_ := (Option.bind_some _ _).symm.trans H; rw [hy103]; with_reducible exact H2_) | (have H2_ := (Option.bind_some _ _).symm.trans H; with_reducible exact H2_) | with_reducible exact H | (rw [hy103]; exact H) | exact H
    have Ny103 := Aside0.mk hy103
    clear hy103
    by_cases c4 : 0 ≤ a0
    · rw [if_pos c4] at H
      have c4b0 : decide (0 ≤ a0) = true := decide_eq_true c4
      clear c4
      by_cases c5 : a0 < (y103.length : Int)
      · rw [if_pos c5] at H
        have c5b0 : decide (a0 < (y103.length : Int)) = true := decide_eq_true c5
        clear c5
        obtain rfl := Option.some.inj H
        go_enter Try.func19, Try.ntmps19
        go_wp2_with (first | ((with_reducible refine gate_callee (f := 52) rfl ?_); refine goesL_ (some 4) rfl rfl Try.func52 (by kernel_rfl) rfl #[.int .i64 a0] rfl gl_ ?_; (with_reducible refine (spec_l11Op.calls a0 true _ A2.out).mono ?_); rintro e w' ⟨rfl, ⟨nd, rfl⟩⟩; refine ⟨_, rfl, ?_⟩) | ((with_reducible refine gate_dst (N := 6) rfl ?_); refine Kd.R_lit Kd.string _ 9 ?hg (N := 6) ?hd (xs := ([(⟨#[]⟩ : ByteArray), (⟨#[97, 117, 116, 104]⟩ : ByteArray), (⟨#[109, 111, 114, 101]⟩ : ByteArray), (⟨#[112, 97, 114, 116]⟩ : ByteArray), (⟨#[102, 105, 110, 97, 108]⟩ : ByteArray), (⟨#[102, 114, 101, 101]⟩ : ByteArray), (⟨#[109, 111, 118, 101]⟩ : ByteArray), (⟨#[97, 115, 107]⟩ : ByteArray), (⟨#[115, 119, 101, 101, 112]⟩ : ByteArray)] : List ByteArray)) (inner := [.string (⟨#[]⟩ : ByteArray), .string (⟨#[97, 117, 116, 104]⟩ : ByteArray), .string (⟨#[109, 111, 114, 101]⟩ : ByteArray), .string (⟨#[112, 97, 114, 116]⟩ : ByteArray), .string (⟨#[102, 105, 110, 97, 108]⟩ : ByteArray), .string (⟨#[102, 114, 101, 101]⟩ : ByteArray), .string (⟨#[109, 111, 118, 101]⟩ : ByteArray), .string (⟨#[97, 115, 107]⟩ : ByteArray), .string (⟨#[115, 119, 101, 101, 112]⟩ : ByteArray)]) (ok := fun _ => True) (okp := fun _ => True) ?hr ?hp (fun _ hk => hk) trivial (Below.refl _ _) (Nat.le_refl _) (by simp) ?_; (case hd => rfl); (case hg => rfl); (case hr => first | (go_simp; done) | (go_simp; rfl)); (case hp => exact (Reps.one (show Kd.M Kd.string _ _ _ (⟨#[]⟩ : ByteArray) [.string (⟨#[]⟩ : ByteArray)] from rfl) (Reps.one (show Kd.M Kd.string _ _ _ (⟨#[97, 117, 116, 104]⟩ : ByteArray) [.string (⟨#[97, 117, 116, 104]⟩ : ByteArray)] from rfl) (Reps.one (show Kd.M Kd.string _ _ _ (⟨#[109, 111, 114, 101]⟩ : ByteArray) [.string (⟨#[109, 111, 114, 101]⟩ : ByteArray)] from rfl) (Reps.one (show Kd.M Kd.string _ _ _ (⟨#[112, 97, 114, 116]⟩ : ByteArray) [.string (⟨#[112, 97, 114, 116]⟩ : ByteArray)] from rfl) (Reps.one (show Kd.M Kd.string _ _ _ (⟨#[102, 105, 110, 97, 108]⟩ : ByteArray) [.string (⟨#[102, 105, 110, 97, 108]⟩ : ByteArray)] from rfl) (Reps.one (show Kd.M Kd.string _ _ _ (⟨#[102, 114, 101, 101]⟩ : ByteArray) [.string (⟨#[102, 114, 101, 101]⟩ : ByteArray)] from rfl) (Reps.one (show Kd.M Kd.string _ _ _ (⟨#[109, 111, 118, 101]⟩ : ByteArray) [.string (⟨#[109, 111, 118, 101]⟩ : ByteArray)] from rfl) (Reps.one (show Kd.M Kd.string _ _ _ (⟨#[97, 115, 107]⟩ : ByteArray) [.string (⟨#[97, 115, 107]⟩ : ByteArray)] from rfl) (Reps.one (show Kd.M Kd.string _ _ _ (⟨#[115, 119, 101, 101, 112]⟩ : ByteArray) [.string (⟨#[115, 119, 101, 101, 112]⟩ : ByteArray)] from rfl) (Reps.none _ _))))))))))); intro v104 w6 ho7 hb hg_ hnew_; clear hg_ hnew_; (first | rw [← Ny103.out] at ho7 | (simp only [Int.reduceToNat] at ho7; rw [← Ny103.out] at ho7)); have n0_ := Aside0.mk (Kd.R_lower ho7 (below_size bl_)); have n1_ := Aside0.mk (below_step bl_ hb); clear HB; have HO105 := n0_; have HB := n1_; clear n0_ n1_; clear hb ho7; obtain ⟨Ao8, co8, eo8⟩ := Kd.R_slice HO105.out; subst eo8; have p106 : 0 ≤ (a0 : Int) := of_decide_eq_true (by first | (with_reducible assumption) | assumption); have q106 : a0 < (y103.length : Int) := of_decide_eq_true (by first | (with_reducible assumption) | assumption); obtain ⟨ad106, e106, hx106_0⟩ := Kd.at_string (Kd.R_reads' HO105.out).2.2 a0 p106 q106; cases e106; replace p106 := eq_true p106; replace q106 := eq_true q106))
        go_ret
        exact ⟨by first | rfl | (simp [errW_none, errW_some] <;> rfl) | (simp [*, errW_none, errW_some] <;> rfl), bl_⟩
      · rw [if_neg c5] at H
        exact absurd H (by simp)
    · rw [if_neg c4] at H
      exact absurd H (by simp)
  · replace c3 := Bool.eq_false_iff.mpr c3
    subst c3
    have H1 : (some (⟨#[]⟩ : ByteArray)) = some r := by rw [if_neg (show ¬ (false = true) by decide)] at H; exact H
    clear H
    have H := H1
    clear H1
    obtain rfl := Option.some.inj H
    go_enter Try.func19, Try.ntmps19
    go_wp2_with (first | ((with_reducible refine gate_callee (f := 52) rfl ?_); refine goesL_ (some 4) rfl rfl Try.func52 (by kernel_rfl) rfl #[.int .i64 a0] rfl gl_ ?_; (with_reducible refine (spec_l11Op.calls a0 false _ A2.out).mono ?_); rintro e w' ⟨rfl, ⟨nd, rfl⟩⟩; refine ⟨_, rfl, ?_⟩))
    go_ret
    exact ⟨by first | rfl | (simp [errW_none, errW_some] <;> rfl) | (simp [*, errW_none, errW_some] <;> rfl), bl_⟩

/-! ### spec_NameOp: function 27 -/
def spec_NameOp.l0 : Nat → ByteArray → Int → Option (Int)
  | 0, _, _ => none
  | k + 1, x0, x3 => if x3 ≤ 8 then ((spec_OpName.f x3).bind fun t107 => (if t107.toList = x0.toList then (some x3) else (spec_NameOp.l0 k x0 (wrap64 (x3 + 1))))) else (some 0)
def spec_NameOp.f (k : Nat) (a0 : ByteArray) : Option (Int) := spec_NameOp.l0 k a0 1
theorem spec_NameOp.mono_l : ∀ k, (∀ y0 y1, LeO (spec_NameOp.l0 k y0 y1) (spec_NameOp.l0 (k + 1) y0 y1))
  | 0 => fun _ _ r h => by simp [spec_NameOp.l0] at h
  | k + 1 => by
    have ih0 := spec_NameOp.mono_l k
    · intro y0 y1
      unfold spec_NameOp.l0
      repeat' first
      | (with_reducible exact ih0 _ _)
      | (with_reducible exact LeO.refl _)
      | (with_reducible exact LeO.none _)
      | (with_reducible refine LeO.ite ?_ ?_)
      | (with_reducible refine LeO.bind ?_ (fun _ => ?_))
      | exact ih0 _ _
      | exact LeO.none _
      | refine LeO.ite ?_ ?_
      | refine LeO.bind ?_ (fun _ => ?_)
theorem spec_NameOp.mono : ∀ a0 k, LeO (spec_NameOp.f k a0) (spec_NameOp.f (k + 1) a0) := by
  intro a0 k
  have ih0 := spec_NameOp.mono_l k
  unfold spec_NameOp.f
  repeat' first
      | (with_reducible exact ih0 _ _)
      | (with_reducible exact LeO.refl _)
      | (with_reducible exact LeO.none _)
      | (with_reducible refine LeO.ite ?_ ?_)
      | (with_reducible refine LeO.bind ?_ (fun _ => ?_))
      | exact ih0 _ _
      | exact LeO.none _
      | refine LeO.ite ?_ ?_
      | refine LeO.bind ?_ (fun _ => ?_)
set_option maxHeartbeats 8000000 in
set_option maxRecDepth 100000 in
theorem spec_NameOp.calls (k : Nat) (a0 : ByteArray) (r : Int) (w : World) (h : spec_NameOp.f k a0 = some r) :
    Calls Try.prog 27 #[.string a0] w fun e w' => e = .returned (.int .i64 r) ∧ Below w.heap.size w w' := by
  have HB := Aside0.mk (Below.refl w.heap.size w)
  have H : (spec_NameOp.l0 k a0 1) = some r := h
  clear h
  have H' := Aside0.mk H
  clear H
  go_enter Try.func27, Try.ntmps27
  go_wp2
  go_loopg [3] k (fun kq v3 w' => ∃ (x3_1 : Int), v3 = .int .i64 x3_1 ∧ Aside0 (spec_NameOp.l0 kq a0 x3_1 = some r) ∧ Aside0 (kq ≤ k) ∧ Aside0 (Below w.heap.size w w'))
  case atStart => exact ⟨(1), sp_, H', ⟨Nat.le_refl _⟩, ⟨bl_⟩⟩
  case round =>
    clear H'
    obtain ⟨x3_1, rfl, HA, HK1, HB⟩ := hrel
    cases gk with
    | zero => exact absurd HA.out (by simp [spec_NameOp.l0])
    | succ k1 =>
      have H := HA.out
      clear HA
      simp only [spec_NameOp.l0] at H
      by_cases c2 : x3_1 ≤ 8
      · rw [if_pos c2] at H
        have c2b0 : decide (x3_1 ≤ 8) = true := decide_eq_true c2
        clear c2
        replace H := Option.bind_eq_some_iff.mp H
        obtain ⟨t107, A30, H⟩ := H
        replace H : (if t107.toList = a0.toList then (some x3_1) else (spec_NameOp.l0 k1 a0 (wrap64 (x3_1 + 1)))) = some r := H
        have A3 := Aside0.mk A30
        clear A30
        by_cases c4 : t107.toList = a0.toList
        · rw [if_pos c4] at H
          have c4b0 : (t107.toList == a0.toList) = true := beq_iff_eq.mpr c4
          have c4b1 : (t107.toList != a0.toList) = false := bne_eq_false_iff_eq.mpr c4
          clear c4
          obtain rfl := Option.some.inj H
          go_wp2_with (first | ((with_reducible refine gate_callee (f := 19) rfl ?_); refine goesL_ (some 9) rfl rfl Try.func19 (by kernel_rfl) rfl #[.int .i64 x3_1] rfl gl_ ?_; (with_reducible refine (spec_OpName.calls x3_1 t107 _ A3.out).mono ?_); rintro e w5 ⟨rfl, hb⟩; refine ⟨_, rfl, ?_⟩; have n0_ := Aside0.mk (below_step bl_ hb); clear HB; have HB := n0_; clear n0_; (try clear hb); (try clear hb2); (try clear hk); (try clear hi)))
          go_ret
          exact ⟨by first | rfl | (simp [errW_none, errW_some] <;> rfl) | (simp [*, errW_none, errW_some] <;> rfl), bl_⟩
        · rw [if_neg c4] at H
          have c4b0 : (t107.toList == a0.toList) = false := beq_eq_false_iff_ne.mpr c4
          have c4b1 : (t107.toList != a0.toList) = true := bne_iff_ne.mpr c4
          have H' := Aside0.mk H
          clear H
          go_wp2_with (first | ((with_reducible refine gate_callee (f := 19) rfl ?_); refine goesL_ (some 9) rfl rfl Try.func19 (by kernel_rfl) rfl #[.int .i64 x3_1] rfl gl_ ?_; (with_reducible refine (spec_OpName.calls x3_1 t107 _ A3.out).mono ?_); rintro e w6 ⟨rfl, hb⟩; refine ⟨_, rfl, ?_⟩; have n0_ := Aside0.mk (below_step bl_ hb); clear HB; have HB := n0_; clear n0_; (try clear hb); (try clear hb2); (try clear hk); (try clear hi)))
          go_roundg k1
          case measure => have := HK1.out; omega
          case rel => exact ⟨(wrap64 (x3_1 + 1)), sp_, H', ⟨by have := HK1.out; omega⟩, ⟨bl_⟩⟩
      · rw [if_neg c2] at H
        have c2b0 : decide (x3_1 ≤ 8) = false := decide_eq_false c2
        clear c2
        obtain rfl := Option.some.inj H
        go_wp2
        go_ret
        exact ⟨by first | rfl | (simp [errW_none, errW_some] <;> rfl) | (simp [*, errW_none, errW_some] <;> rfl), bl_⟩

/-! ### impl_opRows: function 59 -/
def impl_opRows.f  : Option ((List (S63))) := some (([(⟨(⟨#[48, 49, 48, 48]⟩ : ByteArray), (⟨#[48, 48]⟩ : ByteArray), (⟨#[97, 117, 116, 104]⟩ : ByteArray), (([4, 14, 38] : List Int))⟩ : S63), (⟨(⟨#[48, 49, 48, 48]⟩ : ByteArray), (⟨#[48, 50]⟩ : ByteArray), (⟨#[109, 111, 114, 101]⟩ : ByteArray), (([4, 38] : List Int))⟩ : S63), (⟨(⟨#[48, 50, 50, 48]⟩ : ByteArray), (⟨#[48, 49]⟩ : ByteArray), (⟨#[112, 97, 114, 116]⟩ : ByteArray), (([4, 38] : List Int))⟩ : S63), (⟨(⟨#[48, 50, 50, 48]⟩ : ByteArray), (⟨#[48, 48]⟩ : ByteArray), (⟨#[102, 105, 110, 97, 108]⟩ : ByteArray), (([4, 38] : List Int))⟩ : S63), (⟨(⟨#[48, 50, 50, 48]⟩ : ByteArray), (⟨#[50, 48]⟩ : ByteArray), (⟨#[102, 114, 101, 101]⟩ : ByteArray), (([38] : List Int))⟩ : S63), (⟨(⟨#[48, 50, 48, 48]⟩ : ByteArray), (⟨#[52, 48]⟩ : ByteArray), (⟨#[109, 111, 118, 101]⟩ : ByteArray), (([38, 103] : List Int))⟩ : S63), (⟨(⟨#[48, 49, 48, 48]⟩ : ByteArray), (⟨#[51, 49]⟩ : ByteArray), (⟨#[97, 115, 107]⟩ : ByteArray), ([] : List Int)⟩ : S63), (⟨(⟨#[48, 50, 48, 48]⟩ : ByteArray), (⟨#[57, 48]⟩ : ByteArray), (⟨#[115, 119, 101, 101, 112]⟩ : ByteArray), ([] : List Int)⟩ : S63)] : List (S63)))
set_option maxHeartbeats 8000000 in
set_option maxRecDepth 100000 in
theorem impl_opRows.calls  (r : List (S63)) (w : World) (h : impl_opRows.f  = some r) :
    Calls Try.prog 59 #[] w fun e w' => ∃ v0_ : Value, e = .returned (v0_) ∧ Kd.N k63 63 w' w.heap.size (fun k_ => (w.heap.size ≤ k_)) v0_ r ∧ Below w.heap.size w w' := by
  have hu63 := Try.underlying63
  have HB := Aside0.mk (Below.refl w.heap.size w)
  have H : (some (([(⟨(⟨#[48, 49, 48, 48]⟩ : ByteArray), (⟨#[48, 48]⟩ : ByteArray), (⟨#[97, 117, 116, 104]⟩ : ByteArray), (([4, 14, 38] : List Int))⟩ : S63), (⟨(⟨#[48, 49, 48, 48]⟩ : ByteArray), (⟨#[48, 50]⟩ : ByteArray), (⟨#[109, 111, 114, 101]⟩ : ByteArray), (([4, 38] : List Int))⟩ : S63), (⟨(⟨#[48, 50, 50, 48]⟩ : ByteArray), (⟨#[48, 49]⟩ : ByteArray), (⟨#[112, 97, 114, 116]⟩ : ByteArray), (([4, 38] : List Int))⟩ : S63), (⟨(⟨#[48, 50, 50, 48]⟩ : ByteArray), (⟨#[48, 48]⟩ : ByteArray), (⟨#[102, 105, 110, 97, 108]⟩ : ByteArray), (([4, 38] : List Int))⟩ : S63), (⟨(⟨#[48, 50, 50, 48]⟩ : ByteArray), (⟨#[50, 48]⟩ : ByteArray), (⟨#[102, 114, 101, 101]⟩ : ByteArray), (([38] : List Int))⟩ : S63), (⟨(⟨#[48, 50, 48, 48]⟩ : ByteArray), (⟨#[52, 48]⟩ : ByteArray), (⟨#[109, 111, 118, 101]⟩ : ByteArray), (([38, 103] : List Int))⟩ : S63), (⟨(⟨#[48, 49, 48, 48]⟩ : ByteArray), (⟨#[51, 49]⟩ : ByteArray), (⟨#[97, 115, 107]⟩ : ByteArray), ([] : List Int)⟩ : S63), (⟨(⟨#[48, 50, 48, 48]⟩ : ByteArray), (⟨#[57, 48]⟩ : ByteArray), (⟨#[115, 119, 101, 101, 112]⟩ : ByteArray), ([] : List Int)⟩ : S63)] : List (S63)))) = some r := h
  clear h
  obtain ⟨y108, hy108⟩ : ∃ y_ : List Int, y_ = (([4, 14, 38] : List Int)) := ⟨_, rfl⟩
  replace H : (some (([(⟨(⟨#[48, 49, 48, 48]⟩ : ByteArray), (⟨#[48, 48]⟩ : ByteArray), (⟨#[97, 117, 116, 104]⟩ : ByteArray), y108⟩ : S63), (⟨(⟨#[48, 49, 48, 48]⟩ : ByteArray), (⟨#[48, 50]⟩ : ByteArray), (⟨#[109, 111, 114, 101]⟩ : ByteArray), (([4, 38] : List Int))⟩ : S63), (⟨(⟨#[48, 50, 50, 48]⟩ : ByteArray), (⟨#[48, 49]⟩ : ByteArray), (⟨#[112, 97, 114, 116]⟩ : ByteArray), (([4, 38] : List Int))⟩ : S63), (⟨(⟨#[48, 50, 50, 48]⟩ : ByteArray), (⟨#[48, 48]⟩ : ByteArray), (⟨#[102, 105, 110, 97, 108]⟩ : ByteArray), (([4, 38] : List Int))⟩ : S63), (⟨(⟨#[48, 50, 50, 48]⟩ : ByteArray), (⟨#[50, 48]⟩ : ByteArray), (⟨#[102, 114, 101, 101]⟩ : ByteArray), (([38] : List Int))⟩ : S63), (⟨(⟨#[48, 50, 48, 48]⟩ : ByteArray), (⟨#[52, 48]⟩ : ByteArray), (⟨#[109, 111, 118, 101]⟩ : ByteArray), (([38, 103] : List Int))⟩ : S63), (⟨(⟨#[48, 49, 48, 48]⟩ : ByteArray), (⟨#[51, 49]⟩ : ByteArray), (⟨#[97, 115, 107]⟩ : ByteArray), ([] : List Int)⟩ : S63), (⟨(⟨#[48, 50, 48, 48]⟩ : ByteArray), (⟨#[57, 48]⟩ : ByteArray), (⟨#[115, 119, 101, 101, 112]⟩ : ByteArray), ([] : List Int)⟩ : S63)] : List (S63)))) = some r := by first | (rw [hy108]; with_reducible exact H) | (have H2_ := (Option.bind_some _ _).symm.trans H; rw [hy108]; with_reducible exact H2_) | (have H2_ := (Option.bind_some _ _).symm.trans H; with_reducible exact H2_) | with_reducible exact H | (rw [hy108]; exact H) | exact H
  have Ny108 := Aside0.mk hy108
  clear hy108
  obtain ⟨y111, hy111⟩ : ∃ y_ : List Int, y_ = (([4, 38] : List Int)) := ⟨_, rfl⟩
  replace H : (some (([(⟨(⟨#[48, 49, 48, 48]⟩ : ByteArray), (⟨#[48, 48]⟩ : ByteArray), (⟨#[97, 117, 116, 104]⟩ : ByteArray), y108⟩ : S63), (⟨(⟨#[48, 49, 48, 48]⟩ : ByteArray), (⟨#[48, 50]⟩ : ByteArray), (⟨#[109, 111, 114, 101]⟩ : ByteArray), y111⟩ : S63), (⟨(⟨#[48, 50, 50, 48]⟩ : ByteArray), (⟨#[48, 49]⟩ : ByteArray), (⟨#[112, 97, 114, 116]⟩ : ByteArray), (([4, 38] : List Int))⟩ : S63), (⟨(⟨#[48, 50, 50, 48]⟩ : ByteArray), (⟨#[48, 48]⟩ : ByteArray), (⟨#[102, 105, 110, 97, 108]⟩ : ByteArray), (([4, 38] : List Int))⟩ : S63), (⟨(⟨#[48, 50, 50, 48]⟩ : ByteArray), (⟨#[50, 48]⟩ : ByteArray), (⟨#[102, 114, 101, 101]⟩ : ByteArray), (([38] : List Int))⟩ : S63), (⟨(⟨#[48, 50, 48, 48]⟩ : ByteArray), (⟨#[52, 48]⟩ : ByteArray), (⟨#[109, 111, 118, 101]⟩ : ByteArray), (([38, 103] : List Int))⟩ : S63), (⟨(⟨#[48, 49, 48, 48]⟩ : ByteArray), (⟨#[51, 49]⟩ : ByteArray), (⟨#[97, 115, 107]⟩ : ByteArray), ([] : List Int)⟩ : S63), (⟨(⟨#[48, 50, 48, 48]⟩ : ByteArray), (⟨#[57, 48]⟩ : ByteArray), (⟨#[115, 119, 101, 101, 112]⟩ : ByteArray), ([] : List Int)⟩ : S63)] : List (S63)))) = some r := by first | (rw [hy111]; with_reducible exact H) | (have H2_ := (Option.bind_some _ _).symm.trans H; rw [hy111]; with_reducible exact H2_) | (have H2_ := (Option.bind_some _ _).symm.trans H; with_reducible exact H2_) | with_reducible exact H | (rw [hy111]; exact H) | exact H
  have Ny111 := Aside0.mk hy111
  clear hy111
  obtain ⟨y114, hy114⟩ : ∃ y_ : List Int, y_ = (([4, 38] : List Int)) := ⟨_, rfl⟩
  replace H : (some (([(⟨(⟨#[48, 49, 48, 48]⟩ : ByteArray), (⟨#[48, 48]⟩ : ByteArray), (⟨#[97, 117, 116, 104]⟩ : ByteArray), y108⟩ : S63), (⟨(⟨#[48, 49, 48, 48]⟩ : ByteArray), (⟨#[48, 50]⟩ : ByteArray), (⟨#[109, 111, 114, 101]⟩ : ByteArray), y111⟩ : S63), (⟨(⟨#[48, 50, 50, 48]⟩ : ByteArray), (⟨#[48, 49]⟩ : ByteArray), (⟨#[112, 97, 114, 116]⟩ : ByteArray), y114⟩ : S63), (⟨(⟨#[48, 50, 50, 48]⟩ : ByteArray), (⟨#[48, 48]⟩ : ByteArray), (⟨#[102, 105, 110, 97, 108]⟩ : ByteArray), (([4, 38] : List Int))⟩ : S63), (⟨(⟨#[48, 50, 50, 48]⟩ : ByteArray), (⟨#[50, 48]⟩ : ByteArray), (⟨#[102, 114, 101, 101]⟩ : ByteArray), (([38] : List Int))⟩ : S63), (⟨(⟨#[48, 50, 48, 48]⟩ : ByteArray), (⟨#[52, 48]⟩ : ByteArray), (⟨#[109, 111, 118, 101]⟩ : ByteArray), (([38, 103] : List Int))⟩ : S63), (⟨(⟨#[48, 49, 48, 48]⟩ : ByteArray), (⟨#[51, 49]⟩ : ByteArray), (⟨#[97, 115, 107]⟩ : ByteArray), ([] : List Int)⟩ : S63), (⟨(⟨#[48, 50, 48, 48]⟩ : ByteArray), (⟨#[57, 48]⟩ : ByteArray), (⟨#[115, 119, 101, 101, 112]⟩ : ByteArray), ([] : List Int)⟩ : S63)] : List (S63)))) = some r := by first | (rw [hy114]; with_reducible exact H) | (have H2_ := (Option.bind_some _ _).symm.trans H; rw [hy114]; with_reducible exact H2_) | (have H2_ := (Option.bind_some _ _).symm.trans H; with_reducible exact H2_) | with_reducible exact H | (rw [hy114]; exact H) | exact H
  have Ny114 := Aside0.mk hy114
  clear hy114
  obtain ⟨y117, hy117⟩ : ∃ y_ : List Int, y_ = (([4, 38] : List Int)) := ⟨_, rfl⟩
  replace H : (some (([(⟨(⟨#[48, 49, 48, 48]⟩ : ByteArray), (⟨#[48, 48]⟩ : ByteArray), (⟨#[97, 117, 116, 104]⟩ : ByteArray), y108⟩ : S63), (⟨(⟨#[48, 49, 48, 48]⟩ : ByteArray), (⟨#[48, 50]⟩ : ByteArray), (⟨#[109, 111, 114, 101]⟩ : ByteArray), y111⟩ : S63), (⟨(⟨#[48, 50, 50, 48]⟩ : ByteArray), (⟨#[48, 49]⟩ : ByteArray), (⟨#[112, 97, 114, 116]⟩ : ByteArray), y114⟩ : S63), (⟨(⟨#[48, 50, 50, 48]⟩ : ByteArray), (⟨#[48, 48]⟩ : ByteArray), (⟨#[102, 105, 110, 97, 108]⟩ : ByteArray), y117⟩ : S63), (⟨(⟨#[48, 50, 50, 48]⟩ : ByteArray), (⟨#[50, 48]⟩ : ByteArray), (⟨#[102, 114, 101, 101]⟩ : ByteArray), (([38] : List Int))⟩ : S63), (⟨(⟨#[48, 50, 48, 48]⟩ : ByteArray), (⟨#[52, 48]⟩ : ByteArray), (⟨#[109, 111, 118, 101]⟩ : ByteArray), (([38, 103] : List Int))⟩ : S63), (⟨(⟨#[48, 49, 48, 48]⟩ : ByteArray), (⟨#[51, 49]⟩ : ByteArray), (⟨#[97, 115, 107]⟩ : ByteArray), ([] : List Int)⟩ : S63), (⟨(⟨#[48, 50, 48, 48]⟩ : ByteArray), (⟨#[57, 48]⟩ : ByteArray), (⟨#[115, 119, 101, 101, 112]⟩ : ByteArray), ([] : List Int)⟩ : S63)] : List (S63)))) = some r := by first | (rw [hy117]; with_reducible exact H) | (have H2_ := (Option.bind_some _ _).symm.trans H; rw [hy117]; with_reducible exact H2_) | (have H2_ := (Option.bind_some _ _).symm.trans H; with_reducible exact H2_) | with_reducible exact H | (rw [hy117]; exact H) | exact H
  have Ny117 := Aside0.mk hy117
  clear hy117
  obtain ⟨y120, hy120⟩ : ∃ y_ : List Int, y_ = (([38] : List Int)) := ⟨_, rfl⟩
  replace H : (some (([(⟨(⟨#[48, 49, 48, 48]⟩ : ByteArray), (⟨#[48, 48]⟩ : ByteArray), (⟨#[97, 117, 116, 104]⟩ : ByteArray), y108⟩ : S63), (⟨(⟨#[48, 49, 48, 48]⟩ : ByteArray), (⟨#[48, 50]⟩ : ByteArray), (⟨#[109, 111, 114, 101]⟩ : ByteArray), y111⟩ : S63), (⟨(⟨#[48, 50, 50, 48]⟩ : ByteArray), (⟨#[48, 49]⟩ : ByteArray), (⟨#[112, 97, 114, 116]⟩ : ByteArray), y114⟩ : S63), (⟨(⟨#[48, 50, 50, 48]⟩ : ByteArray), (⟨#[48, 48]⟩ : ByteArray), (⟨#[102, 105, 110, 97, 108]⟩ : ByteArray), y117⟩ : S63), (⟨(⟨#[48, 50, 50, 48]⟩ : ByteArray), (⟨#[50, 48]⟩ : ByteArray), (⟨#[102, 114, 101, 101]⟩ : ByteArray), y120⟩ : S63), (⟨(⟨#[48, 50, 48, 48]⟩ : ByteArray), (⟨#[52, 48]⟩ : ByteArray), (⟨#[109, 111, 118, 101]⟩ : ByteArray), (([38, 103] : List Int))⟩ : S63), (⟨(⟨#[48, 49, 48, 48]⟩ : ByteArray), (⟨#[51, 49]⟩ : ByteArray), (⟨#[97, 115, 107]⟩ : ByteArray), ([] : List Int)⟩ : S63), (⟨(⟨#[48, 50, 48, 48]⟩ : ByteArray), (⟨#[57, 48]⟩ : ByteArray), (⟨#[115, 119, 101, 101, 112]⟩ : ByteArray), ([] : List Int)⟩ : S63)] : List (S63)))) = some r := by first | (rw [hy120]; with_reducible exact H) | (have H2_ := (Option.bind_some _ _).symm.trans H; rw [hy120]; with_reducible exact H2_) | (have H2_ := (Option.bind_some _ _).symm.trans H; with_reducible exact H2_) | with_reducible exact H | (rw [hy120]; exact H) | exact H
  have Ny120 := Aside0.mk hy120
  clear hy120
  obtain ⟨y123, hy123⟩ : ∃ y_ : List Int, y_ = (([38, 103] : List Int)) := ⟨_, rfl⟩
  replace H : (some (([(⟨(⟨#[48, 49, 48, 48]⟩ : ByteArray), (⟨#[48, 48]⟩ : ByteArray), (⟨#[97, 117, 116, 104]⟩ : ByteArray), y108⟩ : S63), (⟨(⟨#[48, 49, 48, 48]⟩ : ByteArray), (⟨#[48, 50]⟩ : ByteArray), (⟨#[109, 111, 114, 101]⟩ : ByteArray), y111⟩ : S63), (⟨(⟨#[48, 50, 50, 48]⟩ : ByteArray), (⟨#[48, 49]⟩ : ByteArray), (⟨#[112, 97, 114, 116]⟩ : ByteArray), y114⟩ : S63), (⟨(⟨#[48, 50, 50, 48]⟩ : ByteArray), (⟨#[48, 48]⟩ : ByteArray), (⟨#[102, 105, 110, 97, 108]⟩ : ByteArray), y117⟩ : S63), (⟨(⟨#[48, 50, 50, 48]⟩ : ByteArray), (⟨#[50, 48]⟩ : ByteArray), (⟨#[102, 114, 101, 101]⟩ : ByteArray), y120⟩ : S63), (⟨(⟨#[48, 50, 48, 48]⟩ : ByteArray), (⟨#[52, 48]⟩ : ByteArray), (⟨#[109, 111, 118, 101]⟩ : ByteArray), y123⟩ : S63), (⟨(⟨#[48, 49, 48, 48]⟩ : ByteArray), (⟨#[51, 49]⟩ : ByteArray), (⟨#[97, 115, 107]⟩ : ByteArray), ([] : List Int)⟩ : S63), (⟨(⟨#[48, 50, 48, 48]⟩ : ByteArray), (⟨#[57, 48]⟩ : ByteArray), (⟨#[115, 119, 101, 101, 112]⟩ : ByteArray), ([] : List Int)⟩ : S63)] : List (S63)))) = some r := by first | (rw [hy123]; with_reducible exact H) | (have H2_ := (Option.bind_some _ _).symm.trans H; rw [hy123]; with_reducible exact H2_) | (have H2_ := (Option.bind_some _ _).symm.trans H; with_reducible exact H2_) | with_reducible exact H | (rw [hy123]; exact H) | exact H
  have Ny123 := Aside0.mk hy123
  clear hy123
  obtain ⟨y126, hy126⟩ : ∃ y_ : List (S63), y_ = (([(⟨(⟨#[48, 49, 48, 48]⟩ : ByteArray), (⟨#[48, 48]⟩ : ByteArray), (⟨#[97, 117, 116, 104]⟩ : ByteArray), y108⟩ : S63), (⟨(⟨#[48, 49, 48, 48]⟩ : ByteArray), (⟨#[48, 50]⟩ : ByteArray), (⟨#[109, 111, 114, 101]⟩ : ByteArray), y111⟩ : S63), (⟨(⟨#[48, 50, 50, 48]⟩ : ByteArray), (⟨#[48, 49]⟩ : ByteArray), (⟨#[112, 97, 114, 116]⟩ : ByteArray), y114⟩ : S63), (⟨(⟨#[48, 50, 50, 48]⟩ : ByteArray), (⟨#[48, 48]⟩ : ByteArray), (⟨#[102, 105, 110, 97, 108]⟩ : ByteArray), y117⟩ : S63), (⟨(⟨#[48, 50, 50, 48]⟩ : ByteArray), (⟨#[50, 48]⟩ : ByteArray), (⟨#[102, 114, 101, 101]⟩ : ByteArray), y120⟩ : S63), (⟨(⟨#[48, 50, 48, 48]⟩ : ByteArray), (⟨#[52, 48]⟩ : ByteArray), (⟨#[109, 111, 118, 101]⟩ : ByteArray), y123⟩ : S63), (⟨(⟨#[48, 49, 48, 48]⟩ : ByteArray), (⟨#[51, 49]⟩ : ByteArray), (⟨#[97, 115, 107]⟩ : ByteArray), ([] : List Int)⟩ : S63), (⟨(⟨#[48, 50, 48, 48]⟩ : ByteArray), (⟨#[57, 48]⟩ : ByteArray), (⟨#[115, 119, 101, 101, 112]⟩ : ByteArray), ([] : List Int)⟩ : S63)] : List (S63))) := ⟨_, rfl⟩
  replace H : (some y126) = some r := by first | (rw [hy126]; with_reducible exact H) | (have H2_ := (Option.bind_some _ _).symm.trans H; rw [hy126]; with_reducible exact H2_) | (have H2_ := (Option.bind_some _ _).symm.trans H; with_reducible exact H2_) | with_reducible exact H | (rw [hy126]; exact H) | exact H
  have Ny126 := Aside0.mk hy126
  clear hy126
  obtain rfl := Option.some.inj H
  go_enter Try.func59, Try.ntmps59
  go_wp2_with (first | ((with_reducible refine gate_dst (N := 1) rfl ?_); refine Kd.R_lit (Kd.int .i64) _ 3 ?hg (N := 1) ?hd (xs := ([4, 14, 38] : List Int)) (inner := [.int .i64 4, .int .i64 14, .int .i64 38]) (ok := fun _ => True) (okp := fun _ => True) ?hr ?hp (fun _ hk => hk) trivial (Below.refl _ _) (Nat.le_refl _) (by simp) ?_; (case hd => rfl); (case hg => rfl); (case hr => first | (go_simp; done) | (go_simp; rfl)); (case hp => exact (Reps.one (show Kd.M (Kd.int .i64) _ _ _ 4 [.int .i64 4] from rfl) (Reps.one (show Kd.M (Kd.int .i64) _ _ _ 14 [.int .i64 14] from rfl) (Reps.one (show Kd.M (Kd.int .i64) _ _ _ 38 [.int .i64 38] from rfl) (Reps.none _ _))))); intro v109 w1 ho2 hb hg_ hnew_; clear hg_ hnew_; (first | rw [← Ny108.out] at ho2 | (simp only [Int.reduceToNat] at ho2; rw [← Ny108.out] at ho2)); have n0_ := Aside0.mk (Kd.R_lower (Kd.R_newM (M := fun k_ => (w.heap.size ≤ k_)) ho2 (below_size bl_) (fun k_ h_ => h_)) (below_size bl_)); have n1_ := Aside0.mk (below_step bl_ hb); clear HB; have HO110 := n0_; have HB := n1_; clear n0_ n1_; clear hb ho2; obtain ⟨Ao3, co3, eo3⟩ := Kd.R_slice HO110.out; subst eo3) | ((with_reducible refine gate_dst (N := 3) rfl ?_); refine Kd.R_lit (Kd.int .i64) _ 3 ?hg (N := 3) ?hd (xs := ([4, 38] : List Int)) (inner := [.int .i64 4, .int .i64 38]) (ok := fun _ => True) (okp := fun _ => True) ?hr ?hp (fun _ hk => hk) trivial (Below.refl _ _) (Nat.le_refl _) (by simp) ?_; (case hd => rfl); (case hg => rfl); (case hr => first | (go_simp; done) | (go_simp; rfl)); (case hp => exact (Reps.one (show Kd.M (Kd.int .i64) _ _ _ 4 [.int .i64 4] from rfl) (Reps.one (show Kd.M (Kd.int .i64) _ _ _ 38 [.int .i64 38] from rfl) (Reps.none _ _)))); intro v112 w4 ho5 hb hg_ hnew_; clear hg_ hnew_; (first | rw [← Ny111.out] at ho5 | (simp only [Int.reduceToNat] at ho5; rw [← Ny111.out] at ho5)); have n0_ := Aside0.mk (Kd.R_elder' (ra_ HO110) (Kd.R_base ho5) hb); have n1_ := Aside0.mk (Kd.R_lower (Kd.R_new' (Kd.R_newM (M := fun k_ => (w.heap.size ≤ k_)) ho5 (below_size bl_) (fun k_ h_ => h_)) (Kd.R_lt (ra_ HO110))) (below_size bl_)); have n2_ := Aside0.mk (below_step bl_ hb); clear HO110; clear HB; have HO110 := n0_; have HO113 := n1_; have HB := n2_; clear n0_ n1_ n2_; clear hb ho5; obtain ⟨Ao6, co6, eo6⟩ := Kd.R_slice HO113.out; subst eo6) | ((with_reducible refine gate_dst (N := 5) rfl ?_); refine Kd.R_lit (Kd.int .i64) _ 3 ?hg (N := 5) ?hd (xs := ([4, 38] : List Int)) (inner := [.int .i64 4, .int .i64 38]) (ok := fun _ => True) (okp := fun _ => True) ?hr ?hp (fun _ hk => hk) trivial (Below.refl _ _) (Nat.le_refl _) (by simp) ?_; (case hd => rfl); (case hg => rfl); (case hr => first | (go_simp; done) | (go_simp; rfl)); (case hp => exact (Reps.one (show Kd.M (Kd.int .i64) _ _ _ 4 [.int .i64 4] from rfl) (Reps.one (show Kd.M (Kd.int .i64) _ _ _ 38 [.int .i64 38] from rfl) (Reps.none _ _)))); intro v115 w7 ho8 hb hg_ hnew_; clear hg_ hnew_; (first | rw [← Ny114.out] at ho8 | (simp only [Int.reduceToNat] at ho8; rw [← Ny114.out] at ho8)); have n0_ := Aside0.mk (Kd.R_elder' (ra_ HO110) (Kd.R_base ho8) hb); have n1_ := Aside0.mk (Kd.R_elder' (ra_ HO113) (Kd.R_base ho8) hb); have n2_ := Aside0.mk (Kd.R_lower (Kd.R_new' (Kd.R_new' (Kd.R_newM (M := fun k_ => (w.heap.size ≤ k_)) ho8 (below_size bl_) (fun k_ h_ => h_)) (Kd.R_lt (ra_ HO110))) (Kd.R_lt (ra_ HO113))) (below_size bl_)); have n3_ := Aside0.mk (below_step bl_ hb); clear HO110; clear HO113; clear HB; have HO110 := n0_; have HO113 := n1_; have HO116 := n2_; have HB := n3_; clear n0_ n1_ n2_ n3_; clear hb ho8; obtain ⟨Ao9, co9, eo9⟩ := Kd.R_slice HO116.out; subst eo9) | ((with_reducible refine gate_dst (N := 7) rfl ?_); refine Kd.R_lit (Kd.int .i64) _ 3 ?hg (N := 7) ?hd (xs := ([4, 38] : List Int)) (inner := [.int .i64 4, .int .i64 38]) (ok := fun _ => True) (okp := fun _ => True) ?hr ?hp (fun _ hk => hk) trivial (Below.refl _ _) (Nat.le_refl _) (by simp) ?_; (case hd => rfl); (case hg => rfl); (case hr => first | (go_simp; done) | (go_simp; rfl)); (case hp => exact (Reps.one (show Kd.M (Kd.int .i64) _ _ _ 4 [.int .i64 4] from rfl) (Reps.one (show Kd.M (Kd.int .i64) _ _ _ 38 [.int .i64 38] from rfl) (Reps.none _ _)))); intro v118 w10 ho11 hb hg_ hnew_; clear hg_ hnew_; (first | rw [← Ny117.out] at ho11 | (simp only [Int.reduceToNat] at ho11; rw [← Ny117.out] at ho11)); have n0_ := Aside0.mk (Kd.R_elder' (ra_ HO110) (Kd.R_base ho11) hb); have n1_ := Aside0.mk (Kd.R_elder' (ra_ HO113) (Kd.R_base ho11) hb); have n2_ := Aside0.mk (Kd.R_elder' (ra_ HO116) (Kd.R_base ho11) hb); have n3_ := Aside0.mk (Kd.R_lower (Kd.R_new' (Kd.R_new' (Kd.R_new' (Kd.R_newM (M := fun k_ => (w.heap.size ≤ k_)) ho11 (below_size bl_) (fun k_ h_ => h_)) (Kd.R_lt (ra_ HO110))) (Kd.R_lt (ra_ HO113))) (Kd.R_lt (ra_ HO116))) (below_size bl_)); have n4_ := Aside0.mk (below_step bl_ hb); clear HO110; clear HO113; clear HO116; clear HB; have HO110 := n0_; have HO113 := n1_; have HO116 := n2_; have HO119 := n3_; have HB := n4_; clear n0_ n1_ n2_ n3_ n4_; clear hb ho11; obtain ⟨Ao12, co12, eo12⟩ := Kd.R_slice HO119.out; subst eo12) | ((with_reducible refine gate_dst (N := 9) rfl ?_); refine Kd.R_lit (Kd.int .i64) _ 3 ?hg (N := 9) ?hd (xs := ([38] : List Int)) (inner := [.int .i64 38]) (ok := fun _ => True) (okp := fun _ => True) ?hr ?hp (fun _ hk => hk) trivial (Below.refl _ _) (Nat.le_refl _) (by simp) ?_; (case hd => rfl); (case hg => rfl); (case hr => first | (go_simp; done) | (go_simp; rfl)); (case hp => exact (Reps.one (show Kd.M (Kd.int .i64) _ _ _ 38 [.int .i64 38] from rfl) (Reps.none _ _))); intro v121 w13 ho14 hb hg_ hnew_; clear hg_ hnew_; (first | rw [← Ny120.out] at ho14 | (simp only [Int.reduceToNat] at ho14; rw [← Ny120.out] at ho14)); have n0_ := Aside0.mk (Kd.R_elder' (ra_ HO110) (Kd.R_base ho14) hb); have n1_ := Aside0.mk (Kd.R_elder' (ra_ HO113) (Kd.R_base ho14) hb); have n2_ := Aside0.mk (Kd.R_elder' (ra_ HO116) (Kd.R_base ho14) hb); have n3_ := Aside0.mk (Kd.R_elder' (ra_ HO119) (Kd.R_base ho14) hb); have n4_ := Aside0.mk (Kd.R_lower (Kd.R_new' (Kd.R_new' (Kd.R_new' (Kd.R_new' (Kd.R_newM (M := fun k_ => (w.heap.size ≤ k_)) ho14 (below_size bl_) (fun k_ h_ => h_)) (Kd.R_lt (ra_ HO110))) (Kd.R_lt (ra_ HO113))) (Kd.R_lt (ra_ HO116))) (Kd.R_lt (ra_ HO119))) (below_size bl_)); have n5_ := Aside0.mk (below_step bl_ hb); clear HO110; clear HO113; clear HO116; clear HO119; clear HB; have HO110 := n0_; have HO113 := n1_; have HO116 := n2_; have HO119 := n3_; have HO122 := n4_; have HB := n5_; clear n0_ n1_ n2_ n3_ n4_ n5_; clear hb ho14; obtain ⟨Ao15, co15, eo15⟩ := Kd.R_slice HO122.out; subst eo15) | ((with_reducible refine gate_dst (N := 11) rfl ?_); refine Kd.R_lit (Kd.int .i64) _ 3 ?hg (N := 11) ?hd (xs := ([38, 103] : List Int)) (inner := [.int .i64 38, .int .i64 103]) (ok := fun _ => True) (okp := fun _ => True) ?hr ?hp (fun _ hk => hk) trivial (Below.refl _ _) (Nat.le_refl _) (by simp) ?_; (case hd => rfl); (case hg => rfl); (case hr => first | (go_simp; done) | (go_simp; rfl)); (case hp => exact (Reps.one (show Kd.M (Kd.int .i64) _ _ _ 38 [.int .i64 38] from rfl) (Reps.one (show Kd.M (Kd.int .i64) _ _ _ 103 [.int .i64 103] from rfl) (Reps.none _ _)))); intro v124 w16 ho17 hb hg_ hnew_; clear hg_ hnew_; (first | rw [← Ny123.out] at ho17 | (simp only [Int.reduceToNat] at ho17; rw [← Ny123.out] at ho17)); have n0_ := Aside0.mk (Kd.R_elder' (ra_ HO110) (Kd.R_base ho17) hb); have n1_ := Aside0.mk (Kd.R_elder' (ra_ HO113) (Kd.R_base ho17) hb); have n2_ := Aside0.mk (Kd.R_elder' (ra_ HO116) (Kd.R_base ho17) hb); have n3_ := Aside0.mk (Kd.R_elder' (ra_ HO119) (Kd.R_base ho17) hb); have n4_ := Aside0.mk (Kd.R_elder' (ra_ HO122) (Kd.R_base ho17) hb); have n5_ := Aside0.mk (Kd.R_lower (Kd.R_new' (Kd.R_new' (Kd.R_new' (Kd.R_new' (Kd.R_new' (Kd.R_newM (M := fun k_ => (w.heap.size ≤ k_)) ho17 (below_size bl_) (fun k_ h_ => h_)) (Kd.R_lt (ra_ HO110))) (Kd.R_lt (ra_ HO113))) (Kd.R_lt (ra_ HO116))) (Kd.R_lt (ra_ HO119))) (Kd.R_lt (ra_ HO122))) (below_size bl_)); have n6_ := Aside0.mk (below_step bl_ hb); clear HO110; clear HO113; clear HO116; clear HO119; clear HO122; clear HB; have HO110 := n0_; have HO113 := n1_; have HO116 := n2_; have HO119 := n3_; have HO122 := n4_; have HO125 := n5_; have HB := n6_; clear n0_ n1_ n2_ n3_ n4_ n5_ n6_; clear hb ho17; obtain ⟨Ao18, co18, eo18⟩ := Kd.R_slice HO125.out; subst eo18) | ((with_reducible refine gate_dst (N := 15) rfl ?_); refine Kd.N_lit k63 _ 63 ?hg (N' := 15) ?hd (xs := ([(⟨(⟨#[48, 49, 48, 48]⟩ : ByteArray), (⟨#[48, 48]⟩ : ByteArray), (⟨#[97, 117, 116, 104]⟩ : ByteArray), y108⟩ : S63), (⟨(⟨#[48, 49, 48, 48]⟩ : ByteArray), (⟨#[48, 50]⟩ : ByteArray), (⟨#[109, 111, 114, 101]⟩ : ByteArray), y111⟩ : S63), (⟨(⟨#[48, 50, 50, 48]⟩ : ByteArray), (⟨#[48, 49]⟩ : ByteArray), (⟨#[112, 97, 114, 116]⟩ : ByteArray), y114⟩ : S63), (⟨(⟨#[48, 50, 50, 48]⟩ : ByteArray), (⟨#[48, 48]⟩ : ByteArray), (⟨#[102, 105, 110, 97, 108]⟩ : ByteArray), y117⟩ : S63), (⟨(⟨#[48, 50, 50, 48]⟩ : ByteArray), (⟨#[50, 48]⟩ : ByteArray), (⟨#[102, 114, 101, 101]⟩ : ByteArray), y120⟩ : S63), (⟨(⟨#[48, 50, 48, 48]⟩ : ByteArray), (⟨#[52, 48]⟩ : ByteArray), (⟨#[109, 111, 118, 101]⟩ : ByteArray), y123⟩ : S63), (⟨(⟨#[48, 49, 48, 48]⟩ : ByteArray), (⟨#[51, 49]⟩ : ByteArray), (⟨#[97, 115, 107]⟩ : ByteArray), ([] : List Int)⟩ : S63), (⟨(⟨#[48, 50, 48, 48]⟩ : ByteArray), (⟨#[57, 48]⟩ : ByteArray), (⟨#[115, 119, 101, 101, 112]⟩ : ByteArray), ([] : List Int)⟩ : S63)] : List (S63))) (inner := [.string (⟨#[48, 49, 48, 48]⟩ : ByteArray), .string (⟨#[48, 48]⟩ : ByteArray), .string (⟨#[97, 117, 116, 104]⟩ : ByteArray), .slice Ao3 y108.length co3, .string (⟨#[48, 49, 48, 48]⟩ : ByteArray), .string (⟨#[48, 50]⟩ : ByteArray), .string (⟨#[109, 111, 114, 101]⟩ : ByteArray), .slice Ao6 y111.length co6, .string (⟨#[48, 50, 50, 48]⟩ : ByteArray), .string (⟨#[48, 49]⟩ : ByteArray), .string (⟨#[112, 97, 114, 116]⟩ : ByteArray), .slice Ao9 y114.length co9, .string (⟨#[48, 50, 50, 48]⟩ : ByteArray), .string (⟨#[48, 48]⟩ : ByteArray), .string (⟨#[102, 105, 110, 97, 108]⟩ : ByteArray), .slice Ao12 y117.length co12, .string (⟨#[48, 50, 50, 48]⟩ : ByteArray), .string (⟨#[50, 48]⟩ : ByteArray), .string (⟨#[102, 114, 101, 101]⟩ : ByteArray), .slice Ao15 y120.length co15, .string (⟨#[48, 50, 48, 48]⟩ : ByteArray), .string (⟨#[52, 48]⟩ : ByteArray), .string (⟨#[109, 111, 118, 101]⟩ : ByteArray), .slice Ao18 y123.length co18, .string (⟨#[48, 49, 48, 48]⟩ : ByteArray), .string (⟨#[51, 49]⟩ : ByteArray), .string (⟨#[97, 115, 107]⟩ : ByteArray), .slice none 0 0, .string (⟨#[48, 50, 48, 48]⟩ : ByteArray), .string (⟨#[57, 48]⟩ : ByteArray), .string (⟨#[115, 119, 101, 101, 112]⟩ : ByteArray), .slice none 0 0]) (ok := (fun k_ => (w.heap.size ≤ k_))) (okp := (fun k_ => (w.heap.size ≤ k_))) ?hr ?hp (fun _ hk => hk) ((show ∀ k_, w16.heap.size ≤ k_ → (fun k_ => (w.heap.size ≤ k_)) k_ from fun k_ hk => (Nat.le_trans (below_size bl_) hk)) _ (Nat.le_refl _)) (Below.refl _ _) (Nat.le_refl _) (by simp) ?_; (case hd => rfl); (case hg => rfl); (case hr => first | (go_simp; done) | (go_simp; rfl)); (case hp => exact (Reps.c4 (show Kd.FK k63 _ _ (⟨(⟨#[48, 49, 48, 48]⟩ : ByteArray), (⟨#[48, 48]⟩ : ByteArray), (⟨#[97, 117, 116, 104]⟩ : ByteArray), y108⟩ : S63) [.string (⟨#[48, 49, 48, 48]⟩ : ByteArray), .string (⟨#[48, 48]⟩ : ByteArray), .string (⟨#[97, 117, 116, 104]⟩ : ByteArray), .slice Ao3 y108.length co3] from (k63_mkF _ _ (⟨(⟨#[48, 49, 48, 48]⟩ : ByteArray), (⟨#[48, 48]⟩ : ByteArray), (⟨#[97, 117, 116, 104]⟩ : ByteArray), y108⟩ : S63) (Kd.R_reads' (Kd.R_mono (ok' := (fun k_ => (w.heap.size ≤ k_))) (HO110.out) (fun k_ hk => hk.1.1.1.1.1.1))).2.1 (Kd.R_F (Kd.R_mono (ok' := (fun k_ => (w.heap.size ≤ k_))) (HO110.out) (fun k_ hk => hk.1.1.1.1.1.1))))) (Reps.c4 (show Kd.FK k63 _ _ (⟨(⟨#[48, 49, 48, 48]⟩ : ByteArray), (⟨#[48, 50]⟩ : ByteArray), (⟨#[109, 111, 114, 101]⟩ : ByteArray), y111⟩ : S63) [.string (⟨#[48, 49, 48, 48]⟩ : ByteArray), .string (⟨#[48, 50]⟩ : ByteArray), .string (⟨#[109, 111, 114, 101]⟩ : ByteArray), .slice Ao6 y111.length co6] from (k63_mkF _ _ (⟨(⟨#[48, 49, 48, 48]⟩ : ByteArray), (⟨#[48, 50]⟩ : ByteArray), (⟨#[109, 111, 114, 101]⟩ : ByteArray), y111⟩ : S63) (Kd.R_reads' (Kd.R_mono (ok' := (fun k_ => (w.heap.size ≤ k_))) (HO113.out) (fun k_ hk => hk.1.1.1.1.1.1))).2.1 (Kd.R_F (Kd.R_mono (ok' := (fun k_ => (w.heap.size ≤ k_))) (HO113.out) (fun k_ hk => hk.1.1.1.1.1.1))))) (Reps.c4 (show Kd.FK k63 _ _ (⟨(⟨#[48, 50, 50, 48]⟩ : ByteArray), (⟨#[48, 49]⟩ : ByteArray), (⟨#[112, 97, 114, 116]⟩ : ByteArray), y114⟩ : S63) [.string (⟨#[48, 50, 50, 48]⟩ : ByteArray), .string (⟨#[48, 49]⟩ : ByteArray), .string (⟨#[112, 97, 114, 116]⟩ : ByteArray), .slice Ao9 y114.length co9] from (k63_mkF _ _ (⟨(⟨#[48, 50, 50, 48]⟩ : ByteArray), (⟨#[48, 49]⟩ : ByteArray), (⟨#[112, 97, 114, 116]⟩ : ByteArray), y114⟩ : S63) (Kd.R_reads' (Kd.R_mono (ok' := (fun k_ => (w.heap.size ≤ k_))) (HO116.out) (fun k_ hk => hk.1.1.1.1.1.1))).2.1 (Kd.R_F (Kd.R_mono (ok' := (fun k_ => (w.heap.size ≤ k_))) (HO116.out) (fun k_ hk => hk.1.1.1.1.1.1))))) (Reps.c4 (show Kd.FK k63 _ _ (⟨(⟨#[48, 50, 50, 48]⟩ : ByteArray), (⟨#[48, 48]⟩ : ByteArray), (⟨#[102, 105, 110, 97, 108]⟩ : ByteArray), y117⟩ : S63) [.string (⟨#[48, 50, 50, 48]⟩ : ByteArray), .string (⟨#[48, 48]⟩ : ByteArray), .string (⟨#[102, 105, 110, 97, 108]⟩ : ByteArray), .slice Ao12 y117.length co12] from (k63_mkF _ _ (⟨(⟨#[48, 50, 50, 48]⟩ : ByteArray), (⟨#[48, 48]⟩ : ByteArray), (⟨#[102, 105, 110, 97, 108]⟩ : ByteArray), y117⟩ : S63) (Kd.R_reads' (Kd.R_mono (ok' := (fun k_ => (w.heap.size ≤ k_))) (HO119.out) (fun k_ hk => hk.1.1.1.1.1.1))).2.1 (Kd.R_F (Kd.R_mono (ok' := (fun k_ => (w.heap.size ≤ k_))) (HO119.out) (fun k_ hk => hk.1.1.1.1.1.1))))) (Reps.c4 (show Kd.FK k63 _ _ (⟨(⟨#[48, 50, 50, 48]⟩ : ByteArray), (⟨#[50, 48]⟩ : ByteArray), (⟨#[102, 114, 101, 101]⟩ : ByteArray), y120⟩ : S63) [.string (⟨#[48, 50, 50, 48]⟩ : ByteArray), .string (⟨#[50, 48]⟩ : ByteArray), .string (⟨#[102, 114, 101, 101]⟩ : ByteArray), .slice Ao15 y120.length co15] from (k63_mkF _ _ (⟨(⟨#[48, 50, 50, 48]⟩ : ByteArray), (⟨#[50, 48]⟩ : ByteArray), (⟨#[102, 114, 101, 101]⟩ : ByteArray), y120⟩ : S63) (Kd.R_reads' (Kd.R_mono (ok' := (fun k_ => (w.heap.size ≤ k_))) (HO122.out) (fun k_ hk => hk.1.1.1.1.1.1))).2.1 (Kd.R_F (Kd.R_mono (ok' := (fun k_ => (w.heap.size ≤ k_))) (HO122.out) (fun k_ hk => hk.1.1.1.1.1.1))))) (Reps.c4 (show Kd.FK k63 _ _ (⟨(⟨#[48, 50, 48, 48]⟩ : ByteArray), (⟨#[52, 48]⟩ : ByteArray), (⟨#[109, 111, 118, 101]⟩ : ByteArray), y123⟩ : S63) [.string (⟨#[48, 50, 48, 48]⟩ : ByteArray), .string (⟨#[52, 48]⟩ : ByteArray), .string (⟨#[109, 111, 118, 101]⟩ : ByteArray), .slice Ao18 y123.length co18] from (k63_mkF _ _ (⟨(⟨#[48, 50, 48, 48]⟩ : ByteArray), (⟨#[52, 48]⟩ : ByteArray), (⟨#[109, 111, 118, 101]⟩ : ByteArray), y123⟩ : S63) (Kd.R_reads' (Kd.R_mono (ok' := (fun k_ => (w.heap.size ≤ k_))) (HO125.out) (fun k_ hk => hk.1.1.1.1.1.1))).2.1 (Kd.R_F (Kd.R_mono (ok' := (fun k_ => (w.heap.size ≤ k_))) (HO125.out) (fun k_ hk => hk.1.1.1.1.1.1))))) (Reps.c4 (show Kd.FK k63 _ _ (⟨(⟨#[48, 49, 48, 48]⟩ : ByteArray), (⟨#[51, 49]⟩ : ByteArray), (⟨#[97, 115, 107]⟩ : ByteArray), ([] : List Int)⟩ : S63) [.string (⟨#[48, 49, 48, 48]⟩ : ByteArray), .string (⟨#[51, 49]⟩ : ByteArray), .string (⟨#[97, 115, 107]⟩ : ByteArray), .slice none 0 0] from (k63_mkF _ _ (⟨(⟨#[48, 49, 48, 48]⟩ : ByteArray), (⟨#[51, 49]⟩ : ByteArray), (⟨#[97, 115, 107]⟩ : ByteArray), ([] : List Int)⟩ : S63) (Nat.le_refl _) (Kd.F_nil _ _ _))) (Reps.c4 (show Kd.FK k63 _ _ (⟨(⟨#[48, 50, 48, 48]⟩ : ByteArray), (⟨#[57, 48]⟩ : ByteArray), (⟨#[115, 119, 101, 101, 112]⟩ : ByteArray), ([] : List Int)⟩ : S63) [.string (⟨#[48, 50, 48, 48]⟩ : ByteArray), .string (⟨#[57, 48]⟩ : ByteArray), .string (⟨#[115, 119, 101, 101, 112]⟩ : ByteArray), .slice none 0 0] from (k63_mkF _ _ (⟨(⟨#[48, 50, 48, 48]⟩ : ByteArray), (⟨#[57, 48]⟩ : ByteArray), (⟨#[115, 119, 101, 101, 112]⟩ : ByteArray), ([] : List Int)⟩ : S63) (Nat.le_refl _) (Kd.F_nil _ _ _))) (Reps.none _ _)))))))))); intro v127 w19 ho20 hb hg_ hnew_; clear hg_ hnew_; (first | rw [← Ny126.out] at ho20 | (simp only [Int.reduceToNat] at ho20; rw [← Ny126.out] at ho20)); have n0_ := Aside0.mk (Kd.N_lower ho20 (below_size bl_)); have n1_ := Aside0.mk (below_step bl_ hb); clear HB; clear HO110; clear HO113; clear HO116; clear HO119; clear HO122; clear HO125; have HO128 := n0_; have HB := n1_; clear n0_ n1_; clear hb ho20))
  go_ret
  exact ⟨_, by first | rfl | (simp [errW_none, errW_some] <;> rfl) | (simp [*, errW_none, errW_some] <;> rfl), by (with_reducible repeat (first | apply Kd.N_alloc | apply Kd.N_drewN | apply Kd.N_drew)); exact HO128.out, bl_⟩

-- NOT PRINTED: function 60 (impl_NameOp_1)

/-! ### impl_NameOp: function 28 -/
theorem impl_NameOp.rdN {xs : List S63} {x : Int} (h : x.toNat < xs.length) : rd_T63 xs x = xs[x.toNat] := by
  unfold rd_T63
  rw [List.getD_eq_getElem?_getD, List.getElem?_eq_getElem h]; rfl
def impl_NameOp.idxF (p : S63 → Bool) (xs : List S63) : Int := match xs.findIdx? p with | some j => (j : Int) | none => -1
theorem impl_NameOp.idxF_none (p : S63 → Bool) (xs : List S63) (h : ∀ j (hj : j < xs.length), p xs[j] = false) : impl_NameOp.idxF p xs = -1 := by
  unfold impl_NameOp.idxF
  have : xs.findIdx? p = none := by
    rw [List.findIdx?_eq_none_iff]
    intro x hx
    obtain ⟨j, hj, rfl⟩ := List.getElem_of_mem hx
    exact h j hj
  rw [this]
theorem impl_NameOp.idxF_some (p : S63 → Bool) (xs : List S63) (i : Nat) (hi : i < xs.length) (hp : p xs[i] = true) (h : ∀ j (hj : j < i), p (xs[j]'(by omega)) = false) : impl_NameOp.idxF p xs = (i : Int) := by
  unfold impl_NameOp.idxF
  have : xs.findIdx? p = some i := by
    rw [List.findIdx?_eq_some_iff_getElem]
    exact ⟨hi, hp, fun j hj => by simpa using h j hj⟩
  rw [this]
set_option maxHeartbeats 2000000 in
set_option maxRecDepth 100000 in
theorem impl_NameOp.idx (A0 : Option Addr) (c0 : Nat) (l0 : List S63) (g : Nat) (lb : Array Value) (p : S63 → Bool) (w : World) (hr0 : Kd.C k63 w A0 l0.length l0) (hc0 : l0.length ≤ c0)
    (eg : ∀ args w, (callFunc g args).run Try.prog w = .ok (.enter g args) w)
    (hp : ∀ (W : World) (x : S63) (A3 : Option Addr) (c3 : Nat), Below w.heap.size w W → Calls Try.prog g (#[.agg #[.string x.f0, .string x.f1, .string x.f2, .slice A3 x.f3.length c3]] ++ lb) W fun e w' => e = .returned (.bool (p x)) ∧ Below W.heap.size W w') :
    Calls Try.prog 58 #[.slice A0 l0.length c0, .func (.func g) #[] lb] w fun e w' => e = .returned (.int .i64 (impl_NameOp.idxF p l0)) ∧ Below w.heap.size w w' := by
  have hlen : l0.length ≤ 9223372036854775807 := hr0.2.1
  have HR0 := Aside0.mk hr0
  have HL := Aside0.mk hlen
  have HP := Aside0.mk hp
  clear hr0 hp
  have HB := Aside0.mk (Below.refl w.heap.size w)
  have hu63 := Try.underlying63
  clear hlen hc0
  go_enter Try.func58, Try.ntmps58
  go_wp2
  go_loopg [5, 8] l0.length (fun gg _ s8 wr => ∃ x : Int, s8 = .int .i64 x ∧ Aside0 (0 ≤ x) ∧ Aside0 (x ≤ l0.length) ∧ Aside0 (l0.length - x.toNat ≤ gg) ∧ Aside0 (∀ j (hj : j < l0.length), (j : Int) < x → p l0[j] = false) ∧ Aside0 (Below w.heap.size w wr))
  case atStart => exact ⟨0, rfl, ⟨by omega⟩, ⟨by omega⟩, ⟨by omega⟩, ⟨fun j hj h => by omega⟩, ⟨Below.refl _ w⟩⟩
  case round =>
    obtain ⟨x, rfl, H0, H1, HG, AF, HB⟩ := hrel
    by_cases hlt : x < (l0.length : Int)
    · have hN : x.toNat < l0.length := by have := H0.out; omega
      have HN := Aside0.mk hN
      have c0 : decide (x < (l0.length : Int)) = true := decide_eq_true hlt
      obtain ⟨ad, A3, c3, e, hx0, hx1, hx2, hx3, hl3, hi3⟩ := at_T63 HR0.out x H0.out hlt
      cases e
      replace hx0 := (HB.out.cell (World.block_lt_of_cell? w _ hx0)).trans hx0
      replace hx1 := (HB.out.cell (World.block_lt_of_cell? w _ hx1)).trans hx1
      replace hx2 := (HB.out.cell (World.block_lt_of_cell? w _ hx2)).trans hx2
      replace hx3 := (HB.out.cell (World.block_lt_of_cell? w _ hx3)).trans hx3
      have p0 := eq_true H0.out
      have q0 := eq_true hlt
      clear hN hlt
      have HX := Aside0.mk (impl_NameOp.rdN HN.out)
      cases hq : p (rd_T63 l0 x) with
      | true =>
        have HC := Aside0.mk (hq ▸ HP.out wr (rd_T63 l0 x) A3 c3 HB.out)
        have HQ := Aside0.mk hq
        clear hq
        go_wp2_with (go_at_fn g; refine HC.out.mono ?_; rintro e w' ⟨rfl, hb'⟩)
        go_ret
        exact ⟨by show Ending.returned (Value.int .i64 x) = _; rw [impl_NameOp.idxF_some p l0 x.toNat HN.out (by rw [← HX.out]; exact HQ.out) (fun j hj => AF.out j (by have := HN.out; omega) (by omega)), Int.toNat_of_nonneg H0.out], below_step HB.out hb'⟩
      | false =>
        have HC := Aside0.mk (hq ▸ HP.out wr (rd_T63 l0 x) A3 c3 HB.out)
        have HQ := Aside0.mk hq
        clear hq
        go_wp2_with (go_at_fn g; refine HC.out.mono ?_; rintro e w' ⟨rfl, hb'⟩; have HB' := Aside0.mk hb'; clear hb')
        have hw := HL.out
        have e1 : wrap64 (x + 1) = x + 1 := by have := HN.out; have := H0.out; unfold wrap64; omega
        go_roundg (l0.length - (x.toNat + 1))
        case measure => have := HG.out; have := HN.out; omega
        case rel =>
          have hN := HN.out
          have h0 := H0.out
          refine ⟨wrap64 (x + 1), (by first | rfl | (simp; done) | (simp [*]; done)), ⟨by omega⟩, ⟨by omega⟩, ⟨by omega⟩, ⟨fun j hj h => ?_⟩, ⟨below_step HB.out HB'.out⟩⟩
          by_cases e : j = x.toNat
          · subst e; rw [← HX.out]; exact HQ.out
          · exact AF.out j hj (by omega)
    · have c0 : decide (x < (l0.length : Int)) = false := decide_eq_false hlt
      have HN := Aside0.mk hlt
      clear hlt
      go_wp2
      go_ret
      exact ⟨by show Ending.returned (Value.int .i64 (-1)) = _; rw [impl_NameOp.idxF_none p l0 (fun j hj => AF.out j hj (by have := HN.out; omega))], HB.out⟩

set_option maxRecDepth 100000 in
theorem impl_NameOp.clo (x : S63) (A3 : Option Addr) (c3 : Nat) (a0 : ByteArray) (Ba0 : Nat) (w : World) (ha0 : w.heap[Ba0]? = some (.cells #[.string a0] 9 (0, 0))) :
    Calls Try.prog 60 #[.agg #[.string x.f0, .string x.f1, .string x.f2, .slice A3 x.f3.length c3], .pointer (some ⟨Ba0, 0, none⟩)] w fun e w' => e = .returned (.bool (x.f2.toList == a0.toList)) ∧ Below w.heap.size w w' := by
  have hu63 := Try.underlying63
  have hlta0 := blk_lt ha0
  have hca0 := blk_cell ha0 0
  have hfa0 := blk_frozen ha0 0
  go_enter Try.func60, Try.ntmps60
  go_wp2
  go_ret
  exact ⟨rfl, by repeat (first | exact Below.refl _ _ | apply below_alloc | apply pw_below_drewN | apply below_drew1)⟩

def impl_NameOp.f (a0 : ByteArray) : Option (Int) := impl_opRows.f.bind fun l => some (wrap64 (1 + impl_NameOp.idxF (fun x => x.f2.toList == a0.toList) l))
set_option maxHeartbeats 2000000 in
set_option maxRecDepth 100000 in
theorem impl_NameOp.calls (a0 : ByteArray) (r : Int) (w : World) (h : impl_NameOp.f a0 = some r) :
    Calls Try.prog 28 #[.string a0] w fun e w' => e = .returned (.int .i64 r) ∧ Below w.heap.size w w' := by
  obtain ⟨rows, hr, h⟩ := Option.bind_eq_some_iff.1 h
  obtain rfl := Option.some.inj h
  clear h
  have HH := Aside0.mk hr
  clear hr
  go_enter Try.func28, Try.ntmps28
  go_wp2_with (first | (go_at_call 59; refine (impl_opRows.calls rows _ HH.out).mono ?_; rintro e w1 ⟨v, rfl, ho, hb⟩; obtain ⟨A1, c1, rfl, hc1, hC1⟩ := Kd.N_reads ho; have HB1 := Aside0.mk (below_step (below_alloc (Below.refl _ _) _) hb); have HK := Aside0.mk (show w1.heap[w.heap.size]? = some (.cells #[.string a0] 9 (0, 0)) from (hb.block _ (by simp)).trans (heap_alloc_new w _)); have HR := Aside0.mk hC1; have HC := Aside0.mk hc1; have HP := Aside0.mk (show ∀ (W : World) (x : S63) (A3 : Option Addr) (c3 : Nat), Below w1.heap.size w1 W → Calls Try.prog 60 (#[.agg #[.string x.f0, .string x.f1, .string x.f2, .slice A3 x.f3.length c3]] ++ #[.pointer (some ⟨w.heap.size, 0, none⟩)]) W fun e w' => e = .returned (.bool ((fun x => x.f2.toList == a0.toList) x)) ∧ Below W.heap.size W w' from fun W x A3 c3 hb2 => impl_NameOp.clo x A3 c3 a0 w.heap.size W ((hb2.block _ (blk_lt HK.out)).trans HK.out)); clear ho hb hc1 hC1) | (go_at_call 58; refine (impl_NameOp.idx A1 _ rows 60 _ (fun x => x.f2.toList == a0.toList) _ HR.out HC.out (fun _ _ => by kernel_rfl) HP.out).mono ?_; rintro e w' ⟨rfl, hb'⟩))
  go_ret
  exact ⟨rfl, below_step HB1.out hb'⟩

/-! ### laws_FnExactNameOp: function 9 -/
def laws_FnExactNameOp.f (k : Nat) (a0 : ByteArray) : Option (Bool) := if (a0.size : Int) > 1048576 then (some true) else ((spec_NameOp.f k a0).bind fun t130 => ((impl_NameOp.f a0).bind fun t131 => (if t131 = t130 then (some true) else (some false))))
theorem laws_FnExactNameOp.mono : ∀ a0 k, LeO (laws_FnExactNameOp.f k a0) (laws_FnExactNameOp.f (k + 1) a0) := by
  intro a0 k
  unfold laws_FnExactNameOp.f
  repeat' first
      | (with_reducible exact spec_NameOp.mono _ _)
      | (with_reducible exact LeO.refl _)
      | (with_reducible exact LeO.none _)
      | (with_reducible refine LeO.ite ?_ ?_)
      | (with_reducible refine LeO.bind ?_ (fun _ => ?_))
      | exact spec_NameOp.mono _ _
      | exact LeO.none _
      | refine LeO.ite ?_ ?_
      | refine LeO.bind ?_ (fun _ => ?_)
set_option maxHeartbeats 8000000 in
set_option maxRecDepth 100000 in
theorem laws_FnExactNameOp.calls (k : Nat) (a0 : ByteArray) (r : Bool) (w : World) (h : laws_FnExactNameOp.f k a0 = some r) :
    Calls Try.prog 9 #[.string a0] w fun e w' => e = .returned (.bool r) ∧ Below w.heap.size w w' := by
  have HB := Aside0.mk (Below.refl w.heap.size w)
  have H : (if (a0.size : Int) > 1048576 then (some true) else ((spec_NameOp.f k a0).bind fun t130 => ((impl_NameOp.f a0).bind fun t131 => (if t131 = t130 then (some true) else (some false))))) = some r := h
  clear h
  by_cases c2 : (a0.size : Int) > 1048576
  · rw [if_pos c2] at H
    have c2b0 : decide (1048576 < (a0.size : Int)) = true := decide_eq_true c2
    have c2b1 : decide (1048576 < a0.size) = true := decide_eq_true (by omega)
    clear c2
    obtain rfl := Option.some.inj H
    go_enter Try.func9, Try.ntmps9
    go_wp2
    go_ret
    exact ⟨by first | rfl | (simp [errW_none, errW_some] <;> rfl) | (simp [*, errW_none, errW_some] <;> rfl), bl_⟩
  · rw [if_neg c2] at H
    have c2b0 : decide (1048576 < (a0.size : Int)) = false := decide_eq_false c2
    have c2b1 : decide (1048576 < a0.size) = false := decide_eq_false (by omega)
    clear c2
    replace H := Option.bind_eq_some_iff.mp H
    obtain ⟨t130, A30, H⟩ := H
    replace H : ((impl_NameOp.f a0).bind fun t131 => (if t131 = t130 then (some true) else (some false))) = some r := H
    have A3 := Aside0.mk A30
    clear A30
    replace H := Option.bind_eq_some_iff.mp H
    obtain ⟨t131, A40, H⟩ := H
    replace H : (if t131 = t130 then (some true) else (some false)) = some r := H
    have A4 := Aside0.mk A40
    clear A40
    by_cases c5 : t131 = t130
    · rw [if_pos c5] at H
      have c5b0 : (t131 == t130) = true := beq_iff_eq.mpr c5
      have c5b1 : (t131 != t130) = false := bne_eq_false_iff_eq.mpr c5
      clear c5
      obtain rfl := Option.some.inj H
      go_enter Try.func9, Try.ntmps9
      go_wp2_with (first | ((with_reducible refine gate_callee (f := 27) rfl ?_); refine goesL_ (some 9) rfl rfl Try.func27 (by kernel_rfl) rfl #[.string a0] rfl gl_ ?_; (with_reducible refine (spec_NameOp.calls k a0 t130 _ A3.out).mono ?_); rintro e w6 ⟨rfl, hb⟩; refine ⟨_, rfl, ?_⟩; have n0_ := Aside0.mk (below_step bl_ hb); clear HB; have HB := n0_; clear n0_; (try clear hb); (try clear hb2); (try clear hk); (try clear hi)) | ((with_reducible refine gate_callee (f := 28) rfl ?_); refine goesL_ (some 11) rfl rfl Try.func28 (by kernel_rfl) rfl #[.string a0] rfl gl_ ?_; (with_reducible refine (impl_NameOp.calls a0 t131 _ A4.out).mono ?_); rintro e w7 ⟨rfl, hb⟩; refine ⟨_, rfl, ?_⟩; have n0_ := Aside0.mk (below_step bl_ hb); clear HB; have HB := n0_; clear n0_; (try clear hb); (try clear hb2); (try clear hk); (try clear hi)))
      go_ret
      exact ⟨by first | rfl | (simp [errW_none, errW_some] <;> rfl) | (simp [*, errW_none, errW_some] <;> rfl), bl_⟩
    · rw [if_neg c5] at H
      have c5b0 : (t131 == t130) = false := beq_eq_false_iff_ne.mpr c5
      have c5b1 : (t131 != t130) = true := bne_iff_ne.mpr c5
      obtain rfl := Option.some.inj H
      go_enter Try.func9, Try.ntmps9
      go_wp2_with (first | ((with_reducible refine gate_callee (f := 27) rfl ?_); refine goesL_ (some 9) rfl rfl Try.func27 (by kernel_rfl) rfl #[.string a0] rfl gl_ ?_; (with_reducible refine (spec_NameOp.calls k a0 t130 _ A3.out).mono ?_); rintro e w8 ⟨rfl, hb⟩; refine ⟨_, rfl, ?_⟩; have n0_ := Aside0.mk (below_step bl_ hb); clear HB; have HB := n0_; clear n0_; (try clear hb); (try clear hb2); (try clear hk); (try clear hi)) | ((with_reducible refine gate_callee (f := 28) rfl ?_); refine goesL_ (some 11) rfl rfl Try.func28 (by kernel_rfl) rfl #[.string a0] rfl gl_ ?_; (with_reducible refine (impl_NameOp.calls a0 t131 _ A4.out).mono ?_); rintro e w9 ⟨rfl, hb⟩; refine ⟨_, rfl, ?_⟩; have n0_ := Aside0.mk (below_step bl_ hb); clear HB; have HB := n0_; clear n0_; (try clear hb); (try clear hb2); (try clear hk); (try clear hi)))
      go_ret
      exact ⟨by first | rfl | (simp [errW_none, errW_some] <;> rfl) | (simp [*, errW_none, errW_some] <;> rfl), bl_⟩

/-- THE ONE PURE STATEMENT of laws_FnExactNameOp: yours. -/
def laws_FnExactNameOp.Pure : Prop := ∀ (a0 : ByteArray), a0.size ≤ 140737488351232 → ∃ k, laws_FnExactNameOp.f k a0 = some true
theorem laws_FnExactNameOp.walk (P : laws_FnExactNameOp.Pure) (a0 : ByteArray) (w : World) (w0 : a0.size ≤ 140737488351232) :
    Calls Try.prog 9 #[.string a0] w fun e w' => e = .returned (.bool true) ∧ Below w.heap.size w w' := by
  obtain ⟨k, h⟩ := P a0 w0
  refine (laws_FnExactNameOp.calls k a0 true w h).mono ?_
  rintro e w' ⟨rfl, hd⟩
  exact ⟨rfl, hd⟩

end Go.Proofs.Ytbllcjgccpdbkaa.QFnExactNameOp
