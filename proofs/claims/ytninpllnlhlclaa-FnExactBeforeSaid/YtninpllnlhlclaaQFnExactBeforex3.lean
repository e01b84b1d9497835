-- by my own printer (myprint.py, over the kit's print.py)
import Derived.Test.YtninpllnlhlclaaQFnExactBeforex0
import Derived.Test.YtninpllnlhlclaaQFnExactBeforex1
import Derived.Test.YtninpllnlhlclaaQFnExactBeforex2
namespace Go.Proofs.Ytninpllnlhlclaa.QFnExactBefore
open Go.RowKit Go.Proofs.YtninpllnlhlclaaW.PrintWords Go.Proofs.YtninpllnlhlclaaW.PrintLast Go.Proofs.YtninpllnlhlclaaW.PrintMore
attribute [local go_sem] max2_int min2_int max_two min_two max_three min_three max_four min_four   -- for this text's walks alone
set_option linter.unusedVariables false
set_option linter.unusedSimpArgs false

attribute [local go_sem] my_geq my_leq my_gtr
/-! ### laws_FnExactBefore: function 5 -/
def laws_FnExactBefore.f (k : Nat) (l0_0 : List Int) (a0_1 : Int) (l0_2 : List Int) (a0_3 : Int) (a0_4 : Int) (a0_5 : Int) (a0_6 : Int) (a0_7 : Int) (l0_8 : List Int) (l1_0 : List Int) (a1_1 : Int) (l1_2 : List Int) (a1_3 : Int) (a1_4 : Int) (a1_5 : Int) (a1_6 : Int) (a1_7 : Int) (l1_8 : List Int) : Option (Bool) := (laws_szTask.f l0_0 a0_1 l0_2 a0_3 a0_4 a0_5 a0_6 a0_7 l0_8 1048576).bind fun t142 => (if t142 < 0 then (some true) else ((laws_szTask.f l1_0 a1_1 l1_2 a1_3 a1_4 a1_5 a1_6 a1_7 l1_8 t142).bind fun t143 => (if t143 < 0 then (some true) else ((laws_toTask.f k l0_0 a0_1 l0_2 a0_3 a0_4 a0_5 a0_6 a0_7 l0_8).bind fun bt144 => ((laws_toTask.f k l1_0 a1_1 l1_2 a1_3 a1_4 a1_5 a1_6 a1_7 l1_8).bind fun bt159 => ((spec_Before.f bt144.1 bt144.2.1 bt144.2.2.1 bt144.2.2.2.1 bt144.2.2.2.2.1 bt144.2.2.2.2.2.1 bt144.2.2.2.2.2.2.1 bt144.2.2.2.2.2.2.2.1 bt144.2.2.2.2.2.2.2.2 bt159.1 bt159.2.1 bt159.2.2.1 bt159.2.2.2.1 bt159.2.2.2.2.1 bt159.2.2.2.2.2.1 bt159.2.2.2.2.2.2.1 bt159.2.2.2.2.2.2.2.1 bt159.2.2.2.2.2.2.2.2).bind fun t174 => ((laws_toTask.f k l0_0 a0_1 l0_2 a0_3 a0_4 a0_5 a0_6 a0_7 l0_8).bind fun bt175 => ((laws_toTask.f k l1_0 a1_1 l1_2 a1_3 a1_4 a1_5 a1_6 a1_7 l1_8).bind fun bt191 => ((impl_Before.f bt175.1 bt175.2.1 bt175.2.2.1 bt175.2.2.2.1 bt175.2.2.2.2.1 bt175.2.2.2.2.2.1 bt175.2.2.2.2.2.2.1 bt175.2.2.2.2.2.2.2.1 bt175.2.2.2.2.2.2.2.2 bt191.1 bt191.2.1 bt191.2.2.1 bt191.2.2.2.1 bt191.2.2.2.2.1 bt191.2.2.2.2.2.1 bt191.2.2.2.2.2.2.1 bt191.2.2.2.2.2.2.2.1 bt191.2.2.2.2.2.2.2.2).bind fun t207 => (if (t207 != t174) = true then (some false) else ((laws_toTask.f k l0_0 a0_1 l0_2 a0_3 a0_4 a0_5 a0_6 a0_7 l0_8).bind fun bt208 => ((laws_eqTask.f k bt175.1 bt175.2.1 bt175.2.2.1 bt175.2.2.2.1 bt175.2.2.2.2.1 bt175.2.2.2.2.2.1 bt175.2.2.2.2.2.2.1 bt175.2.2.2.2.2.2.2.1 bt175.2.2.2.2.2.2.2.2 bt208.1 bt208.2.1 bt208.2.2.1 bt208.2.2.2.1 bt208.2.2.2.2.1 bt208.2.2.2.2.2.1 bt208.2.2.2.2.2.2.1 bt208.2.2.2.2.2.2.2.1 bt208.2.2.2.2.2.2.2.2).bind fun t223 => (if t223 = true then ((laws_toTask.f k l1_0 a1_1 l1_2 a1_3 a1_4 a1_5 a1_6 a1_7 l1_8).bind fun bt224 => ((laws_eqTask.f k bt191.1 bt191.2.1 bt191.2.2.1 bt191.2.2.2.1 bt191.2.2.2.2.1 bt191.2.2.2.2.2.1 bt191.2.2.2.2.2.2.1 bt191.2.2.2.2.2.2.2.1 bt191.2.2.2.2.2.2.2.2 bt224.1 bt224.2.1 bt224.2.2.1 bt224.2.2.2.1 bt224.2.2.2.2.1 bt224.2.2.2.2.2.1 bt224.2.2.2.2.2.2.1 bt224.2.2.2.2.2.2.2.1 bt224.2.2.2.2.2.2.2.2).bind fun t239 => (if t239 = true then (some true) else (some false)))) else (some false))))))))))))))
theorem laws_FnExactBefore.mono : ∀ a0 a1 a2 a3 a4 a5 a6 a7 a8 a9 a10 a11 a12 a13 a14 a15 a16 a17 k, LeO (laws_FnExactBefore.f k a0 a1 a2 a3 a4 a5 a6 a7 a8 a9 a10 a11 a12 a13 a14 a15 a16 a17) (laws_FnExactBefore.f (k + 1) a0 a1 a2 a3 a4 a5 a6 a7 a8 a9 a10 a11 a12 a13 a14 a15 a16 a17) := by
  intro a0 a1 a2 a3 a4 a5 a6 a7 a8 a9 a10 a11 a12 a13 a14 a15 a16 a17 k
  unfold laws_FnExactBefore.f
  repeat' first
      | (with_reducible exact laws_eqTask.mono _ _ _ _ _ _ _ _ _ _ _ _ _ _ _ _ _ _ _)
      | (with_reducible exact laws_toTask.mono _ _ _ _ _ _ _ _ _ _)
      | (with_reducible exact LeO.refl _)
      | (with_reducible exact LeO.none _)
      | (with_reducible refine LeO.ite ?_ ?_)
      | (with_reducible refine LeO.bind ?_ (fun _ => ?_))
      | exact laws_eqTask.mono _ _ _ _ _ _ _ _ _ _ _ _ _ _ _ _ _ _ _
      | exact laws_toTask.mono _ _ _ _ _ _ _ _ _ _
      | exact LeO.none _
      | refine LeO.ite ?_ ?_
      | refine LeO.bind ?_ (fun _ => ?_)
set_option maxHeartbeats 8000000 in
set_option maxRecDepth 100000 in
theorem laws_FnExactBefore.calls (k : Nat) (A0_0 : Option Addr) (c0_0 : Nat) (l0_0 : List Int) (a0_1 : Int) (A0_2 : Option Addr) (c0_2 : Nat) (l0_2 : List Int) (a0_3 : Int) (a0_4 : Int) (a0_5 : Int) (a0_6 : Int) (a0_7 : Int) (A0_8 : Option Addr) (c0_8 : Nat) (l0_8 : List Int) (A1_0 : Option Addr) (c1_0 : Nat) (l1_0 : List Int) (a1_1 : Int) (A1_2 : Option Addr) (c1_2 : Nat) (l1_2 : List Int) (a1_3 : Int) (a1_4 : Int) (a1_5 : Int) (a1_6 : Int) (a1_7 : Int) (A1_8 : Option Addr) (c1_8 : Nat) (l1_8 : List Int) (r : Bool) (w : World) (hr0_0 : Kd.C (Kd.int .u8) w A0_0 l0_0.length l0_0) (hc0_0 : l0_0.length ≤ c0_0) (hr0_2 : Kd.C (Kd.int .i64) w A0_2 l0_2.length l0_2) (hc0_2 : l0_2.length ≤ c0_2) (hr0_8 : Kd.C (Kd.int .u8) w A0_8 l0_8.length l0_8) (hc0_8 : l0_8.length ≤ c0_8) (hr1_0 : Kd.C (Kd.int .u8) w A1_0 l1_0.length l1_0) (hc1_0 : l1_0.length ≤ c1_0) (hr1_2 : Kd.C (Kd.int .i64) w A1_2 l1_2.length l1_2) (hc1_2 : l1_2.length ≤ c1_2) (hr1_8 : Kd.C (Kd.int .u8) w A1_8 l1_8.length l1_8) (hc1_8 : l1_8.length ≤ c1_8) (h : laws_FnExactBefore.f k l0_0 a0_1 l0_2 a0_3 a0_4 a0_5 a0_6 a0_7 l0_8 l1_0 a1_1 l1_2 a1_3 a1_4 a1_5 a1_6 a1_7 l1_8 = some true) :
    Calls Try.prog 5 #[.agg #[.slice A0_0 l0_0.length c0_0, .int .i64 a0_1, .slice A0_2 l0_2.length c0_2, .int .i64 a0_3, .int .i64 a0_4, .int .i64 a0_5, .int .i64 a0_6, .int .i64 a0_7, .slice A0_8 l0_8.length c0_8], .agg #[.slice A1_0 l1_0.length c1_0, .int .i64 a1_1, .slice A1_2 l1_2.length c1_2, .int .i64 a1_3, .int .i64 a1_4, .int .i64 a1_5, .int .i64 a1_6, .int .i64 a1_7, .slice A1_8 l1_8.length c1_8]] w fun e w' => e = .returned (.bool true) ∧ Below w.heap.size w w' := by
  have hu33 := Try.underlying33
  have hu36 := Try.underlying36
  have HR0_0 := Aside0.mk hr0_0
  have HC0_0 := Aside0.mk hc0_0
  clear hr0_0 hc0_0
  have HR0_2 := Aside0.mk hr0_2
  have HC0_2 := Aside0.mk hc0_2
  clear hr0_2 hc0_2
  have HR0_8 := Aside0.mk hr0_8
  have HC0_8 := Aside0.mk hc0_8
  clear hr0_8 hc0_8
  have HR1_0 := Aside0.mk hr1_0
  have HC1_0 := Aside0.mk hc1_0
  clear hr1_0 hc1_0
  have HR1_2 := Aside0.mk hr1_2
  have HC1_2 := Aside0.mk hc1_2
  clear hr1_2 hc1_2
  have HR1_8 := Aside0.mk hr1_8
  have HC1_8 := Aside0.mk hc1_8
  clear hr1_8 hc1_8
  have HB := Aside0.mk (Below.refl w.heap.size w)
  have H : ((laws_szTask.f l0_0 a0_1 l0_2 a0_3 a0_4 a0_5 a0_6 a0_7 l0_8 1048576).bind fun t142 => (if t142 < 0 then (some true) else ((laws_szTask.f l1_0 a1_1 l1_2 a1_3 a1_4 a1_5 a1_6 a1_7 l1_8 t142).bind fun t143 => (if t143 < 0 then (some true) else ((laws_toTask.f k l0_0 a0_1 l0_2 a0_3 a0_4 a0_5 a0_6 a0_7 l0_8).bind fun bt144 => ((laws_toTask.f k l1_0 a1_1 l1_2 a1_3 a1_4 a1_5 a1_6 a1_7 l1_8).bind fun bt159 => ((spec_Before.f bt144.1 bt144.2.1 bt144.2.2.1 bt144.2.2.2.1 bt144.2.2.2.2.1 bt144.2.2.2.2.2.1 bt144.2.2.2.2.2.2.1 bt144.2.2.2.2.2.2.2.1 bt144.2.2.2.2.2.2.2.2 bt159.1 bt159.2.1 bt159.2.2.1 bt159.2.2.2.1 bt159.2.2.2.2.1 bt159.2.2.2.2.2.1 bt159.2.2.2.2.2.2.1 bt159.2.2.2.2.2.2.2.1 bt159.2.2.2.2.2.2.2.2).bind fun t174 => ((laws_toTask.f k l0_0 a0_1 l0_2 a0_3 a0_4 a0_5 a0_6 a0_7 l0_8).bind fun bt175 => ((laws_toTask.f k l1_0 a1_1 l1_2 a1_3 a1_4 a1_5 a1_6 a1_7 l1_8).bind fun bt191 => ((impl_Before.f bt175.1 bt175.2.1 bt175.2.2.1 bt175.2.2.2.1 bt175.2.2.2.2.1 bt175.2.2.2.2.2.1 bt175.2.2.2.2.2.2.1 bt175.2.2.2.2.2.2.2.1 bt175.2.2.2.2.2.2.2.2 bt191.1 bt191.2.1 bt191.2.2.1 bt191.2.2.2.1 bt191.2.2.2.2.1 bt191.2.2.2.2.2.1 bt191.2.2.2.2.2.2.1 bt191.2.2.2.2.2.2.2.1 bt191.2.2.2.2.2.2.2.2).bind fun t207 => (if (t207 != t174) = true then (some false) else ((laws_toTask.f k l0_0 a0_1 l0_2 a0_3 a0_4 a0_5 a0_6 a0_7 l0_8).bind fun bt208 => ((laws_eqTask.f k bt175.1 bt175.2.1 bt175.2.2.1 bt175.2.2.2.1 bt175.2.2.2.2.1 bt175.2.2.2.2.2.1 bt175.2.2.2.2.2.2.1 bt175.2.2.2.2.2.2.2.1 bt175.2.2.2.2.2.2.2.2 bt208.1 bt208.2.1 bt208.2.2.1 bt208.2.2.2.1 bt208.2.2.2.2.1 bt208.2.2.2.2.2.1 bt208.2.2.2.2.2.2.1 bt208.2.2.2.2.2.2.2.1 bt208.2.2.2.2.2.2.2.2).bind fun t223 => (if t223 = true then ((laws_toTask.f k l1_0 a1_1 l1_2 a1_3 a1_4 a1_5 a1_6 a1_7 l1_8).bind fun bt224 => ((laws_eqTask.f k bt191.1 bt191.2.1 bt191.2.2.1 bt191.2.2.2.1 bt191.2.2.2.2.1 bt191.2.2.2.2.2.1 bt191.2.2.2.2.2.2.1 bt191.2.2.2.2.2.2.2.1 bt191.2.2.2.2.2.2.2.2 bt224.1 bt224.2.1 bt224.2.2.1 bt224.2.2.2.1 bt224.2.2.2.2.1 bt224.2.2.2.2.2.1 bt224.2.2.2.2.2.2.1 bt224.2.2.2.2.2.2.2.1 bt224.2.2.2.2.2.2.2.2).bind fun t239 => (if t239 = true then (some true) else (some false)))) else (some false))))))))))))))) = some true := h
  clear h
  replace H := Option.bind_eq_some_iff.mp H
  obtain ⟨t142, A30, H⟩ := H
  replace H : (if t142 < 0 then (some true) else ((laws_szTask.f l1_0 a1_1 l1_2 a1_3 a1_4 a1_5 a1_6 a1_7 l1_8 t142).bind fun t143 => (if t143 < 0 then (some true) else ((laws_toTask.f k l0_0 a0_1 l0_2 a0_3 a0_4 a0_5 a0_6 a0_7 l0_8).bind fun bt144 => ((laws_toTask.f k l1_0 a1_1 l1_2 a1_3 a1_4 a1_5 a1_6 a1_7 l1_8).bind fun bt159 => ((spec_Before.f bt144.1 bt144.2.1 bt144.2.2.1 bt144.2.2.2.1 bt144.2.2.2.2.1 bt144.2.2.2.2.2.1 bt144.2.2.2.2.2.2.1 bt144.2.2.2.2.2.2.2.1 bt144.2.2.2.2.2.2.2.2 bt159.1 bt159.2.1 bt159.2.2.1 bt159.2.2.2.1 bt159.2.2.2.2.1 bt159.2.2.2.2.2.1 bt159.2.2.2.2.2.2.1 bt159.2.2.2.2.2.2.2.1 bt159.2.2.2.2.2.2.2.2).bind fun t174 => ((laws_toTask.f k l0_0 a0_1 l0_2 a0_3 a0_4 a0_5 a0_6 a0_7 l0_8).bind fun bt175 => ((laws_toTask.f k l1_0 a1_1 l1_2 a1_3 a1_4 a1_5 a1_6 a1_7 l1_8).bind fun bt191 => ((impl_Before.f bt175.1 bt175.2.1 bt175.2.2.1 bt175.2.2.2.1 bt175.2.2.2.2.1 bt175.2.2.2.2.2.1 bt175.2.2.2.2.2.2.1 bt175.2.2.2.2.2.2.2.1 bt175.2.2.2.2.2.2.2.2 bt191.1 bt191.2.1 bt191.2.2.1 bt191.2.2.2.1 bt191.2.2.2.2.1 bt191.2.2.2.2.2.1 bt191.2.2.2.2.2.2.1 bt191.2.2.2.2.2.2.2.1 bt191.2.2.2.2.2.2.2.2).bind fun t207 => (if (t207 != t174) = true then (some false) else ((laws_toTask.f k l0_0 a0_1 l0_2 a0_3 a0_4 a0_5 a0_6 a0_7 l0_8).bind fun bt208 => ((laws_eqTask.f k bt175.1 bt175.2.1 bt175.2.2.1 bt175.2.2.2.1 bt175.2.2.2.2.1 bt175.2.2.2.2.2.1 bt175.2.2.2.2.2.2.1 bt175.2.2.2.2.2.2.2.1 bt175.2.2.2.2.2.2.2.2 bt208.1 bt208.2.1 bt208.2.2.1 bt208.2.2.2.1 bt208.2.2.2.2.1 bt208.2.2.2.2.2.1 bt208.2.2.2.2.2.2.1 bt208.2.2.2.2.2.2.2.1 bt208.2.2.2.2.2.2.2.2).bind fun t223 => (if t223 = true then ((laws_toTask.f k l1_0 a1_1 l1_2 a1_3 a1_4 a1_5 a1_6 a1_7 l1_8).bind fun bt224 => ((laws_eqTask.f k bt191.1 bt191.2.1 bt191.2.2.1 bt191.2.2.2.1 bt191.2.2.2.2.1 bt191.2.2.2.2.2.1 bt191.2.2.2.2.2.2.1 bt191.2.2.2.2.2.2.2.1 bt191.2.2.2.2.2.2.2.2 bt224.1 bt224.2.1 bt224.2.2.1 bt224.2.2.2.1 bt224.2.2.2.2.1 bt224.2.2.2.2.2.1 bt224.2.2.2.2.2.2.1 bt224.2.2.2.2.2.2.2.1 bt224.2.2.2.2.2.2.2.2).bind fun t239 => (if t239 = true then (some true) else (some false)))) else (some false)))))))))))))) = some true := H
  have A3 := Aside0.mk A30
  clear A30
  by_cases c4 : t142 < 0
  · rw [if_pos c4] at H
    have c4b0 : decide (t142 < 0) = true := decide_eq_true c4
    clear c4
    clear H
    go_enter Try.func5, Try.ntmps5
    go_wp2_with (first | ((with_reducible refine gate_dst (N := 2) rfl ?_); refine box_event ?hg (N := 2) ?hd (cs := #[.slice A0_0 l0_0.length c0_0, .int .i64 a0_1, .slice A0_2 l0_2.length c0_2, .int .i64 a0_3, .int .i64 a0_4, .int .i64 a0_5, .int .i64 a0_6, .int .i64 a0_7, .slice A0_8 l0_8.length c0_8]) (t := 33) ?hr ?_; (case hd => rfl); (case hg => rfl); (case hr => first | (go_simp; done) | (go_simp; rfl)); intro gb140 hg w5 hbox hb; have n0_ := Aside0.mk (below_step bl_ hb); have n1_ := Aside0.mk (hbox); have n2_ := Aside0.mk ((by rw [hg]; exact (below_size bl_) : w.heap.size ≤ gb140)); have n3_ := Aside0.mk ((by rw [hg]; exact (below_size bl_) : w.heap.size ≤ gb140)); clear HB; have HB := n0_; have BK140 := n1_; have GW140 := n2_; have GE140 := n3_; clear n0_ n1_ n2_ n3_; clear hb hbox hg) | ((with_reducible refine gate_dst (N := 3) rfl ?_); refine box_event ?hg (N := 3) ?hd (cs := #[.slice A1_0 l1_0.length c1_0, .int .i64 a1_1, .slice A1_2 l1_2.length c1_2, .int .i64 a1_3, .int .i64 a1_4, .int .i64 a1_5, .int .i64 a1_6, .int .i64 a1_7, .slice A1_8 l1_8.length c1_8]) (t := 33) ?hr ?_; (case hd => rfl); (case hg => rfl); (case hr => first | (go_simp; done) | (go_simp; rfl)); intro gb141 hg w6 hbox hb; have n0_ := Aside0.mk (blk_below (bk_ BK140) hb); have n1_ := Aside0.mk (below_step bl_ hb); have n2_ := Aside0.mk (hbox); have n3_ := Aside0.mk ((by rw [hg]; exact (below_size bl_) : w.heap.size ≤ gb141)); have n4_ := Aside0.mk ((by rw [hg]; exact (below_size bl_) : w.heap.size ≤ gb141)); have n5_ := Aside0.mk ((by rw [hg]; exact Nat.ne_of_lt (blk_lt (bk_ BK140)) : gb140 ≠ gb141)); have n6_ := Aside0.mk ((by rw [hg]; exact Nat.ne_of_gt (blk_lt (bk_ BK140)) : gb141 ≠ gb140)); clear BK140; clear HB; have BK140 := n0_; have HB := n1_; have BK141 := n2_; have GW141 := n3_; have GE141 := n4_; have NB140_141 := n5_; have NB141_140 := n6_; clear n0_ n1_ n2_ n3_ n4_ n5_ n6_; clear hb hbox hg; have hnb7 := NB140_141.out; have hnc7 := NB141_140.out; have hcz8_0 := cz_ BK140 0 (.slice A0_0 l0_0.length c0_0); have hcz8_1 := cz_ BK140 1 (.int .i64 a0_1); have hcz8_2 := cz_ BK140 2 (.slice A0_2 l0_2.length c0_2); have hcz8_3 := cz_ BK140 3 (.int .i64 a0_3); have hcz8_4 := cz_ BK140 4 (.int .i64 a0_4); have hcz8_5 := cz_ BK140 5 (.int .i64 a0_5); have hcz8_6 := cz_ BK140 6 (.int .i64 a0_6); have hcz8_7 := cz_ BK140 7 (.int .i64 a0_7); have hcz8_8 := cz_ BK140 8 (.slice A0_8 l0_8.length c0_8); have hfz8_0 := fz_ BK140 0; have hfz8_1 := fz_ BK140 1; have hfz8_2 := fz_ BK140 2; have hfz8_3 := fz_ BK140 3; have hfz8_4 := fz_ BK140 4; have hfz8_5 := fz_ BK140 5; have hfz8_6 := fz_ BK140 6; have hfz8_7 := fz_ BK140 7; have hfz8_8 := fz_ BK140 8) | ((with_reducible refine gate_callee (f := 22) rfl ?_); refine goesL_ (some 12) rfl rfl Try.func22 (by kernel_rfl) rfl #[.agg #[.slice A0_0 l0_0.length c0_0, .int .i64 a0_1, .slice A0_2 l0_2.length c0_2, .int .i64 a0_3, .int .i64 a0_4, .int .i64 a0_5, .int .i64 a0_6, .int .i64 a0_7, .slice A0_8 l0_8.length c0_8], .int .i64 1048576] rfl gl_ ?_; (with_reducible refine (laws_szTask.calls _ _ l0_0 a0_1 _ _ l0_2 a0_3 a0_4 a0_5 a0_6 a0_7 _ _ l0_8 1048576 t142 _ ?side1 ?side2 ?side3 ?side4 ?side5 ?side6 A3.out).mono ?_); (case side1 => exact ca_ (Kd.C_below HR0_0.out HB.out)); (case side2 => exact HC0_0.out); (case side3 => exact ca_ (Kd.C_below HR0_2.out HB.out)); (case side4 => exact HC0_2.out); (case side5 => exact ca_ (Kd.C_below HR0_8.out HB.out)); (case side6 => exact HC0_8.out); rintro e w9 ⟨rfl, hb⟩; refine ⟨_, rfl, ?_⟩; have n0_ := Aside0.mk (blk_below (bk_ BK140) hb); have n1_ := Aside0.mk (blk_below (bk_ BK141) hb); have n2_ := Aside0.mk (below_step bl_ hb); clear BK140; clear BK141; clear HB; have BK140 := n0_; have BK141 := n1_; have HB := n2_; clear n0_ n1_ n2_; (try clear hb); (try clear hb2); (try clear hk); (try clear hi)))
    go_ret
    exact ⟨by first | rfl | (simp [errW_none, errW_some] <;> rfl) | (simp [*, errW_none, errW_some] <;> rfl), bl_⟩
  · rw [if_neg c4] at H
    have c4b0 : decide (t142 < 0) = false := decide_eq_false c4
    clear c4
    replace H := Option.bind_eq_some_iff.mp H
    obtain ⟨t143, A100, H⟩ := H
    replace H : (if t143 < 0 then (some true) else ((laws_toTask.f k l0_0 a0_1 l0_2 a0_3 a0_4 a0_5 a0_6 a0_7 l0_8).bind fun bt144 => ((laws_toTask.f k l1_0 a1_1 l1_2 a1_3 a1_4 a1_5 a1_6 a1_7 l1_8).bind fun bt159 => ((spec_Before.f bt144.1 bt144.2.1 bt144.2.2.1 bt144.2.2.2.1 bt144.2.2.2.2.1 bt144.2.2.2.2.2.1 bt144.2.2.2.2.2.2.1 bt144.2.2.2.2.2.2.2.1 bt144.2.2.2.2.2.2.2.2 bt159.1 bt159.2.1 bt159.2.2.1 bt159.2.2.2.1 bt159.2.2.2.2.1 bt159.2.2.2.2.2.1 bt159.2.2.2.2.2.2.1 bt159.2.2.2.2.2.2.2.1 bt159.2.2.2.2.2.2.2.2).bind fun t174 => ((laws_toTask.f k l0_0 a0_1 l0_2 a0_3 a0_4 a0_5 a0_6 a0_7 l0_8).bind fun bt175 => ((laws_toTask.f k l1_0 a1_1 l1_2 a1_3 a1_4 a1_5 a1_6 a1_7 l1_8).bind fun bt191 => ((impl_Before.f bt175.1 bt175.2.1 bt175.2.2.1 bt175.2.2.2.1 bt175.2.2.2.2.1 bt175.2.2.2.2.2.1 bt175.2.2.2.2.2.2.1 bt175.2.2.2.2.2.2.2.1 bt175.2.2.2.2.2.2.2.2 bt191.1 bt191.2.1 bt191.2.2.1 bt191.2.2.2.1 bt191.2.2.2.2.1 bt191.2.2.2.2.2.1 bt191.2.2.2.2.2.2.1 bt191.2.2.2.2.2.2.2.1 bt191.2.2.2.2.2.2.2.2).bind fun t207 => (if (t207 != t174) = true then (some false) else ((laws_toTask.f k l0_0 a0_1 l0_2 a0_3 a0_4 a0_5 a0_6 a0_7 l0_8).bind fun bt208 => ((laws_eqTask.f k bt175.1 bt175.2.1 bt175.2.2.1 bt175.2.2.2.1 bt175.2.2.2.2.1 bt175.2.2.2.2.2.1 bt175.2.2.2.2.2.2.1 bt175.2.2.2.2.2.2.2.1 bt175.2.2.2.2.2.2.2.2 bt208.1 bt208.2.1 bt208.2.2.1 bt208.2.2.2.1 bt208.2.2.2.2.1 bt208.2.2.2.2.2.1 bt208.2.2.2.2.2.2.1 bt208.2.2.2.2.2.2.2.1 bt208.2.2.2.2.2.2.2.2).bind fun t223 => (if t223 = true then ((laws_toTask.f k l1_0 a1_1 l1_2 a1_3 a1_4 a1_5 a1_6 a1_7 l1_8).bind fun bt224 => ((laws_eqTask.f k bt191.1 bt191.2.1 bt191.2.2.1 bt191.2.2.2.1 bt191.2.2.2.2.1 bt191.2.2.2.2.2.1 bt191.2.2.2.2.2.2.1 bt191.2.2.2.2.2.2.2.1 bt191.2.2.2.2.2.2.2.2 bt224.1 bt224.2.1 bt224.2.2.1 bt224.2.2.2.1 bt224.2.2.2.2.1 bt224.2.2.2.2.2.1 bt224.2.2.2.2.2.2.1 bt224.2.2.2.2.2.2.2.1 bt224.2.2.2.2.2.2.2.2).bind fun t239 => (if t239 = true then (some true) else (some false)))) else (some false)))))))))))) = some true := H
    have A10 := Aside0.mk A100
    clear A100
    by_cases c11 : t143 < 0
    · rw [if_pos c11] at H
      have c11b0 : decide (t143 < 0) = true := decide_eq_true c11
      clear c11
      clear H
      go_enter Try.func5, Try.ntmps5
      go_wp2_with (first | ((with_reducible refine gate_dst (N := 2) rfl ?_); refine box_event ?hg (N := 2) ?hd (cs := #[.slice A0_0 l0_0.length c0_0, .int .i64 a0_1, .slice A0_2 l0_2.length c0_2, .int .i64 a0_3, .int .i64 a0_4, .int .i64 a0_5, .int .i64 a0_6, .int .i64 a0_7, .slice A0_8 l0_8.length c0_8]) (t := 33) ?hr ?_; (case hd => rfl); (case hg => rfl); (case hr => first | (go_simp; done) | (go_simp; rfl)); intro gb140 hg w12 hbox hb; have n0_ := Aside0.mk (below_step bl_ hb); have n1_ := Aside0.mk (hbox); have n2_ := Aside0.mk ((by rw [hg]; exact (below_size bl_) : w.heap.size ≤ gb140)); have n3_ := Aside0.mk ((by rw [hg]; exact (below_size bl_) : w.heap.size ≤ gb140)); clear HB; have HB := n0_; have BK140 := n1_; have GW140 := n2_; have GE140 := n3_; clear n0_ n1_ n2_ n3_; clear hb hbox hg) | ((with_reducible refine gate_dst (N := 3) rfl ?_); refine box_event ?hg (N := 3) ?hd (cs := #[.slice A1_0 l1_0.length c1_0, .int .i64 a1_1, .slice A1_2 l1_2.length c1_2, .int .i64 a1_3, .int .i64 a1_4, .int .i64 a1_5, .int .i64 a1_6, .int .i64 a1_7, .slice A1_8 l1_8.length c1_8]) (t := 33) ?hr ?_; (case hd => rfl); (case hg => rfl); (case hr => first | (go_simp; done) | (go_simp; rfl)); intro gb141 hg w13 hbox hb; have n0_ := Aside0.mk (blk_below (bk_ BK140) hb); have n1_ := Aside0.mk (below_step bl_ hb); have n2_ := Aside0.mk (hbox); have n3_ := Aside0.mk ((by rw [hg]; exact (below_size bl_) : w.heap.size ≤ gb141)); have n4_ := Aside0.mk ((by rw [hg]; exact (below_size bl_) : w.heap.size ≤ gb141)); have n5_ := Aside0.mk ((by rw [hg]; exact Nat.ne_of_lt (blk_lt (bk_ BK140)) : gb140 ≠ gb141)); have n6_ := Aside0.mk ((by rw [hg]; exact Nat.ne_of_gt (blk_lt (bk_ BK140)) : gb141 ≠ gb140)); clear BK140; clear HB; have BK140 := n0_; have HB := n1_; have BK141 := n2_; have GW141 := n3_; have GE141 := n4_; have NB140_141 := n5_; have NB141_140 := n6_; clear n0_ n1_ n2_ n3_ n4_ n5_ n6_; clear hb hbox hg; have hnb14 := NB140_141.out; have hnc14 := NB141_140.out; have hcz15_0 := cz_ BK140 0 (.slice A0_0 l0_0.length c0_0); have hcz15_1 := cz_ BK140 1 (.int .i64 a0_1); have hcz15_2 := cz_ BK140 2 (.slice A0_2 l0_2.length c0_2); have hcz15_3 := cz_ BK140 3 (.int .i64 a0_3); have hcz15_4 := cz_ BK140 4 (.int .i64 a0_4); have hcz15_5 := cz_ BK140 5 (.int .i64 a0_5); have hcz15_6 := cz_ BK140 6 (.int .i64 a0_6); have hcz15_7 := cz_ BK140 7 (.int .i64 a0_7); have hcz15_8 := cz_ BK140 8 (.slice A0_8 l0_8.length c0_8); have hfz15_0 := fz_ BK140 0; have hfz15_1 := fz_ BK140 1; have hfz15_2 := fz_ BK140 2; have hfz15_3 := fz_ BK140 3; have hfz15_4 := fz_ BK140 4; have hfz15_5 := fz_ BK140 5; have hfz15_6 := fz_ BK140 6; have hfz15_7 := fz_ BK140 7; have hfz15_8 := fz_ BK140 8) | ((with_reducible refine gate_callee (f := 22) rfl ?_); refine goesL_ (some 12) rfl rfl Try.func22 (by kernel_rfl) rfl #[.agg #[.slice A0_0 l0_0.length c0_0, .int .i64 a0_1, .slice A0_2 l0_2.length c0_2, .int .i64 a0_3, .int .i64 a0_4, .int .i64 a0_5, .int .i64 a0_6, .int .i64 a0_7, .slice A0_8 l0_8.length c0_8], .int .i64 1048576] rfl gl_ ?_; (with_reducible refine (laws_szTask.calls _ _ l0_0 a0_1 _ _ l0_2 a0_3 a0_4 a0_5 a0_6 a0_7 _ _ l0_8 1048576 t142 _ ?side1 ?side2 ?side3 ?side4 ?side5 ?side6 A3.out).mono ?_); (case side1 => exact ca_ (Kd.C_below HR0_0.out HB.out)); (case side2 => exact HC0_0.out); (case side3 => exact ca_ (Kd.C_below HR0_2.out HB.out)); (case side4 => exact HC0_2.out); (case side5 => exact ca_ (Kd.C_below HR0_8.out HB.out)); (case side6 => exact HC0_8.out); rintro e w16 ⟨rfl, hb⟩; refine ⟨_, rfl, ?_⟩; have n0_ := Aside0.mk (blk_below (bk_ BK140) hb); have n1_ := Aside0.mk (blk_below (bk_ BK141) hb); have n2_ := Aside0.mk (below_step bl_ hb); clear BK140; clear BK141; clear HB; have BK140 := n0_; have BK141 := n1_; have HB := n2_; clear n0_ n1_ n2_; (try clear hb); (try clear hb2); (try clear hk); (try clear hi); have hcz17_0 := cz_ BK141 0 (.slice A1_0 l1_0.length c1_0); have hcz17_1 := cz_ BK141 1 (.int .i64 a1_1); have hcz17_2 := cz_ BK141 2 (.slice A1_2 l1_2.length c1_2); have hcz17_3 := cz_ BK141 3 (.int .i64 a1_3); have hcz17_4 := cz_ BK141 4 (.int .i64 a1_4); have hcz17_5 := cz_ BK141 5 (.int .i64 a1_5); have hcz17_6 := cz_ BK141 6 (.int .i64 a1_6); have hcz17_7 := cz_ BK141 7 (.int .i64 a1_7); have hcz17_8 := cz_ BK141 8 (.slice A1_8 l1_8.length c1_8); have hfz17_0 := fz_ BK141 0; have hfz17_1 := fz_ BK141 1; have hfz17_2 := fz_ BK141 2; have hfz17_3 := fz_ BK141 3; have hfz17_4 := fz_ BK141 4; have hfz17_5 := fz_ BK141 5; have hfz17_6 := fz_ BK141 6; have hfz17_7 := fz_ BK141 7; have hfz17_8 := fz_ BK141 8) | ((with_reducible refine gate_callee (f := 22) rfl ?_); refine goesL_ (some 17) rfl rfl Try.func22 (by kernel_rfl) rfl #[.agg #[.slice A1_0 l1_0.length c1_0, .int .i64 a1_1, .slice A1_2 l1_2.length c1_2, .int .i64 a1_3, .int .i64 a1_4, .int .i64 a1_5, .int .i64 a1_6, .int .i64 a1_7, .slice A1_8 l1_8.length c1_8], .int .i64 t142] rfl gl_ ?_; (with_reducible refine (laws_szTask.calls _ _ l1_0 a1_1 _ _ l1_2 a1_3 a1_4 a1_5 a1_6 a1_7 _ _ l1_8 t142 t143 _ ?side1 ?side2 ?side3 ?side4 ?side5 ?side6 A10.out).mono ?_); (case side1 => exact ca_ (Kd.C_below HR1_0.out HB.out)); (case side2 => exact HC1_0.out); (case side3 => exact ca_ (Kd.C_below HR1_2.out HB.out)); (case side4 => exact HC1_2.out); (case side5 => exact ca_ (Kd.C_below HR1_8.out HB.out)); (case side6 => exact HC1_8.out); rintro e w18 ⟨rfl, hb⟩; refine ⟨_, rfl, ?_⟩; have n0_ := Aside0.mk (blk_below (bk_ BK140) hb); have n1_ := Aside0.mk (blk_below (bk_ BK141) hb); have n2_ := Aside0.mk (below_step bl_ hb); clear BK140; clear BK141; clear HB; have BK140 := n0_; have BK141 := n1_; have HB := n2_; clear n0_ n1_ n2_; (try clear hb); (try clear hb2); (try clear hk); (try clear hi)))
      go_ret
      exact ⟨by first | rfl | (simp [errW_none, errW_some] <;> rfl) | (simp [*, errW_none, errW_some] <;> rfl), bl_⟩
    · rw [if_neg c11] at H
      have c11b0 : decide (t143 < 0) = false := decide_eq_false c11
      clear c11
      replace H := Option.bind_eq_some_iff.mp H
      obtain ⟨⟨t144, t147, t148, t151, t152, t153, t154, t155, t156⟩, A190, H⟩ := H
      replace H : ((laws_toTask.f k l1_0 a1_1 l1_2 a1_3 a1_4 a1_5 a1_6 a1_7 l1_8).bind fun bt159 => ((spec_Before.f t144 t147 t148 t151 t152 t153 t154 t155 t156 bt159.1 bt159.2.1 bt159.2.2.1 bt159.2.2.2.1 bt159.2.2.2.2.1 bt159.2.2.2.2.2.1 bt159.2.2.2.2.2.2.1 bt159.2.2.2.2.2.2.2.1 bt159.2.2.2.2.2.2.2.2).bind fun t174 => ((laws_toTask.f k l0_0 a0_1 l0_2 a0_3 a0_4 a0_5 a0_6 a0_7 l0_8).bind fun bt175 => ((laws_toTask.f k l1_0 a1_1 l1_2 a1_3 a1_4 a1_5 a1_6 a1_7 l1_8).bind fun bt191 => ((impl_Before.f bt175.1 bt175.2.1 bt175.2.2.1 bt175.2.2.2.1 bt175.2.2.2.2.1 bt175.2.2.2.2.2.1 bt175.2.2.2.2.2.2.1 bt175.2.2.2.2.2.2.2.1 bt175.2.2.2.2.2.2.2.2 bt191.1 bt191.2.1 bt191.2.2.1 bt191.2.2.2.1 bt191.2.2.2.2.1 bt191.2.2.2.2.2.1 bt191.2.2.2.2.2.2.1 bt191.2.2.2.2.2.2.2.1 bt191.2.2.2.2.2.2.2.2).bind fun t207 => (if (t207 != t174) = true then (some false) else ((laws_toTask.f k l0_0 a0_1 l0_2 a0_3 a0_4 a0_5 a0_6 a0_7 l0_8).bind fun bt208 => ((laws_eqTask.f k bt175.1 bt175.2.1 bt175.2.2.1 bt175.2.2.2.1 bt175.2.2.2.2.1 bt175.2.2.2.2.2.1 bt175.2.2.2.2.2.2.1 bt175.2.2.2.2.2.2.2.1 bt175.2.2.2.2.2.2.2.2 bt208.1 bt208.2.1 bt208.2.2.1 bt208.2.2.2.1 bt208.2.2.2.2.1 bt208.2.2.2.2.2.1 bt208.2.2.2.2.2.2.1 bt208.2.2.2.2.2.2.2.1 bt208.2.2.2.2.2.2.2.2).bind fun t223 => (if t223 = true then ((laws_toTask.f k l1_0 a1_1 l1_2 a1_3 a1_4 a1_5 a1_6 a1_7 l1_8).bind fun bt224 => ((laws_eqTask.f k bt191.1 bt191.2.1 bt191.2.2.1 bt191.2.2.2.1 bt191.2.2.2.2.1 bt191.2.2.2.2.2.1 bt191.2.2.2.2.2.2.1 bt191.2.2.2.2.2.2.2.1 bt191.2.2.2.2.2.2.2.2 bt224.1 bt224.2.1 bt224.2.2.1 bt224.2.2.2.1 bt224.2.2.2.2.1 bt224.2.2.2.2.2.1 bt224.2.2.2.2.2.2.1 bt224.2.2.2.2.2.2.2.1 bt224.2.2.2.2.2.2.2.2).bind fun t239 => (if t239 = true then (some true) else (some false)))) else (some false)))))))))) = some true := H
      have A19 := Aside0.mk A190
      clear A190
      replace H := Option.bind_eq_some_iff.mp H
      obtain ⟨⟨t159, t162, t163, t166, t167, t168, t169, t170, t171⟩, A200, H⟩ := H
      replace H : ((spec_Before.f t144 t147 t148 t151 t152 t153 t154 t155 t156 t159 t162 t163 t166 t167 t168 t169 t170 t171).bind fun t174 => ((laws_toTask.f k l0_0 a0_1 l0_2 a0_3 a0_4 a0_5 a0_6 a0_7 l0_8).bind fun bt175 => ((laws_toTask.f k l1_0 a1_1 l1_2 a1_3 a1_4 a1_5 a1_6 a1_7 l1_8).bind fun bt191 => ((impl_Before.f bt175.1 bt175.2.1 bt175.2.2.1 bt175.2.2.2.1 bt175.2.2.2.2.1 bt175.2.2.2.2.2.1 bt175.2.2.2.2.2.2.1 bt175.2.2.2.2.2.2.2.1 bt175.2.2.2.2.2.2.2.2 bt191.1 bt191.2.1 bt191.2.2.1 bt191.2.2.2.1 bt191.2.2.2.2.1 bt191.2.2.2.2.2.1 bt191.2.2.2.2.2.2.1 bt191.2.2.2.2.2.2.2.1 bt191.2.2.2.2.2.2.2.2).bind fun t207 => (if (t207 != t174) = true then (some false) else ((laws_toTask.f k l0_0 a0_1 l0_2 a0_3 a0_4 a0_5 a0_6 a0_7 l0_8).bind fun bt208 => ((laws_eqTask.f k bt175.1 bt175.2.1 bt175.2.2.1 bt175.2.2.2.1 bt175.2.2.2.2.1 bt175.2.2.2.2.2.1 bt175.2.2.2.2.2.2.1 bt175.2.2.2.2.2.2.2.1 bt175.2.2.2.2.2.2.2.2 bt208.1 bt208.2.1 bt208.2.2.1 bt208.2.2.2.1 bt208.2.2.2.2.1 bt208.2.2.2.2.2.1 bt208.2.2.2.2.2.2.1 bt208.2.2.2.2.2.2.2.1 bt208.2.2.2.2.2.2.2.2).bind fun t223 => (if t223 = true then ((laws_toTask.f k l1_0 a1_1 l1_2 a1_3 a1_4 a1_5 a1_6 a1_7 l1_8).bind fun bt224 => ((laws_eqTask.f k bt191.1 bt191.2.1 bt191.2.2.1 bt191.2.2.2.1 bt191.2.2.2.2.1 bt191.2.2.2.2.2.1 bt191.2.2.2.2.2.2.1 bt191.2.2.2.2.2.2.2.1 bt191.2.2.2.2.2.2.2.2 bt224.1 bt224.2.1 bt224.2.2.1 bt224.2.2.2.1 bt224.2.2.2.2.1 bt224.2.2.2.2.2.1 bt224.2.2.2.2.2.2.1 bt224.2.2.2.2.2.2.2.1 bt224.2.2.2.2.2.2.2.2).bind fun t239 => (if t239 = true then (some true) else (some false)))) else (some false))))))))) = some true := H
      have A20 := Aside0.mk A200
      clear A200
      replace H := Option.bind_eq_some_iff.mp H
      obtain ⟨t174, A210, H⟩ := H
      replace H : ((laws_toTask.f k l0_0 a0_1 l0_2 a0_3 a0_4 a0_5 a0_6 a0_7 l0_8).bind fun bt175 => ((laws_toTask.f k l1_0 a1_1 l1_2 a1_3 a1_4 a1_5 a1_6 a1_7 l1_8).bind fun bt191 => ((impl_Before.f bt175.1 bt175.2.1 bt175.2.2.1 bt175.2.2.2.1 bt175.2.2.2.2.1 bt175.2.2.2.2.2.1 bt175.2.2.2.2.2.2.1 bt175.2.2.2.2.2.2.2.1 bt175.2.2.2.2.2.2.2.2 bt191.1 bt191.2.1 bt191.2.2.1 bt191.2.2.2.1 bt191.2.2.2.2.1 bt191.2.2.2.2.2.1 bt191.2.2.2.2.2.2.1 bt191.2.2.2.2.2.2.2.1 bt191.2.2.2.2.2.2.2.2).bind fun t207 => (if (t207 != t174) = true then (some false) else ((laws_toTask.f k l0_0 a0_1 l0_2 a0_3 a0_4 a0_5 a0_6 a0_7 l0_8).bind fun bt208 => ((laws_eqTask.f k bt175.1 bt175.2.1 bt175.2.2.1 bt175.2.2.2.1 bt175.2.2.2.2.1 bt175.2.2.2.2.2.1 bt175.2.2.2.2.2.2.1 bt175.2.2.2.2.2.2.2.1 bt175.2.2.2.2.2.2.2.2 bt208.1 bt208.2.1 bt208.2.2.1 bt208.2.2.2.1 bt208.2.2.2.2.1 bt208.2.2.2.2.2.1 bt208.2.2.2.2.2.2.1 bt208.2.2.2.2.2.2.2.1 bt208.2.2.2.2.2.2.2.2).bind fun t223 => (if t223 = true then ((laws_toTask.f k l1_0 a1_1 l1_2 a1_3 a1_4 a1_5 a1_6 a1_7 l1_8).bind fun bt224 => ((laws_eqTask.f k bt191.1 bt191.2.1 bt191.2.2.1 bt191.2.2.2.1 bt191.2.2.2.2.1 bt191.2.2.2.2.2.1 bt191.2.2.2.2.2.2.1 bt191.2.2.2.2.2.2.2.1 bt191.2.2.2.2.2.2.2.2 bt224.1 bt224.2.1 bt224.2.2.1 bt224.2.2.2.1 bt224.2.2.2.2.1 bt224.2.2.2.2.2.1 bt224.2.2.2.2.2.2.1 bt224.2.2.2.2.2.2.2.1 bt224.2.2.2.2.2.2.2.2).bind fun t239 => (if t239 = true then (some true) else (some false)))) else (some false)))))))) = some true := H
      have A21 := Aside0.mk A210
      clear A210
      replace H := Option.bind_eq_some_iff.mp H
      obtain ⟨⟨t175, t178, t179, t182, t183, t184, t185, t186, t187⟩, A220, H⟩ := H
      replace H : ((laws_toTask.f k l1_0 a1_1 l1_2 a1_3 a1_4 a1_5 a1_6 a1_7 l1_8).bind fun bt191 => ((impl_Before.f t175 t178 t179 t182 t183 t184 t185 t186 t187 bt191.1 bt191.2.1 bt191.2.2.1 bt191.2.2.2.1 bt191.2.2.2.2.1 bt191.2.2.2.2.2.1 bt191.2.2.2.2.2.2.1 bt191.2.2.2.2.2.2.2.1 bt191.2.2.2.2.2.2.2.2).bind fun t207 => (if (t207 != t174) = true then (some false) else ((laws_toTask.f k l0_0 a0_1 l0_2 a0_3 a0_4 a0_5 a0_6 a0_7 l0_8).bind fun bt208 => ((laws_eqTask.f k t175 t178 t179 t182 t183 t184 t185 t186 t187 bt208.1 bt208.2.1 bt208.2.2.1 bt208.2.2.2.1 bt208.2.2.2.2.1 bt208.2.2.2.2.2.1 bt208.2.2.2.2.2.2.1 bt208.2.2.2.2.2.2.2.1 bt208.2.2.2.2.2.2.2.2).bind fun t223 => (if t223 = true then ((laws_toTask.f k l1_0 a1_1 l1_2 a1_3 a1_4 a1_5 a1_6 a1_7 l1_8).bind fun bt224 => ((laws_eqTask.f k bt191.1 bt191.2.1 bt191.2.2.1 bt191.2.2.2.1 bt191.2.2.2.2.1 bt191.2.2.2.2.2.1 bt191.2.2.2.2.2.2.1 bt191.2.2.2.2.2.2.2.1 bt191.2.2.2.2.2.2.2.2 bt224.1 bt224.2.1 bt224.2.2.1 bt224.2.2.2.1 bt224.2.2.2.2.1 bt224.2.2.2.2.2.1 bt224.2.2.2.2.2.2.1 bt224.2.2.2.2.2.2.2.1 bt224.2.2.2.2.2.2.2.2).bind fun t239 => (if t239 = true then (some true) else (some false)))) else (some false))))))) = some true := H
      have A22 := Aside0.mk A220
      clear A220
      replace H := Option.bind_eq_some_iff.mp H
      obtain ⟨⟨t191, t194, t195, t198, t199, t200, t201, t202, t203⟩, A230, H⟩ := H
      replace H : ((impl_Before.f t175 t178 t179 t182 t183 t184 t185 t186 t187 t191 t194 t195 t198 t199 t200 t201 t202 t203).bind fun t207 => (if (t207 != t174) = true then (some false) else ((laws_toTask.f k l0_0 a0_1 l0_2 a0_3 a0_4 a0_5 a0_6 a0_7 l0_8).bind fun bt208 => ((laws_eqTask.f k t175 t178 t179 t182 t183 t184 t185 t186 t187 bt208.1 bt208.2.1 bt208.2.2.1 bt208.2.2.2.1 bt208.2.2.2.2.1 bt208.2.2.2.2.2.1 bt208.2.2.2.2.2.2.1 bt208.2.2.2.2.2.2.2.1 bt208.2.2.2.2.2.2.2.2).bind fun t223 => (if t223 = true then ((laws_toTask.f k l1_0 a1_1 l1_2 a1_3 a1_4 a1_5 a1_6 a1_7 l1_8).bind fun bt224 => ((laws_eqTask.f k t191 t194 t195 t198 t199 t200 t201 t202 t203 bt224.1 bt224.2.1 bt224.2.2.1 bt224.2.2.2.1 bt224.2.2.2.2.1 bt224.2.2.2.2.2.1 bt224.2.2.2.2.2.2.1 bt224.2.2.2.2.2.2.2.1 bt224.2.2.2.2.2.2.2.2).bind fun t239 => (if t239 = true then (some true) else (some false)))) else (some false)))))) = some true := H
      have A23 := Aside0.mk A230
      clear A230
      replace H := Option.bind_eq_some_iff.mp H
      obtain ⟨t207, A240, H⟩ := H
      replace H : (if (t207 != t174) = true then (some false) else ((laws_toTask.f k l0_0 a0_1 l0_2 a0_3 a0_4 a0_5 a0_6 a0_7 l0_8).bind fun bt208 => ((laws_eqTask.f k t175 t178 t179 t182 t183 t184 t185 t186 t187 bt208.1 bt208.2.1 bt208.2.2.1 bt208.2.2.2.1 bt208.2.2.2.2.1 bt208.2.2.2.2.2.1 bt208.2.2.2.2.2.2.1 bt208.2.2.2.2.2.2.2.1 bt208.2.2.2.2.2.2.2.2).bind fun t223 => (if t223 = true then ((laws_toTask.f k l1_0 a1_1 l1_2 a1_3 a1_4 a1_5 a1_6 a1_7 l1_8).bind fun bt224 => ((laws_eqTask.f k t191 t194 t195 t198 t199 t200 t201 t202 t203 bt224.1 bt224.2.1 bt224.2.2.1 bt224.2.2.2.1 bt224.2.2.2.2.1 bt224.2.2.2.2.2.1 bt224.2.2.2.2.2.2.1 bt224.2.2.2.2.2.2.2.1 bt224.2.2.2.2.2.2.2.2).bind fun t239 => (if t239 = true then (some true) else (some false)))) else (some false))))) = some true := H
      have A24 := Aside0.mk A240
      clear A240
      by_cases c25 : (t207 != t174) = true
      · rw [if_pos c25] at H
        have c25b0 : (t207 != t174) = true := c25
        (try (have c25b1 : decide (t207 = t174) = false := by simpa using c25))
        (try (have c25b2 : (t207 == t174) = false := by simpa using c25))
        (try (have c25b3 : ¬ (t207 = t174) := by simpa using c25))
        clear c25
        exact absurd H (by simp)
      · rw [if_neg c25] at H
        have c25b0 : (t207 != t174) = false := by simpa using c25
        (try (have c25b1 : decide (t207 = t174) = true := by simpa using c25))
        (try (have c25b2 : (t207 == t174) = true := by simpa using c25))
        clear c25
        replace H := Option.bind_eq_some_iff.mp H
        obtain ⟨⟨t208, t211, t212, t215, t216, t217, t218, t219, t220⟩, A260, H⟩ := H
        replace H : ((laws_eqTask.f k t175 t178 t179 t182 t183 t184 t185 t186 t187 t208 t211 t212 t215 t216 t217 t218 t219 t220).bind fun t223 => (if t223 = true then ((laws_toTask.f k l1_0 a1_1 l1_2 a1_3 a1_4 a1_5 a1_6 a1_7 l1_8).bind fun bt224 => ((laws_eqTask.f k t191 t194 t195 t198 t199 t200 t201 t202 t203 bt224.1 bt224.2.1 bt224.2.2.1 bt224.2.2.2.1 bt224.2.2.2.2.1 bt224.2.2.2.2.2.1 bt224.2.2.2.2.2.2.1 bt224.2.2.2.2.2.2.2.1 bt224.2.2.2.2.2.2.2.2).bind fun t239 => (if t239 = true then (some true) else (some false)))) else (some false))) = some true := H
        have A26 := Aside0.mk A260
        clear A260
        replace H := Option.bind_eq_some_iff.mp H
        obtain ⟨t223, A270, H⟩ := H
        replace H : (if t223 = true then ((laws_toTask.f k l1_0 a1_1 l1_2 a1_3 a1_4 a1_5 a1_6 a1_7 l1_8).bind fun bt224 => ((laws_eqTask.f k t191 t194 t195 t198 t199 t200 t201 t202 t203 bt224.1 bt224.2.1 bt224.2.2.1 bt224.2.2.2.1 bt224.2.2.2.2.1 bt224.2.2.2.2.2.1 bt224.2.2.2.2.2.2.1 bt224.2.2.2.2.2.2.2.1 bt224.2.2.2.2.2.2.2.2).bind fun t239 => (if t239 = true then (some true) else (some false)))) else (some false)) = some true := H
        have A27 := Aside0.mk A270
        clear A270
        by_cases c28 : t223 = true
        · subst c28
          have H1 : ((laws_toTask.f k l1_0 a1_1 l1_2 a1_3 a1_4 a1_5 a1_6 a1_7 l1_8).bind fun bt224 => ((laws_eqTask.f k t191 t194 t195 t198 t199 t200 t201 t202 t203 bt224.1 bt224.2.1 bt224.2.2.1 bt224.2.2.2.1 bt224.2.2.2.2.1 bt224.2.2.2.2.2.1 bt224.2.2.2.2.2.2.1 bt224.2.2.2.2.2.2.2.1 bt224.2.2.2.2.2.2.2.2).bind fun t239 => (if t239 = true then (some true) else (some false)))) = some true := by rw [if_pos rfl] at H; exact H
          clear H
          have H := H1
          clear H1
          replace H := Option.bind_eq_some_iff.mp H
          obtain ⟨⟨t224, t227, t228, t231, t232, t233, t234, t235, t236⟩, A290, H⟩ := H
          replace H : ((laws_eqTask.f k t191 t194 t195 t198 t199 t200 t201 t202 t203 t224 t227 t228 t231 t232 t233 t234 t235 t236).bind fun t239 => (if t239 = true then (some true) else (some false))) = some true := H
          have A29 := Aside0.mk A290
          clear A290
          replace H := Option.bind_eq_some_iff.mp H
          obtain ⟨t239, A300, H⟩ := H
          replace H : (if t239 = true then (some true) else (some false)) = some true := H
          have A30 := Aside0.mk A300
          clear A300
          by_cases c31 : t239 = true
          · subst c31
            have H1 : (some true) = some true := rfl
            clear H
            have H := H1
            clear H1
            clear H
            go_enter Try.func5, Try.ntmps5
            try go_wp2_with (first | ((with_reducible refine gate_dst (N := 2) rfl ?_); refine box_event ?hg (N := 2) ?hd (cs := #[.slice A0_0 l0_0.length c0_0, .int .i64 a0_1, .slice A0_2 l0_2.length c0_2, .int .i64 a0_3, .int .i64 a0_4, .int .i64 a0_5, .int .i64 a0_6, .int .i64 a0_7, .slice A0_8 l0_8.length c0_8]) (t := 33) ?hr ?_; (case hd => rfl); (case hg => rfl); (case hr => first | (go_simp; done) | (go_simp; rfl)); intro gb140 hg w32 hbox hb; have n0_ := Aside0.mk (below_step bl_ hb); have n1_ := Aside0.mk (hbox); have n2_ := Aside0.mk ((by rw [hg]; exact (below_size bl_) : w.heap.size ≤ gb140)); have n3_ := Aside0.mk ((by rw [hg]; exact (below_size bl_) : w.heap.size ≤ gb140)); clear HB; have HB := n0_; have BK140 := n1_; have GW140 := n2_; have GE140 := n3_; clear n0_ n1_ n2_ n3_; clear hb hbox hg) | ((with_reducible refine gate_dst (N := 3) rfl ?_); refine box_event ?hg (N := 3) ?hd (cs := #[.slice A1_0 l1_0.length c1_0, .int .i64 a1_1, .slice A1_2 l1_2.length c1_2, .int .i64 a1_3, .int .i64 a1_4, .int .i64 a1_5, .int .i64 a1_6, .int .i64 a1_7, .slice A1_8 l1_8.length c1_8]) (t := 33) ?hr ?_; (case hd => rfl); (case hg => rfl); (case hr => first | (go_simp; done) | (go_simp; rfl)); intro gb141 hg w33 hbox hb; have n0_ := Aside0.mk (blk_below (bk_ BK140) hb); have n1_ := Aside0.mk (below_step bl_ hb); have n2_ := Aside0.mk (hbox); have n3_ := Aside0.mk ((by rw [hg]; exact (below_size bl_) : w.heap.size ≤ gb141)); have n4_ := Aside0.mk ((by rw [hg]; exact (below_size bl_) : w.heap.size ≤ gb141)); have n5_ := Aside0.mk ((by rw [hg]; exact Nat.ne_of_lt (blk_lt (bk_ BK140)) : gb140 ≠ gb141)); have n6_ := Aside0.mk ((by rw [hg]; exact Nat.ne_of_gt (blk_lt (bk_ BK140)) : gb141 ≠ gb140)); clear BK140; clear HB; have BK140 := n0_; have HB := n1_; have BK141 := n2_; have GW141 := n3_; have GE141 := n4_; have NB140_141 := n5_; have NB141_140 := n6_; clear n0_ n1_ n2_ n3_ n4_ n5_ n6_; clear hb hbox hg; have hnb34 := NB140_141.out; have hnc34 := NB141_140.out; have hcz35_0 := cz_ BK140 0 (.slice A0_0 l0_0.length c0_0); have hcz35_1 := cz_ BK140 1 (.int .i64 a0_1); have hcz35_2 := cz_ BK140 2 (.slice A0_2 l0_2.length c0_2); have hcz35_3 := cz_ BK140 3 (.int .i64 a0_3); have hcz35_4 := cz_ BK140 4 (.int .i64 a0_4); have hcz35_5 := cz_ BK140 5 (.int .i64 a0_5); have hcz35_6 := cz_ BK140 6 (.int .i64 a0_6); have hcz35_7 := cz_ BK140 7 (.int .i64 a0_7); have hcz35_8 := cz_ BK140 8 (.slice A0_8 l0_8.length c0_8); have hfz35_0 := fz_ BK140 0; have hfz35_1 := fz_ BK140 1; have hfz35_2 := fz_ BK140 2; have hfz35_3 := fz_ BK140 3; have hfz35_4 := fz_ BK140 4; have hfz35_5 := fz_ BK140 5; have hfz35_6 := fz_ BK140 6; have hfz35_7 := fz_ BK140 7; have hfz35_8 := fz_ BK140 8) | ((with_reducible refine gate_callee (f := 22) rfl ?_); refine goesL_ (some 12) rfl rfl Try.func22 (by kernel_rfl) rfl #[.agg #[.slice A0_0 l0_0.length c0_0, .int .i64 a0_1, .slice A0_2 l0_2.length c0_2, .int .i64 a0_3, .int .i64 a0_4, .int .i64 a0_5, .int .i64 a0_6, .int .i64 a0_7, .slice A0_8 l0_8.length c0_8], .int .i64 1048576] rfl gl_ ?_; (with_reducible refine (laws_szTask.calls _ _ l0_0 a0_1 _ _ l0_2 a0_3 a0_4 a0_5 a0_6 a0_7 _ _ l0_8 1048576 t142 _ ?side1 ?side2 ?side3 ?side4 ?side5 ?side6 A3.out).mono ?_); (case side1 => exact ca_ (Kd.C_below HR0_0.out HB.out)); (case side2 => exact HC0_0.out); (case side3 => exact ca_ (Kd.C_below HR0_2.out HB.out)); (case side4 => exact HC0_2.out); (case side5 => exact ca_ (Kd.C_below HR0_8.out HB.out)); (case side6 => exact HC0_8.out); rintro e w36 ⟨rfl, hb⟩; refine ⟨_, rfl, ?_⟩; have n0_ := Aside0.mk (blk_below (bk_ BK140) hb); have n1_ := Aside0.mk (blk_below (bk_ BK141) hb); have n2_ := Aside0.mk (below_step bl_ hb); clear BK140; clear BK141; clear HB; have BK140 := n0_; have BK141 := n1_; have HB := n2_; clear n0_ n1_ n2_; (try clear hb); (try clear hb2); (try clear hk); (try clear hi); have hcz37_0 := cz_ BK141 0 (.slice A1_0 l1_0.length c1_0); have hcz37_1 := cz_ BK141 1 (.int .i64 a1_1); have hcz37_2 := cz_ BK141 2 (.slice A1_2 l1_2.length c1_2); have hcz37_3 := cz_ BK141 3 (.int .i64 a1_3); have hcz37_4 := cz_ BK141 4 (.int .i64 a1_4); have hcz37_5 := cz_ BK141 5 (.int .i64 a1_5); have hcz37_6 := cz_ BK141 6 (.int .i64 a1_6); have hcz37_7 := cz_ BK141 7 (.int .i64 a1_7); have hcz37_8 := cz_ BK141 8 (.slice A1_8 l1_8.length c1_8); have hfz37_0 := fz_ BK141 0; have hfz37_1 := fz_ BK141 1; have hfz37_2 := fz_ BK141 2; have hfz37_3 := fz_ BK141 3; have hfz37_4 := fz_ BK141 4; have hfz37_5 := fz_ BK141 5; have hfz37_6 := fz_ BK141 6; have hfz37_7 := fz_ BK141 7; have hfz37_8 := fz_ BK141 8) | ((with_reducible refine gate_callee (f := 22) rfl ?_); refine goesL_ (some 17) rfl rfl Try.func22 (by kernel_rfl) rfl #[.agg #[.slice A1_0 l1_0.length c1_0, .int .i64 a1_1, .slice A1_2 l1_2.length c1_2, .int .i64 a1_3, .int .i64 a1_4, .int .i64 a1_5, .int .i64 a1_6, .int .i64 a1_7, .slice A1_8 l1_8.length c1_8], .int .i64 t142] rfl gl_ ?_; (with_reducible refine (laws_szTask.calls _ _ l1_0 a1_1 _ _ l1_2 a1_3 a1_4 a1_5 a1_6 a1_7 _ _ l1_8 t142 t143 _ ?side1 ?side2 ?side3 ?side4 ?side5 ?side6 A10.out).mono ?_); (case side1 => exact ca_ (Kd.C_below HR1_0.out HB.out)); (case side2 => exact HC1_0.out); (case side3 => exact ca_ (Kd.C_below HR1_2.out HB.out)); (case side4 => exact HC1_2.out); (case side5 => exact ca_ (Kd.C_below HR1_8.out HB.out)); (case side6 => exact HC1_8.out); rintro e w38 ⟨rfl, hb⟩; refine ⟨_, rfl, ?_⟩; have n0_ := Aside0.mk (blk_below (bk_ BK140) hb); have n1_ := Aside0.mk (blk_below (bk_ BK141) hb); have n2_ := Aside0.mk (below_step bl_ hb); clear BK140; clear BK141; clear HB; have BK140 := n0_; have BK141 := n1_; have HB := n2_; clear n0_ n1_ n2_; (try clear hb); (try clear hb2); (try clear hk); (try clear hi)))
            have n0_ := Aside0.mk (blk_drew BK140.out)
            have n1_ := Aside0.mk (blk_drew BK141.out)
            have n2_ := Aside0.mk (below_drew1 HB.out)
            clear BK140
            clear BK141
            clear HB
            have BK140 := n0_
            have BK141 := n1_
            have HB := n2_
            clear n0_ n1_ n2_
            refine start_ (n := 6) (S := fun w' => w'.cell? ⟨gb140, 0, none⟩ = some (.slice A0_0 l0_0.length c0_0) ∧ w'.cell? ⟨gb140, 1, none⟩ = some (.int .i64 a0_1) ∧ w'.cell? ⟨gb140, 2, none⟩ = some (.slice A0_2 l0_2.length c0_2) ∧ w'.cell? ⟨gb140, 3, none⟩ = some (.int .i64 a0_3) ∧ w'.cell? ⟨gb140, 4, none⟩ = some (.int .i64 a0_4) ∧ w'.cell? ⟨gb140, 5, none⟩ = some (.int .i64 a0_5) ∧ w'.cell? ⟨gb140, 6, none⟩ = some (.int .i64 a0_6) ∧ w'.cell? ⟨gb140, 7, none⟩ = some (.int .i64 a0_7) ∧ w'.cell? ⟨gb140, 8, none⟩ = some (.slice A0_8 l0_8.length c0_8) ∧ w'.cell? ⟨gb141, 0, none⟩ = some (.slice A1_0 l1_0.length c1_0) ∧ w'.cell? ⟨gb141, 1, none⟩ = some (.int .i64 a1_1) ∧ w'.cell? ⟨gb141, 2, none⟩ = some (.slice A1_2 l1_2.length c1_2) ∧ w'.cell? ⟨gb141, 3, none⟩ = some (.int .i64 a1_3) ∧ w'.cell? ⟨gb141, 4, none⟩ = some (.int .i64 a1_4) ∧ w'.cell? ⟨gb141, 5, none⟩ = some (.int .i64 a1_5) ∧ w'.cell? ⟨gb141, 6, none⟩ = some (.int .i64 a1_6) ∧ w'.cell? ⟨gb141, 7, none⟩ = some (.int .i64 a1_7) ∧ w'.cell? ⟨gb141, 8, none⟩ = some (.slice A1_8 l1_8.length c1_8)) (ds := []) #[false, false, false, false, false, false] (by kernel_rfl) rfl rfl ⟨(blk_cell BK140.out 0).trans rfl, (blk_cell BK140.out 1).trans rfl, (blk_cell BK140.out 2).trans rfl, (blk_cell BK140.out 3).trans rfl, (blk_cell BK140.out 4).trans rfl, (blk_cell BK140.out 5).trans rfl, (blk_cell BK140.out 6).trans rfl, (blk_cell BK140.out 7).trans rfl, (blk_cell BK140.out 8).trans rfl, (blk_cell BK141.out 0).trans rfl, (blk_cell BK141.out 1).trans rfl, (blk_cell BK141.out 2).trans rfl, (blk_cell BK141.out 3).trans rfl, (blk_cell BK141.out 4).trans rfl, (blk_cell BK141.out 5).trans rfl, (blk_cell BK141.out 6).trans rfl, (blk_cell BK141.out 7).trans rfl, (blk_cell BK141.out 8).trans rfl⟩ (fun hHeld => ?_)
            generalize w38.drew = w39 at BK140 BK141 HB hHeld ⊢
            refine take_ (i := 0) (N := some 20) (v := ?_) (a' := ?_) #[true, false, false, false, false, false] rfl rfl (by kernel_rfl) (fun _ _ _ h => h) (Or.inl ⟨by rfl, ?_⟩) hHeld ?_ ?_
            rotate_left
            · rintro w' ⟨s0, s1, s2, s3, s4, s5, s6, s7, s8, s9, s10, s11, s12, s13, s14, s15, s16, s17⟩
              go_simp
              with_reducible rfl
            rotate_left
            · simp only [Act.put, List.setIfInBounds_toArray, List.set_cons_zero, List.set_cons_succ, i64_w, i32_w]
              rfl
            refine take_ (i := 2) (N := some 22) (v := ?_) (a' := ?_) #[true, false, true, false, false, false] rfl rfl (by kernel_rfl) (fun _ _ _ h => h) (Or.inl ⟨by rfl, ?_⟩) hHeld ?_ ?_
            rotate_left
            · rintro w' ⟨s0, s1, s2, s3, s4, s5, s6, s7, s8, s9, s10, s11, s12, s13, s14, s15, s16, s17⟩
              go_simp
              with_reducible rfl
            rotate_left
            · simp only [Act.put, List.setIfInBounds_toArray, List.set_cons_zero, List.set_cons_succ, i64_w, i32_w]
              rfl
            refine one_ (i := 1) (N := some 21) #[true, true, true, false, false, false] rfl rfl (by kernel_rfl) (by decide) (fun K hK => ?_)
            refine goes_ Try.func24 (by kernel_rfl) rfl #[.agg #[.slice A0_0 l0_0.length c0_0, .int .i64 a0_1, .slice A0_2 l0_2.length c0_2, .int .i64 a0_3, .int .i64 a0_4, .int .i64 a0_5, .int .i64 a0_6, .int .i64 a0_7, .slice A0_8 l0_8.length c0_8]] (by rfl) rfl rfl gl_ ?_
            with_reducible refine (laws_toTask.calls k _ _ l0_0 a0_1 _ _ l0_2 a0_3 a0_4 a0_5 a0_6 a0_7 _ _ l0_8 t144 t147 t148 t151 t152 t153 t154 t155 t156 _ ?side1 ?side2 ?side3 ?side4 ?side5 ?side6 A19.out).mono ?_
            (case side1 => exact ca_ (Kd.C_below HR0_0.out HB.out))
            (case side2 => exact HC0_0.out)
            (case side3 => exact ca_ (Kd.C_below HR0_2.out HB.out))
            (case side4 => exact HC0_2.out)
            (case side5 => exact ca_ (Kd.C_below HR0_8.out HB.out))
            (case side6 => exact HC0_8.out)
            rintro e w40 ⟨v145, v149, v157, rfl, ho0, ho1, ho2, hb⟩
            refine ⟨_, rfl, ?_⟩
            have n0_ := Aside0.mk (Kd.R_lower ho0 (below_size bl_))
            have n1_ := Aside0.mk (Kd.R_lower ho1 (below_size bl_))
            have n2_ := Aside0.mk (Kd.R_lower ho2 (below_size bl_))
            have n3_ := Aside0.mk (blk_below (bk_ BK140) hb)
            have n4_ := Aside0.mk (blk_below (bk_ BK141) hb)
            have n5_ := Aside0.mk (below_step bl_ hb)
            clear BK140
            clear BK141
            clear HB
            have HO146 := n0_
            have HO150 := n1_
            have HO158 := n2_
            have BK140 := n3_
            have BK141 := n4_
            have HB := n5_
            clear n0_ n1_ n2_ n3_ n4_ n5_
            (try clear hb)
            (try clear hb2)
            (try clear hk)
            (try clear hi)
            (try clear ho0)
            (try clear ho1)
            (try clear ho2)
            refine hK.out _ _ ⟨(blk_cell BK140.out 0).trans rfl, (blk_cell BK140.out 1).trans rfl, (blk_cell BK140.out 2).trans rfl, (blk_cell BK140.out 3).trans rfl, (blk_cell BK140.out 4).trans rfl, (blk_cell BK140.out 5).trans rfl, (blk_cell BK140.out 6).trans rfl, (blk_cell BK140.out 7).trans rfl, (blk_cell BK140.out 8).trans rfl, (blk_cell BK141.out 0).trans rfl, (blk_cell BK141.out 1).trans rfl, (blk_cell BK141.out 2).trans rfl, (blk_cell BK141.out 3).trans rfl, (blk_cell BK141.out 4).trans rfl, (blk_cell BK141.out 5).trans rfl, (blk_cell BK141.out 6).trans rfl, (blk_cell BK141.out 7).trans rfl, (blk_cell BK141.out 8).trans rfl⟩ (fun hHeld => ?_)
            clear hK K
            refine norm_ (a' := ?_) ?_ ?_
            rotate_left
            · show Act.put _ (some 21) _ = _
              simp only [Act.put, List.setIfInBounds_toArray, List.set_cons_zero, List.set_cons_succ, i64_w, i32_w]
              rfl
            refine one_ (i := 3) (N := some 23) #[true, true, true, true, false, false] rfl rfl (by kernel_rfl) (by decide) (fun K hK => ?_)
            refine goes_ Try.func24 (by kernel_rfl) rfl #[.agg #[.slice A1_0 l1_0.length c1_0, .int .i64 a1_1, .slice A1_2 l1_2.length c1_2, .int .i64 a1_3, .int .i64 a1_4, .int .i64 a1_5, .int .i64 a1_6, .int .i64 a1_7, .slice A1_8 l1_8.length c1_8]] (by rfl) rfl rfl gl_ ?_
            with_reducible refine (laws_toTask.calls k _ _ l1_0 a1_1 _ _ l1_2 a1_3 a1_4 a1_5 a1_6 a1_7 _ _ l1_8 t159 t162 t163 t166 t167 t168 t169 t170 t171 _ ?side1 ?side2 ?side3 ?side4 ?side5 ?side6 A20.out).mono ?_
            (case side1 => exact ca_ (Kd.C_below HR1_0.out HB.out))
            (case side2 => exact HC1_0.out)
            (case side3 => exact ca_ (Kd.C_below HR1_2.out HB.out))
            (case side4 => exact HC1_2.out)
            (case side5 => exact ca_ (Kd.C_below HR1_8.out HB.out))
            (case side6 => exact HC1_8.out)
            rintro e w41 ⟨v160, v164, v172, rfl, ho0, ho1, ho2, hb⟩
            refine ⟨_, rfl, ?_⟩
            have n0_ := Aside0.mk (Kd.R_mono (Kd.R_told (Kd.R_told (Kd.R_old (ra_ HO146) hb) (Kd.R_base ho0)) (Kd.R_base ho2)) (fun _ h_ => h_.1))
            have n1_ := Aside0.mk (Kd.R_elder' (ra_ HO150) (Kd.R_base ho1) hb)
            have n2_ := Aside0.mk (Kd.R_mono (Kd.R_told (Kd.R_told (Kd.R_old (ra_ HO158) hb) (Kd.R_base ho0)) (Kd.R_base ho2)) (fun _ h_ => h_.1))
            have n3_ := Aside0.mk (Kd.R_lower (Kd.R_new' (Kd.R_new' ho0 (Kd.R_lt (ra_ HO146))) (Kd.R_lt (ra_ HO158))) (below_size bl_))
            have n4_ := Aside0.mk (Kd.R_lower (Kd.R_new' ho1 (Kd.R_lt (ra_ HO150))) (below_size bl_))
            have n5_ := Aside0.mk (Kd.R_lower (Kd.R_new' (Kd.R_new' ho2 (Kd.R_lt (ra_ HO146))) (Kd.R_lt (ra_ HO158))) (below_size bl_))
            have n6_ := Aside0.mk (blk_below (bk_ BK140) hb)
            have n7_ := Aside0.mk (blk_below (bk_ BK141) hb)
            have n8_ := Aside0.mk (below_step bl_ hb)
            clear HO146
            clear HO150
            clear HO158
            clear BK140
            clear BK141
            clear HB
            have HO146 := n0_
            have HO150 := n1_
            have HO158 := n2_
            have HO161 := n3_
            have HO165 := n4_
            have HO173 := n5_
            have BK140 := n6_
            have BK141 := n7_
            have HB := n8_
            clear n0_ n1_ n2_ n3_ n4_ n5_ n6_ n7_ n8_
            (try clear hb)
            (try clear hb2)
            (try clear hk)
            (try clear hi)
            (try clear ho0)
            (try clear ho1)
            (try clear ho2)
            obtain ⟨Ao42, co42, eo42⟩ := Kd.R_slice HO146.out
            (first | subst eo42 | (injection eo42 with f1_ f2_ f3_; have f4_ := f1_.symm; have f5_ := f3_.symm; clear f1_ f2_ f3_; subst f4_; subst f5_))
            obtain ⟨Ao43, co43, eo43⟩ := Kd.R_slice HO150.out
            (first | subst eo43 | (injection eo43 with f1_ f2_ f3_; have f4_ := f1_.symm; have f5_ := f3_.symm; clear f1_ f2_ f3_; subst f4_; subst f5_))
            obtain ⟨Ao44, co44, eo44⟩ := Kd.R_slice HO158.out
            (first | subst eo44 | (injection eo44 with f1_ f2_ f3_; have f4_ := f1_.symm; have f5_ := f3_.symm; clear f1_ f2_ f3_; subst f4_; subst f5_))
            obtain ⟨Ao45, co45, eo45⟩ := Kd.R_slice HO161.out
            (first | subst eo45 | (injection eo45 with f1_ f2_ f3_; have f4_ := f1_.symm; have f5_ := f3_.symm; clear f1_ f2_ f3_; subst f4_; subst f5_))
            obtain ⟨Ao46, co46, eo46⟩ := Kd.R_slice HO165.out
            (first | subst eo46 | (injection eo46 with f1_ f2_ f3_; have f4_ := f1_.symm; have f5_ := f3_.symm; clear f1_ f2_ f3_; subst f4_; subst f5_))
            obtain ⟨Ao47, co47, eo47⟩ := Kd.R_slice HO173.out
            (first | subst eo47 | (injection eo47 with f1_ f2_ f3_; have f4_ := f1_.symm; have f5_ := f3_.symm; clear f1_ f2_ f3_; subst f4_; subst f5_))
            refine hK.out _ _ ⟨(blk_cell BK140.out 0).trans rfl, (blk_cell BK140.out 1).trans rfl, (blk_cell BK140.out 2).trans rfl, (blk_cell BK140.out 3).trans rfl, (blk_cell BK140.out 4).trans rfl, (blk_cell BK140.out 5).trans rfl, (blk_cell BK140.out 6).trans rfl, (blk_cell BK140.out 7).trans rfl, (blk_cell BK140.out 8).trans rfl, (blk_cell BK141.out 0).trans rfl, (blk_cell BK141.out 1).trans rfl, (blk_cell BK141.out 2).trans rfl, (blk_cell BK141.out 3).trans rfl, (blk_cell BK141.out 4).trans rfl, (blk_cell BK141.out 5).trans rfl, (blk_cell BK141.out 6).trans rfl, (blk_cell BK141.out 7).trans rfl, (blk_cell BK141.out 8).trans rfl⟩ (fun hHeld => ?_)
            clear hK K
            refine norm_ (a' := ?_) ?_ ?_
            rotate_left
            · show Act.put _ (some 23) _ = _
              simp only [Act.put, List.setIfInBounds_toArray, List.set_cons_zero, List.set_cons_succ, i64_w, i32_w]
              rfl
            refine one_ (i := 4) (N := some 24) #[true, true, true, true, true, false] rfl rfl (by kernel_rfl) (by decide) (fun K hK => ?_)
            refine goes_ Try.func23 (by kernel_rfl) rfl #[.agg #[.slice Ao42 t144.length co42, .int .i64 t147, .slice Ao43 t148.length co43, .int .i64 t151, .int .i64 t152, .int .i64 t153, .int .i64 t154, .int .i64 t155, .slice Ao44 t156.length co44], .agg #[.slice Ao45 t159.length co45, .int .i64 t162, .slice Ao46 t163.length co46, .int .i64 t166, .int .i64 t167, .int .i64 t168, .int .i64 t169, .int .i64 t170, .slice Ao47 t171.length co47]] (by rfl) rfl rfl gl_ ?_
            with_reducible refine (spec_Before.calls _ _ t144 t147 _ _ t148 t151 t152 t153 t154 t155 _ _ t156 _ _ t159 t162 _ _ t163 t166 t167 t168 t169 t170 _ _ t171 t174 _ ?side1 ?side2 ?side3 ?side4 ?side5 ?side6 ?side7 ?side8 ?side9 ?side10 ?side11 ?side12 A21.out).mono ?_
            (case side1 => exact ca_ ((Kd.R_reads' HO146.out).2.2))
            (case side2 => exact (Kd.R_reads' HO146.out).2.1)
            (case side3 => exact ca_ ((Kd.R_reads' HO150.out).2.2))
            (case side4 => exact (Kd.R_reads' HO150.out).2.1)
            (case side5 => exact ca_ ((Kd.R_reads' HO158.out).2.2))
            (case side6 => exact (Kd.R_reads' HO158.out).2.1)
            (case side7 => exact ca_ ((Kd.R_reads' HO161.out).2.2))
            (case side8 => exact (Kd.R_reads' HO161.out).2.1)
            (case side9 => exact ca_ ((Kd.R_reads' HO165.out).2.2))
            (case side10 => exact (Kd.R_reads' HO165.out).2.1)
            (case side11 => exact ca_ ((Kd.R_reads' HO173.out).2.2))
            (case side12 => exact (Kd.R_reads' HO173.out).2.1)
            rintro e w48 ⟨rfl, hb⟩
            refine ⟨_, rfl, ?_⟩
            have n0_ := Aside0.mk (Kd.R_below (ra_ HO146) hb)
            have n1_ := Aside0.mk (Kd.R_below (ra_ HO150) hb)
            have n2_ := Aside0.mk (Kd.R_below (ra_ HO158) hb)
            have n3_ := Aside0.mk (Kd.R_below (ra_ HO161) hb)
            have n4_ := Aside0.mk (Kd.R_below (ra_ HO165) hb)
            have n5_ := Aside0.mk (Kd.R_below (ra_ HO173) hb)
            have n6_ := Aside0.mk (blk_below (bk_ BK140) hb)
            have n7_ := Aside0.mk (blk_below (bk_ BK141) hb)
            have n8_ := Aside0.mk (below_step bl_ hb)
            clear HO146
            clear HO150
            clear HO158
            clear HO161
            clear HO165
            clear HO173
            clear BK140
            clear BK141
            clear HB
            have HO146 := n0_
            have HO150 := n1_
            have HO158 := n2_
            have HO161 := n3_
            have HO165 := n4_
            have HO173 := n5_
            have BK140 := n6_
            have BK141 := n7_
            have HB := n8_
            clear n0_ n1_ n2_ n3_ n4_ n5_ n6_ n7_ n8_
            (try clear hb)
            (try clear hb2)
            (try clear hk)
            (try clear hi)
            refine hK.out _ _ ⟨(blk_cell BK140.out 0).trans rfl, (blk_cell BK140.out 1).trans rfl, (blk_cell BK140.out 2).trans rfl, (blk_cell BK140.out 3).trans rfl, (blk_cell BK140.out 4).trans rfl, (blk_cell BK140.out 5).trans rfl, (blk_cell BK140.out 6).trans rfl, (blk_cell BK140.out 7).trans rfl, (blk_cell BK140.out 8).trans rfl, (blk_cell BK141.out 0).trans rfl, (blk_cell BK141.out 1).trans rfl, (blk_cell BK141.out 2).trans rfl, (blk_cell BK141.out 3).trans rfl, (blk_cell BK141.out 4).trans rfl, (blk_cell BK141.out 5).trans rfl, (blk_cell BK141.out 6).trans rfl, (blk_cell BK141.out 7).trans rfl, (blk_cell BK141.out 8).trans rfl⟩ (fun hHeld => ?_)
            clear hK K
            refine norm_ (a' := ?_) ?_ ?_
            rotate_left
            · show Act.put _ (some 24) _ = _
              simp only [Act.put, List.setIfInBounds_toArray, List.set_cons_zero, List.set_cons_succ, i64_w, i32_w]
              rfl
            refine pure_ (i := 5) (N := some 6) (v := ?_) (a' := ?_) #[true, true, true, true, true, true] rfl rfl (by kernel_rfl) (fun _ _ _ h => h) (Or.inl ⟨by rfl, ?_⟩) ?_ ?_
            rotate_left
            · intro w'
              go_simp
              with_reducible rfl
            rotate_left
            · simp only [Act.put, List.setIfInBounds_toArray, List.set_cons_zero, List.set_cons_succ, i64_w, i32_w]
              rfl
            refine done_ (by kernel_rfl) ?_
            have hcz49_0 := cz_ BK140 0 (.slice A0_0 l0_0.length c0_0)
            have hcz49_1 := cz_ BK140 1 (.int .i64 a0_1)
            have hcz49_2 := cz_ BK140 2 (.slice A0_2 l0_2.length c0_2)
            have hcz49_3 := cz_ BK140 3 (.int .i64 a0_3)
            have hcz49_4 := cz_ BK140 4 (.int .i64 a0_4)
            have hcz49_5 := cz_ BK140 5 (.int .i64 a0_5)
            have hcz49_6 := cz_ BK140 6 (.int .i64 a0_6)
            have hcz49_7 := cz_ BK140 7 (.int .i64 a0_7)
            have hcz49_8 := cz_ BK140 8 (.slice A0_8 l0_8.length c0_8)
            have hfz49_0 := fz_ BK140 0
            have hfz49_1 := fz_ BK140 1
            have hfz49_2 := fz_ BK140 2
            have hfz49_3 := fz_ BK140 3
            have hfz49_4 := fz_ BK140 4
            have hfz49_5 := fz_ BK140 5
            have hfz49_6 := fz_ BK140 6
            have hfz49_7 := fz_ BK140 7
            have hfz49_8 := fz_ BK140 8
            try go_wp2_with (first | ((with_reducible refine gate_callee (f := 24) rfl ?_); refine goesL_ (some 26) rfl rfl Try.func24 (by kernel_rfl) rfl #[.agg #[.slice A0_0 l0_0.length c0_0, .int .i64 a0_1, .slice A0_2 l0_2.length c0_2, .int .i64 a0_3, .int .i64 a0_4, .int .i64 a0_5, .int .i64 a0_6, .int .i64 a0_7, .slice A0_8 l0_8.length c0_8]] rfl gl_ ?_; (with_reducible refine (laws_toTask.calls k _ _ l0_0 a0_1 _ _ l0_2 a0_3 a0_4 a0_5 a0_6 a0_7 _ _ l0_8 t175 t178 t179 t182 t183 t184 t185 t186 t187 _ ?side1 ?side2 ?side3 ?side4 ?side5 ?side6 A22.out).mono ?_); (case side1 => exact ca_ (Kd.C_below HR0_0.out HB.out)); (case side2 => exact HC0_0.out); (case side3 => exact ca_ (Kd.C_below HR0_2.out HB.out)); (case side4 => exact HC0_2.out); (case side5 => exact ca_ (Kd.C_below HR0_8.out HB.out)); (case side6 => exact HC0_8.out); rintro e w50 ⟨v176, v180, v188, rfl, ho0, ho1, ho2, hb⟩; refine ⟨_, rfl, ?_⟩; have n0_ := Aside0.mk (Kd.R_mono (Kd.R_told (Kd.R_told (Kd.R_old (ra_ HO146) hb) (Kd.R_base ho0)) (Kd.R_base ho2)) (fun _ h_ => h_.1)); have n1_ := Aside0.mk (Kd.R_elder' (ra_ HO150) (Kd.R_base ho1) hb); have n2_ := Aside0.mk (Kd.R_mono (Kd.R_told (Kd.R_told (Kd.R_old (ra_ HO158) hb) (Kd.R_base ho0)) (Kd.R_base ho2)) (fun _ h_ => h_.1)); have n3_ := Aside0.mk (Kd.R_mono (Kd.R_told (Kd.R_told (Kd.R_old (ra_ HO161) hb) (Kd.R_base ho0)) (Kd.R_base ho2)) (fun _ h_ => h_.1)); have n4_ := Aside0.mk (Kd.R_elder' (ra_ HO165) (Kd.R_base ho1) hb); have n5_ := Aside0.mk (Kd.R_mono (Kd.R_told (Kd.R_told (Kd.R_old (ra_ HO173) hb) (Kd.R_base ho0)) (Kd.R_base ho2)) (fun _ h_ => h_.1)); have n6_ := Aside0.mk (Kd.R_lower (Kd.R_new' (Kd.R_new' (Kd.R_new' (Kd.R_new' ho0 (Kd.R_lt (ra_ HO146))) (Kd.R_lt (ra_ HO158))) (Kd.R_lt (ra_ HO161))) (Kd.R_lt (ra_ HO173))) (below_size bl_)); have n7_ := Aside0.mk (Kd.R_lower (Kd.R_new' (Kd.R_new' ho1 (Kd.R_lt (ra_ HO150))) (Kd.R_lt (ra_ HO165))) (below_size bl_)); have n8_ := Aside0.mk (Kd.R_lower (Kd.R_new' (Kd.R_new' (Kd.R_new' (Kd.R_new' ho2 (Kd.R_lt (ra_ HO146))) (Kd.R_lt (ra_ HO158))) (Kd.R_lt (ra_ HO161))) (Kd.R_lt (ra_ HO173))) (below_size bl_)); have n9_ := Aside0.mk (blk_below (bk_ BK140) hb); have n10_ := Aside0.mk (blk_below (bk_ BK141) hb); have n11_ := Aside0.mk (below_step bl_ hb); clear HO146; clear HO150; clear HO158; clear HO161; clear HO165; clear HO173; clear BK140; clear BK141; clear HB; have HO146 := n0_; have HO150 := n1_; have HO158 := n2_; have HO161 := n3_; have HO165 := n4_; have HO173 := n5_; have HO177 := n6_; have HO181 := n7_; have HO189 := n8_; have BK140 := n9_; have BK141 := n10_; have HB := n11_; clear n0_ n1_ n2_ n3_ n4_ n5_ n6_ n7_ n8_ n9_ n10_ n11_; (try clear hb); (try clear hb2); (try clear hk); (try clear hi); (try clear ho0); (try clear ho1); (try clear ho2)) | ((with_reducible refine gate_dst (N := 7) rfl ?_); refine box_event ?hg (N := 7) ?hd (cs := #[.slice none 0 0, .int .i64 0, .slice none 0 0, .int .i64 0, .int .i64 0, .int .i64 0, .int .i64 0, .int .i64 0, .slice none 0 0]) (t := 36) ?hr ?_; (case hd => rfl); (case hg => rfl); (case hr => first | (go_simp; done) | (go_simp; rfl)); intro gb190 hg w51 hbox hb; have n0_ := Aside0.mk (Kd.R_below (ra_ HO146) hb); have n1_ := Aside0.mk (Kd.R_below (ra_ HO150) hb); have n2_ := Aside0.mk (Kd.R_below (ra_ HO158) hb); have n3_ := Aside0.mk (Kd.R_below (ra_ HO161) hb); have n4_ := Aside0.mk (Kd.R_below (ra_ HO165) hb); have n5_ := Aside0.mk (Kd.R_below (ra_ HO173) hb); have n6_ := Aside0.mk (Kd.R_below (ra_ HO177) hb); have n7_ := Aside0.mk (Kd.R_below (ra_ HO181) hb); have n8_ := Aside0.mk (Kd.R_below (ra_ HO189) hb); have n9_ := Aside0.mk (blk_below (bk_ BK140) hb); have n10_ := Aside0.mk (blk_below (bk_ BK141) hb); have n11_ := Aside0.mk (below_step bl_ hb); have n12_ := Aside0.mk (hbox); have n13_ := Aside0.mk ((by rw [hg]; exact (below_size bl_) : w.heap.size ≤ gb190)); have n14_ := Aside0.mk ((by rw [hg]; exact (below_size bl_) : w.heap.size ≤ gb190)); have n15_ := Aside0.mk ((by rw [hg]; exact Nat.ne_of_lt (blk_lt (bk_ BK140)) : gb140 ≠ gb190)); have n16_ := Aside0.mk ((by rw [hg]; exact Nat.ne_of_gt (blk_lt (bk_ BK140)) : gb190 ≠ gb140)); have n17_ := Aside0.mk ((by rw [hg]; exact Nat.ne_of_lt (blk_lt (bk_ BK141)) : gb141 ≠ gb190)); have n18_ := Aside0.mk ((by rw [hg]; exact Nat.ne_of_gt (blk_lt (bk_ BK141)) : gb190 ≠ gb141)); clear HO146; clear HO150; clear HO158; clear HO161; clear HO165; clear HO173; clear HO177; clear HO181; clear HO189; clear BK140; clear BK141; clear HB; have HO146 := n0_; have HO150 := n1_; have HO158 := n2_; have HO161 := n3_; have HO165 := n4_; have HO173 := n5_; have HO177 := n6_; have HO181 := n7_; have HO189 := n8_; have BK140 := n9_; have BK141 := n10_; have HB := n11_; have BK190 := n12_; have GW190 := n13_; have GE190 := n14_; have NB140_190 := n15_; have NB190_140 := n16_; have NB141_190 := n17_; have NB190_141 := n18_; clear n0_ n1_ n2_ n3_ n4_ n5_ n6_ n7_ n8_ n9_ n10_ n11_ n12_ n13_ n14_ n15_ n16_ n17_ n18_; clear hb hbox hg; obtain ⟨Ao52, co52, eo52⟩ := Kd.R_slice HO177.out; subst eo52; have hnb53 := NB190_140.out; have hnc53 := NB140_190.out; have hnb54 := NB190_141.out; have hnc54 := NB141_190.out; have hcz55_0 := cz_ BK190 0 (.slice none 0 0); have hcz55_1 := cz_ BK190 1 (.int .i64 0); have hcz55_2 := cz_ BK190 2 (.slice none 0 0); have hcz55_3 := cz_ BK190 3 (.int .i64 0); have hcz55_4 := cz_ BK190 4 (.int .i64 0); have hcz55_5 := cz_ BK190 5 (.int .i64 0); have hcz55_6 := cz_ BK190 6 (.int .i64 0); have hcz55_7 := cz_ BK190 7 (.int .i64 0); have hcz55_8 := cz_ BK190 8 (.slice none 0 0); have hfz55_0 := fz_ BK190 0; have hfz55_1 := fz_ BK190 1; have hfz55_2 := fz_ BK190 2; have hfz55_3 := fz_ BK190 3; have hfz55_4 := fz_ BK190 4; have hfz55_5 := fz_ BK190 5; have hfz55_6 := fz_ BK190 6; have hfz55_7 := fz_ BK190 7; have hfz55_8 := fz_ BK190 8; obtain ⟨Ao56, co56, eo56⟩ := Kd.R_slice HO181.out; subst eo56; obtain ⟨Ao57, co57, eo57⟩ := Kd.R_slice HO189.out; subst eo57; have hcz58_0 := cz_ BK141 0 (.slice A1_0 l1_0.length c1_0); have hcz58_1 := cz_ BK141 1 (.int .i64 a1_1); have hcz58_2 := cz_ BK141 2 (.slice A1_2 l1_2.length c1_2); have hcz58_3 := cz_ BK141 3 (.int .i64 a1_3); have hcz58_4 := cz_ BK141 4 (.int .i64 a1_4); have hcz58_5 := cz_ BK141 5 (.int .i64 a1_5); have hcz58_6 := cz_ BK141 6 (.int .i64 a1_6); have hcz58_7 := cz_ BK141 7 (.int .i64 a1_7); have hcz58_8 := cz_ BK141 8 (.slice A1_8 l1_8.length c1_8); have hfz58_0 := fz_ BK141 0; have hfz58_1 := fz_ BK141 1; have hfz58_2 := fz_ BK141 2; have hfz58_3 := fz_ BK141 3; have hfz58_4 := fz_ BK141 4; have hfz58_5 := fz_ BK141 5; have hfz58_6 := fz_ BK141 6; have hfz58_7 := fz_ BK141 7; have hfz58_8 := fz_ BK141 8) | ((with_reducible refine gate_callee (f := 24) rfl ?_); refine goesL_ (some 28) rfl rfl Try.func24 (by kernel_rfl) rfl #[.agg #[.slice A1_0 l1_0.length c1_0, .int .i64 a1_1, .slice A1_2 l1_2.length c1_2, .int .i64 a1_3, .int .i64 a1_4, .int .i64 a1_5, .int .i64 a1_6, .int .i64 a1_7, .slice A1_8 l1_8.length c1_8]] rfl gl_ ?_; (with_reducible refine (laws_toTask.calls k _ _ l1_0 a1_1 _ _ l1_2 a1_3 a1_4 a1_5 a1_6 a1_7 _ _ l1_8 t191 t194 t195 t198 t199 t200 t201 t202 t203 _ ?side1 ?side2 ?side3 ?side4 ?side5 ?side6 A23.out).mono ?_); (case side1 => exact Kd.C_below HR1_0.out bl_); (case side2 => exact HC1_0.out); (case side3 => exact Kd.C_below HR1_2.out bl_); (case side4 => exact HC1_2.out); (case side5 => exact Kd.C_below HR1_8.out bl_); (case side6 => exact HC1_8.out); rintro e w59 ⟨v192, v196, v204, rfl, ho0, ho1, ho2, hb⟩; refine ⟨_, rfl, ?_⟩; have n0_ := Aside0.mk (Kd.R_mono (Kd.R_told (Kd.R_told (Kd.R_old (by (with_reducible repeat (first | apply Kd.R_alloc | apply Kd.R_drewN | apply Kd.R_drew)); exact (Kd.R_mono (Kd.R_far (p := ⟨gb190, 8, none⟩) (Kd.R_far (p := ⟨gb190, 7, none⟩) (Kd.R_far (p := ⟨gb190, 6, none⟩) (Kd.R_far (p := ⟨gb190, 5, none⟩) (Kd.R_far (p := ⟨gb190, 4, none⟩) (Kd.R_far (p := ⟨gb190, 3, none⟩) (Kd.R_far (p := ⟨gb190, 2, none⟩) (Kd.R_far (p := ⟨gb190, 1, none⟩) (Kd.R_far (p := ⟨gb190, 0, none⟩) (Kd.R_types HO146.out BK190.out (by decide)) (fun _ hk => hk.2) (.slice Ao52 t175.length co52)) (fun _ hk => hk.2) (.int .i64 t178)) (fun _ hk => hk.2) (.slice Ao56 t179.length co56)) (fun _ hk => hk.2) (.int .i64 t182)) (fun _ hk => hk.2) (.int .i64 t183)) (fun _ hk => hk.2) (.int .i64 t184)) (fun _ hk => hk.2) (.int .i64 t185)) (fun _ hk => hk.2) (.int .i64 t186)) (fun _ hk => hk.2) (.slice Ao57 t187.length co57)) (fun _ h_ => h_.1))) hb) (Kd.R_base ho0)) (Kd.R_base ho2)) (fun _ h_ => h_.1)); have n1_ := Aside0.mk (Kd.R_elder' (by (with_reducible repeat (first | apply Kd.R_alloc | apply Kd.R_drewN | apply Kd.R_drew)); exact (Kd.R_mono (Kd.R_far (p := ⟨gb190, 8, none⟩) (Kd.R_far (p := ⟨gb190, 7, none⟩) (Kd.R_far (p := ⟨gb190, 6, none⟩) (Kd.R_far (p := ⟨gb190, 5, none⟩) (Kd.R_far (p := ⟨gb190, 4, none⟩) (Kd.R_far (p := ⟨gb190, 3, none⟩) (Kd.R_far (p := ⟨gb190, 2, none⟩) (Kd.R_far (p := ⟨gb190, 1, none⟩) (Kd.R_far (p := ⟨gb190, 0, none⟩) (Kd.R_types HO150.out BK190.out (by decide)) (fun _ hk => hk.2) (.slice Ao52 t175.length co52)) (fun _ hk => hk.2) (.int .i64 t178)) (fun _ hk => hk.2) (.slice Ao56 t179.length co56)) (fun _ hk => hk.2) (.int .i64 t182)) (fun _ hk => hk.2) (.int .i64 t183)) (fun _ hk => hk.2) (.int .i64 t184)) (fun _ hk => hk.2) (.int .i64 t185)) (fun _ hk => hk.2) (.int .i64 t186)) (fun _ hk => hk.2) (.slice Ao57 t187.length co57)) (fun _ h_ => h_.1))) (Kd.R_base ho1) hb); have n2_ := Aside0.mk (Kd.R_mono (Kd.R_told (Kd.R_told (Kd.R_old (by (with_reducible repeat (first | apply Kd.R_alloc | apply Kd.R_drewN | apply Kd.R_drew)); exact (Kd.R_mono (Kd.R_far (p := ⟨gb190, 8, none⟩) (Kd.R_far (p := ⟨gb190, 7, none⟩) (Kd.R_far (p := ⟨gb190, 6, none⟩) (Kd.R_far (p := ⟨gb190, 5, none⟩) (Kd.R_far (p := ⟨gb190, 4, none⟩) (Kd.R_far (p := ⟨gb190, 3, none⟩) (Kd.R_far (p := ⟨gb190, 2, none⟩) (Kd.R_far (p := ⟨gb190, 1, none⟩) (Kd.R_far (p := ⟨gb190, 0, none⟩) (Kd.R_types HO158.out BK190.out (by decide)) (fun _ hk => hk.2) (.slice Ao52 t175.length co52)) (fun _ hk => hk.2) (.int .i64 t178)) (fun _ hk => hk.2) (.slice Ao56 t179.length co56)) (fun _ hk => hk.2) (.int .i64 t182)) (fun _ hk => hk.2) (.int .i64 t183)) (fun _ hk => hk.2) (.int .i64 t184)) (fun _ hk => hk.2) (.int .i64 t185)) (fun _ hk => hk.2) (.int .i64 t186)) (fun _ hk => hk.2) (.slice Ao57 t187.length co57)) (fun _ h_ => h_.1))) hb) (Kd.R_base ho0)) (Kd.R_base ho2)) (fun _ h_ => h_.1)); have n3_ := Aside0.mk (Kd.R_mono (Kd.R_told (Kd.R_told (Kd.R_old (by (with_reducible repeat (first | apply Kd.R_alloc | apply Kd.R_drewN | apply Kd.R_drew)); exact (Kd.R_mono (Kd.R_far (p := ⟨gb190, 8, none⟩) (Kd.R_far (p := ⟨gb190, 7, none⟩) (Kd.R_far (p := ⟨gb190, 6, none⟩) (Kd.R_far (p := ⟨gb190, 5, none⟩) (Kd.R_far (p := ⟨gb190, 4, none⟩) (Kd.R_far (p := ⟨gb190, 3, none⟩) (Kd.R_far (p := ⟨gb190, 2, none⟩) (Kd.R_far (p := ⟨gb190, 1, none⟩) (Kd.R_far (p := ⟨gb190, 0, none⟩) (Kd.R_types HO161.out BK190.out (by decide)) (fun _ hk => hk.2) (.slice Ao52 t175.length co52)) (fun _ hk => hk.2) (.int .i64 t178)) (fun _ hk => hk.2) (.slice Ao56 t179.length co56)) (fun _ hk => hk.2) (.int .i64 t182)) (fun _ hk => hk.2) (.int .i64 t183)) (fun _ hk => hk.2) (.int .i64 t184)) (fun _ hk => hk.2) (.int .i64 t185)) (fun _ hk => hk.2) (.int .i64 t186)) (fun _ hk => hk.2) (.slice Ao57 t187.length co57)) (fun _ h_ => h_.1))) hb) (Kd.R_base ho0)) (Kd.R_base ho2)) (fun _ h_ => h_.1)); have n4_ := Aside0.mk (Kd.R_elder' (by (with_reducible repeat (first | apply Kd.R_alloc | apply Kd.R_drewN | apply Kd.R_drew)); exact (Kd.R_mono (Kd.R_far (p := ⟨gb190, 8, none⟩) (Kd.R_far (p := ⟨gb190, 7, none⟩) (Kd.R_far (p := ⟨gb190, 6, none⟩) (Kd.R_far (p := ⟨gb190, 5, none⟩) (Kd.R_far (p := ⟨gb190, 4, none⟩) (Kd.R_far (p := ⟨gb190, 3, none⟩) (Kd.R_far (p := ⟨gb190, 2, none⟩) (Kd.R_far (p := ⟨gb190, 1, none⟩) (Kd.R_far (p := ⟨gb190, 0, none⟩) (Kd.R_types HO165.out BK190.out (by decide)) (fun _ hk => hk.2) (.slice Ao52 t175.length co52)) (fun _ hk => hk.2) (.int .i64 t178)) (fun _ hk => hk.2) (.slice Ao56 t179.length co56)) (fun _ hk => hk.2) (.int .i64 t182)) (fun _ hk => hk.2) (.int .i64 t183)) (fun _ hk => hk.2) (.int .i64 t184)) (fun _ hk => hk.2) (.int .i64 t185)) (fun _ hk => hk.2) (.int .i64 t186)) (fun _ hk => hk.2) (.slice Ao57 t187.length co57)) (fun _ h_ => h_.1))) (Kd.R_base ho1) hb); have n5_ := Aside0.mk (Kd.R_mono (Kd.R_told (Kd.R_told (Kd.R_old (by (with_reducible repeat (first | apply Kd.R_alloc | apply Kd.R_drewN | apply Kd.R_drew)); exact (Kd.R_mono (Kd.R_far (p := ⟨gb190, 8, none⟩) (Kd.R_far (p := ⟨gb190, 7, none⟩) (Kd.R_far (p := ⟨gb190, 6, none⟩) (Kd.R_far (p := ⟨gb190, 5, none⟩) (Kd.R_far (p := ⟨gb190, 4, none⟩) (Kd.R_far (p := ⟨gb190, 3, none⟩) (Kd.R_far (p := ⟨gb190, 2, none⟩) (Kd.R_far (p := ⟨gb190, 1, none⟩) (Kd.R_far (p := ⟨gb190, 0, none⟩) (Kd.R_types HO173.out BK190.out (by decide)) (fun _ hk => hk.2) (.slice Ao52 t175.length co52)) (fun _ hk => hk.2) (.int .i64 t178)) (fun _ hk => hk.2) (.slice Ao56 t179.length co56)) (fun _ hk => hk.2) (.int .i64 t182)) (fun _ hk => hk.2) (.int .i64 t183)) (fun _ hk => hk.2) (.int .i64 t184)) (fun _ hk => hk.2) (.int .i64 t185)) (fun _ hk => hk.2) (.int .i64 t186)) (fun _ hk => hk.2) (.slice Ao57 t187.length co57)) (fun _ h_ => h_.1))) hb) (Kd.R_base ho0)) (Kd.R_base ho2)) (fun _ h_ => h_.1)); have n6_ := Aside0.mk (Kd.R_mono (Kd.R_told (Kd.R_told (Kd.R_old (by (with_reducible repeat (first | apply Kd.R_alloc | apply Kd.R_drewN | apply Kd.R_drew)); exact (Kd.R_mono (Kd.R_far (p := ⟨gb190, 8, none⟩) (Kd.R_far (p := ⟨gb190, 7, none⟩) (Kd.R_far (p := ⟨gb190, 6, none⟩) (Kd.R_far (p := ⟨gb190, 5, none⟩) (Kd.R_far (p := ⟨gb190, 4, none⟩) (Kd.R_far (p := ⟨gb190, 3, none⟩) (Kd.R_far (p := ⟨gb190, 2, none⟩) (Kd.R_far (p := ⟨gb190, 1, none⟩) (Kd.R_far (p := ⟨gb190, 0, none⟩) (Kd.R_types HO177.out BK190.out (by decide)) (fun _ hk => hk.2) (.slice Ao52 t175.length co52)) (fun _ hk => hk.2) (.int .i64 t178)) (fun _ hk => hk.2) (.slice Ao56 t179.length co56)) (fun _ hk => hk.2) (.int .i64 t182)) (fun _ hk => hk.2) (.int .i64 t183)) (fun _ hk => hk.2) (.int .i64 t184)) (fun _ hk => hk.2) (.int .i64 t185)) (fun _ hk => hk.2) (.int .i64 t186)) (fun _ hk => hk.2) (.slice Ao57 t187.length co57)) (fun _ h_ => h_.1))) hb) (Kd.R_base ho0)) (Kd.R_base ho2)) (fun _ h_ => h_.1)); have n7_ := Aside0.mk (Kd.R_elder' (by (with_reducible repeat (first | apply Kd.R_alloc | apply Kd.R_drewN | apply Kd.R_drew)); exact (Kd.R_mono (Kd.R_far (p := ⟨gb190, 8, none⟩) (Kd.R_far (p := ⟨gb190, 7, none⟩) (Kd.R_far (p := ⟨gb190, 6, none⟩) (Kd.R_far (p := ⟨gb190, 5, none⟩) (Kd.R_far (p := ⟨gb190, 4, none⟩) (Kd.R_far (p := ⟨gb190, 3, none⟩) (Kd.R_far (p := ⟨gb190, 2, none⟩) (Kd.R_far (p := ⟨gb190, 1, none⟩) (Kd.R_far (p := ⟨gb190, 0, none⟩) (Kd.R_types HO181.out BK190.out (by decide)) (fun _ hk => hk.2) (.slice Ao52 t175.length co52)) (fun _ hk => hk.2) (.int .i64 t178)) (fun _ hk => hk.2) (.slice Ao56 t179.length co56)) (fun _ hk => hk.2) (.int .i64 t182)) (fun _ hk => hk.2) (.int .i64 t183)) (fun _ hk => hk.2) (.int .i64 t184)) (fun _ hk => hk.2) (.int .i64 t185)) (fun _ hk => hk.2) (.int .i64 t186)) (fun _ hk => hk.2) (.slice Ao57 t187.length co57)) (fun _ h_ => h_.1))) (Kd.R_base ho1) hb); have n8_ := Aside0.mk (Kd.R_mono (Kd.R_told (Kd.R_told (Kd.R_old (by (with_reducible repeat (first | apply Kd.R_alloc | apply Kd.R_drewN | apply Kd.R_drew)); exact (Kd.R_mono (Kd.R_far (p := ⟨gb190, 8, none⟩) (Kd.R_far (p := ⟨gb190, 7, none⟩) (Kd.R_far (p := ⟨gb190, 6, none⟩) (Kd.R_far (p := ⟨gb190, 5, none⟩) (Kd.R_far (p := ⟨gb190, 4, none⟩) (Kd.R_far (p := ⟨gb190, 3, none⟩) (Kd.R_far (p := ⟨gb190, 2, none⟩) (Kd.R_far (p := ⟨gb190, 1, none⟩) (Kd.R_far (p := ⟨gb190, 0, none⟩) (Kd.R_types HO189.out BK190.out (by decide)) (fun _ hk => hk.2) (.slice Ao52 t175.length co52)) (fun _ hk => hk.2) (.int .i64 t178)) (fun _ hk => hk.2) (.slice Ao56 t179.length co56)) (fun _ hk => hk.2) (.int .i64 t182)) (fun _ hk => hk.2) (.int .i64 t183)) (fun _ hk => hk.2) (.int .i64 t184)) (fun _ hk => hk.2) (.int .i64 t185)) (fun _ hk => hk.2) (.int .i64 t186)) (fun _ hk => hk.2) (.slice Ao57 t187.length co57)) (fun _ h_ => h_.1))) hb) (Kd.R_base ho0)) (Kd.R_base ho2)) (fun _ h_ => h_.1)); have n9_ := Aside0.mk (Kd.R_lower (Kd.R_new' (Kd.R_new' (Kd.R_new' (Kd.R_new' (Kd.R_new' (Kd.R_new' ho0 (Kd.R_lt (by (with_reducible repeat (first | apply Kd.R_alloc | apply Kd.R_drewN | apply Kd.R_drew)); exact (Kd.R_mono (Kd.R_far (p := ⟨gb190, 8, none⟩) (Kd.R_far (p := ⟨gb190, 7, none⟩) (Kd.R_far (p := ⟨gb190, 6, none⟩) (Kd.R_far (p := ⟨gb190, 5, none⟩) (Kd.R_far (p := ⟨gb190, 4, none⟩) (Kd.R_far (p := ⟨gb190, 3, none⟩) (Kd.R_far (p := ⟨gb190, 2, none⟩) (Kd.R_far (p := ⟨gb190, 1, none⟩) (Kd.R_far (p := ⟨gb190, 0, none⟩) (Kd.R_types HO146.out BK190.out (by decide)) (fun _ hk => hk.2) (.slice Ao52 t175.length co52)) (fun _ hk => hk.2) (.int .i64 t178)) (fun _ hk => hk.2) (.slice Ao56 t179.length co56)) (fun _ hk => hk.2) (.int .i64 t182)) (fun _ hk => hk.2) (.int .i64 t183)) (fun _ hk => hk.2) (.int .i64 t184)) (fun _ hk => hk.2) (.int .i64 t185)) (fun _ hk => hk.2) (.int .i64 t186)) (fun _ hk => hk.2) (.slice Ao57 t187.length co57)) (fun _ h_ => h_.1))))) (Kd.R_lt (by (with_reducible repeat (first | apply Kd.R_alloc | apply Kd.R_drewN | apply Kd.R_drew)); exact (Kd.R_mono (Kd.R_far (p := ⟨gb190, 8, none⟩) (Kd.R_far (p := ⟨gb190, 7, none⟩) (Kd.R_far (p := ⟨gb190, 6, none⟩) (Kd.R_far (p := ⟨gb190, 5, none⟩) (Kd.R_far (p := ⟨gb190, 4, none⟩) (Kd.R_far (p := ⟨gb190, 3, none⟩) (Kd.R_far (p := ⟨gb190, 2, none⟩) (Kd.R_far (p := ⟨gb190, 1, none⟩) (Kd.R_far (p := ⟨gb190, 0, none⟩) (Kd.R_types HO158.out BK190.out (by decide)) (fun _ hk => hk.2) (.slice Ao52 t175.length co52)) (fun _ hk => hk.2) (.int .i64 t178)) (fun _ hk => hk.2) (.slice Ao56 t179.length co56)) (fun _ hk => hk.2) (.int .i64 t182)) (fun _ hk => hk.2) (.int .i64 t183)) (fun _ hk => hk.2) (.int .i64 t184)) (fun _ hk => hk.2) (.int .i64 t185)) (fun _ hk => hk.2) (.int .i64 t186)) (fun _ hk => hk.2) (.slice Ao57 t187.length co57)) (fun _ h_ => h_.1))))) (Kd.R_lt (by (with_reducible repeat (first | apply Kd.R_alloc | apply Kd.R_drewN | apply Kd.R_drew)); exact (Kd.R_mono (Kd.R_far (p := ⟨gb190, 8, none⟩) (Kd.R_far (p := ⟨gb190, 7, none⟩) (Kd.R_far (p := ⟨gb190, 6, none⟩) (Kd.R_far (p := ⟨gb190, 5, none⟩) (Kd.R_far (p := ⟨gb190, 4, none⟩) (Kd.R_far (p := ⟨gb190, 3, none⟩) (Kd.R_far (p := ⟨gb190, 2, none⟩) (Kd.R_far (p := ⟨gb190, 1, none⟩) (Kd.R_far (p := ⟨gb190, 0, none⟩) (Kd.R_types HO161.out BK190.out (by decide)) (fun _ hk => hk.2) (.slice Ao52 t175.length co52)) (fun _ hk => hk.2) (.int .i64 t178)) (fun _ hk => hk.2) (.slice Ao56 t179.length co56)) (fun _ hk => hk.2) (.int .i64 t182)) (fun _ hk => hk.2) (.int .i64 t183)) (fun _ hk => hk.2) (.int .i64 t184)) (fun _ hk => hk.2) (.int .i64 t185)) (fun _ hk => hk.2) (.int .i64 t186)) (fun _ hk => hk.2) (.slice Ao57 t187.length co57)) (fun _ h_ => h_.1))))) (Kd.R_lt (by (with_reducible repeat (first | apply Kd.R_alloc | apply Kd.R_drewN | apply Kd.R_drew)); exact (Kd.R_mono (Kd.R_far (p := ⟨gb190, 8, none⟩) (Kd.R_far (p := ⟨gb190, 7, none⟩) (Kd.R_far (p := ⟨gb190, 6, none⟩) (Kd.R_far (p := ⟨gb190, 5, none⟩) (Kd.R_far (p := ⟨gb190, 4, none⟩) (Kd.R_far (p := ⟨gb190, 3, none⟩) (Kd.R_far (p := ⟨gb190, 2, none⟩) (Kd.R_far (p := ⟨gb190, 1, none⟩) (Kd.R_far (p := ⟨gb190, 0, none⟩) (Kd.R_types HO173.out BK190.out (by decide)) (fun _ hk => hk.2) (.slice Ao52 t175.length co52)) (fun _ hk => hk.2) (.int .i64 t178)) (fun _ hk => hk.2) (.slice Ao56 t179.length co56)) (fun _ hk => hk.2) (.int .i64 t182)) (fun _ hk => hk.2) (.int .i64 t183)) (fun _ hk => hk.2) (.int .i64 t184)) (fun _ hk => hk.2) (.int .i64 t185)) (fun _ hk => hk.2) (.int .i64 t186)) (fun _ hk => hk.2) (.slice Ao57 t187.length co57)) (fun _ h_ => h_.1))))) (Kd.R_lt (by (with_reducible repeat (first | apply Kd.R_alloc | apply Kd.R_drewN | apply Kd.R_drew)); exact (Kd.R_mono (Kd.R_far (p := ⟨gb190, 8, none⟩) (Kd.R_far (p := ⟨gb190, 7, none⟩) (Kd.R_far (p := ⟨gb190, 6, none⟩) (Kd.R_far (p := ⟨gb190, 5, none⟩) (Kd.R_far (p := ⟨gb190, 4, none⟩) (Kd.R_far (p := ⟨gb190, 3, none⟩) (Kd.R_far (p := ⟨gb190, 2, none⟩) (Kd.R_far (p := ⟨gb190, 1, none⟩) (Kd.R_far (p := ⟨gb190, 0, none⟩) (Kd.R_types HO177.out BK190.out (by decide)) (fun _ hk => hk.2) (.slice Ao52 t175.length co52)) (fun _ hk => hk.2) (.int .i64 t178)) (fun _ hk => hk.2) (.slice Ao56 t179.length co56)) (fun _ hk => hk.2) (.int .i64 t182)) (fun _ hk => hk.2) (.int .i64 t183)) (fun _ hk => hk.2) (.int .i64 t184)) (fun _ hk => hk.2) (.int .i64 t185)) (fun _ hk => hk.2) (.int .i64 t186)) (fun _ hk => hk.2) (.slice Ao57 t187.length co57)) (fun _ h_ => h_.1))))) (Kd.R_lt (by (with_reducible repeat (first | apply Kd.R_alloc | apply Kd.R_drewN | apply Kd.R_drew)); exact (Kd.R_mono (Kd.R_far (p := ⟨gb190, 8, none⟩) (Kd.R_far (p := ⟨gb190, 7, none⟩) (Kd.R_far (p := ⟨gb190, 6, none⟩) (Kd.R_far (p := ⟨gb190, 5, none⟩) (Kd.R_far (p := ⟨gb190, 4, none⟩) (Kd.R_far (p := ⟨gb190, 3, none⟩) (Kd.R_far (p := ⟨gb190, 2, none⟩) (Kd.R_far (p := ⟨gb190, 1, none⟩) (Kd.R_far (p := ⟨gb190, 0, none⟩) (Kd.R_types HO189.out BK190.out (by decide)) (fun _ hk => hk.2) (.slice Ao52 t175.length co52)) (fun _ hk => hk.2) (.int .i64 t178)) (fun _ hk => hk.2) (.slice Ao56 t179.length co56)) (fun _ hk => hk.2) (.int .i64 t182)) (fun _ hk => hk.2) (.int .i64 t183)) (fun _ hk => hk.2) (.int .i64 t184)) (fun _ hk => hk.2) (.int .i64 t185)) (fun _ hk => hk.2) (.int .i64 t186)) (fun _ hk => hk.2) (.slice Ao57 t187.length co57)) (fun _ h_ => h_.1))))) (below_size bl_)); have n10_ := Aside0.mk (Kd.R_lower (Kd.R_new' (Kd.R_new' (Kd.R_new' ho1 (Kd.R_lt (by (with_reducible repeat (first | apply Kd.R_alloc | apply Kd.R_drewN | apply Kd.R_drew)); exact (Kd.R_mono (Kd.R_far (p := ⟨gb190, 8, none⟩) (Kd.R_far (p := ⟨gb190, 7, none⟩) (Kd.R_far (p := ⟨gb190, 6, none⟩) (Kd.R_far (p := ⟨gb190, 5, none⟩) (Kd.R_far (p := ⟨gb190, 4, none⟩) (Kd.R_far (p := ⟨gb190, 3, none⟩) (Kd.R_far (p := ⟨gb190, 2, none⟩) (Kd.R_far (p := ⟨gb190, 1, none⟩) (Kd.R_far (p := ⟨gb190, 0, none⟩) (Kd.R_types HO150.out BK190.out (by decide)) (fun _ hk => hk.2) (.slice Ao52 t175.length co52)) (fun _ hk => hk.2) (.int .i64 t178)) (fun _ hk => hk.2) (.slice Ao56 t179.length co56)) (fun _ hk => hk.2) (.int .i64 t182)) (fun _ hk => hk.2) (.int .i64 t183)) (fun _ hk => hk.2) (.int .i64 t184)) (fun _ hk => hk.2) (.int .i64 t185)) (fun _ hk => hk.2) (.int .i64 t186)) (fun _ hk => hk.2) (.slice Ao57 t187.length co57)) (fun _ h_ => h_.1))))) (Kd.R_lt (by (with_reducible repeat (first | apply Kd.R_alloc | apply Kd.R_drewN | apply Kd.R_drew)); exact (Kd.R_mono (Kd.R_far (p := ⟨gb190, 8, none⟩) (Kd.R_far (p := ⟨gb190, 7, none⟩) (Kd.R_far (p := ⟨gb190, 6, none⟩) (Kd.R_far (p := ⟨gb190, 5, none⟩) (Kd.R_far (p := ⟨gb190, 4, none⟩) (Kd.R_far (p := ⟨gb190, 3, none⟩) (Kd.R_far (p := ⟨gb190, 2, none⟩) (Kd.R_far (p := ⟨gb190, 1, none⟩) (Kd.R_far (p := ⟨gb190, 0, none⟩) (Kd.R_types HO165.out BK190.out (by decide)) (fun _ hk => hk.2) (.slice Ao52 t175.length co52)) (fun _ hk => hk.2) (.int .i64 t178)) (fun _ hk => hk.2) (.slice Ao56 t179.length co56)) (fun _ hk => hk.2) (.int .i64 t182)) (fun _ hk => hk.2) (.int .i64 t183)) (fun _ hk => hk.2) (.int .i64 t184)) (fun _ hk => hk.2) (.int .i64 t185)) (fun _ hk => hk.2) (.int .i64 t186)) (fun _ hk => hk.2) (.slice Ao57 t187.length co57)) (fun _ h_ => h_.1))))) (Kd.R_lt (by (with_reducible repeat (first | apply Kd.R_alloc | apply Kd.R_drewN | apply Kd.R_drew)); exact (Kd.R_mono (Kd.R_far (p := ⟨gb190, 8, none⟩) (Kd.R_far (p := ⟨gb190, 7, none⟩) (Kd.R_far (p := ⟨gb190, 6, none⟩) (Kd.R_far (p := ⟨gb190, 5, none⟩) (Kd.R_far (p := ⟨gb190, 4, none⟩) (Kd.R_far (p := ⟨gb190, 3, none⟩) (Kd.R_far (p := ⟨gb190, 2, none⟩) (Kd.R_far (p := ⟨gb190, 1, none⟩) (Kd.R_far (p := ⟨gb190, 0, none⟩) (Kd.R_types HO181.out BK190.out (by decide)) (fun _ hk => hk.2) (.slice Ao52 t175.length co52)) (fun _ hk => hk.2) (.int .i64 t178)) (fun _ hk => hk.2) (.slice Ao56 t179.length co56)) (fun _ hk => hk.2) (.int .i64 t182)) (fun _ hk => hk.2) (.int .i64 t183)) (fun _ hk => hk.2) (.int .i64 t184)) (fun _ hk => hk.2) (.int .i64 t185)) (fun _ hk => hk.2) (.int .i64 t186)) (fun _ hk => hk.2) (.slice Ao57 t187.length co57)) (fun _ h_ => h_.1))))) (below_size bl_)); have n11_ := Aside0.mk (Kd.R_lower (Kd.R_new' (Kd.R_new' (Kd.R_new' (Kd.R_new' (Kd.R_new' (Kd.R_new' ho2 (Kd.R_lt (by (with_reducible repeat (first | apply Kd.R_alloc | apply Kd.R_drewN | apply Kd.R_drew)); exact (Kd.R_mono (Kd.R_far (p := ⟨gb190, 8, none⟩) (Kd.R_far (p := ⟨gb190, 7, none⟩) (Kd.R_far (p := ⟨gb190, 6, none⟩) (Kd.R_far (p := ⟨gb190, 5, none⟩) (Kd.R_far (p := ⟨gb190, 4, none⟩) (Kd.R_far (p := ⟨gb190, 3, none⟩) (Kd.R_far (p := ⟨gb190, 2, none⟩) (Kd.R_far (p := ⟨gb190, 1, none⟩) (Kd.R_far (p := ⟨gb190, 0, none⟩) (Kd.R_types HO146.out BK190.out (by decide)) (fun _ hk => hk.2) (.slice Ao52 t175.length co52)) (fun _ hk => hk.2) (.int .i64 t178)) (fun _ hk => hk.2) (.slice Ao56 t179.length co56)) (fun _ hk => hk.2) (.int .i64 t182)) (fun _ hk => hk.2) (.int .i64 t183)) (fun _ hk => hk.2) (.int .i64 t184)) (fun _ hk => hk.2) (.int .i64 t185)) (fun _ hk => hk.2) (.int .i64 t186)) (fun _ hk => hk.2) (.slice Ao57 t187.length co57)) (fun _ h_ => h_.1))))) (Kd.R_lt (by (with_reducible repeat (first | apply Kd.R_alloc | apply Kd.R_drewN | apply Kd.R_drew)); exact (Kd.R_mono (Kd.R_far (p := ⟨gb190, 8, none⟩) (Kd.R_far (p := ⟨gb190, 7, none⟩) (Kd.R_far (p := ⟨gb190, 6, none⟩) (Kd.R_far (p := ⟨gb190, 5, none⟩) (Kd.R_far (p := ⟨gb190, 4, none⟩) (Kd.R_far (p := ⟨gb190, 3, none⟩) (Kd.R_far (p := ⟨gb190, 2, none⟩) (Kd.R_far (p := ⟨gb190, 1, none⟩) (Kd.R_far (p := ⟨gb190, 0, none⟩) (Kd.R_types HO158.out BK190.out (by decide)) (fun _ hk => hk.2) (.slice Ao52 t175.length co52)) (fun _ hk => hk.2) (.int .i64 t178)) (fun _ hk => hk.2) (.slice Ao56 t179.length co56)) (fun _ hk => hk.2) (.int .i64 t182)) (fun _ hk => hk.2) (.int .i64 t183)) (fun _ hk => hk.2) (.int .i64 t184)) (fun _ hk => hk.2) (.int .i64 t185)) (fun _ hk => hk.2) (.int .i64 t186)) (fun _ hk => hk.2) (.slice Ao57 t187.length co57)) (fun _ h_ => h_.1))))) (Kd.R_lt (by (with_reducible repeat (first | apply Kd.R_alloc | apply Kd.R_drewN | apply Kd.R_drew)); exact (Kd.R_mono (Kd.R_far (p := ⟨gb190, 8, none⟩) (Kd.R_far (p := ⟨gb190, 7, none⟩) (Kd.R_far (p := ⟨gb190, 6, none⟩) (Kd.R_far (p := ⟨gb190, 5, none⟩) (Kd.R_far (p := ⟨gb190, 4, none⟩) (Kd.R_far (p := ⟨gb190, 3, none⟩) (Kd.R_far (p := ⟨gb190, 2, none⟩) (Kd.R_far (p := ⟨gb190, 1, none⟩) (Kd.R_far (p := ⟨gb190, 0, none⟩) (Kd.R_types HO161.out BK190.out (by decide)) (fun _ hk => hk.2) (.slice Ao52 t175.length co52)) (fun _ hk => hk.2) (.int .i64 t178)) (fun _ hk => hk.2) (.slice Ao56 t179.length co56)) (fun _ hk => hk.2) (.int .i64 t182)) (fun _ hk => hk.2) (.int .i64 t183)) (fun _ hk => hk.2) (.int .i64 t184)) (fun _ hk => hk.2) (.int .i64 t185)) (fun _ hk => hk.2) (.int .i64 t186)) (fun _ hk => hk.2) (.slice Ao57 t187.length co57)) (fun _ h_ => h_.1))))) (Kd.R_lt (by (with_reducible repeat (first | apply Kd.R_alloc | apply Kd.R_drewN | apply Kd.R_drew)); exact (Kd.R_mono (Kd.R_far (p := ⟨gb190, 8, none⟩) (Kd.R_far (p := ⟨gb190, 7, none⟩) (Kd.R_far (p := ⟨gb190, 6, none⟩) (Kd.R_far (p := ⟨gb190, 5, none⟩) (Kd.R_far (p := ⟨gb190, 4, none⟩) (Kd.R_far (p := ⟨gb190, 3, none⟩) (Kd.R_far (p := ⟨gb190, 2, none⟩) (Kd.R_far (p := ⟨gb190, 1, none⟩) (Kd.R_far (p := ⟨gb190, 0, none⟩) (Kd.R_types HO173.out BK190.out (by decide)) (fun _ hk => hk.2) (.slice Ao52 t175.length co52)) (fun _ hk => hk.2) (.int .i64 t178)) (fun _ hk => hk.2) (.slice Ao56 t179.length co56)) (fun _ hk => hk.2) (.int .i64 t182)) (fun _ hk => hk.2) (.int .i64 t183)) (fun _ hk => hk.2) (.int .i64 t184)) (fun _ hk => hk.2) (.int .i64 t185)) (fun _ hk => hk.2) (.int .i64 t186)) (fun _ hk => hk.2) (.slice Ao57 t187.length co57)) (fun _ h_ => h_.1))))) (Kd.R_lt (by (with_reducible repeat (first | apply Kd.R_alloc | apply Kd.R_drewN | apply Kd.R_drew)); exact (Kd.R_mono (Kd.R_far (p := ⟨gb190, 8, none⟩) (Kd.R_far (p := ⟨gb190, 7, none⟩) (Kd.R_far (p := ⟨gb190, 6, none⟩) (Kd.R_far (p := ⟨gb190, 5, none⟩) (Kd.R_far (p := ⟨gb190, 4, none⟩) (Kd.R_far (p := ⟨gb190, 3, none⟩) (Kd.R_far (p := ⟨gb190, 2, none⟩) (Kd.R_far (p := ⟨gb190, 1, none⟩) (Kd.R_far (p := ⟨gb190, 0, none⟩) (Kd.R_types HO177.out BK190.out (by decide)) (fun _ hk => hk.2) (.slice Ao52 t175.length co52)) (fun _ hk => hk.2) (.int .i64 t178)) (fun _ hk => hk.2) (.slice Ao56 t179.length co56)) (fun _ hk => hk.2) (.int .i64 t182)) (fun _ hk => hk.2) (.int .i64 t183)) (fun _ hk => hk.2) (.int .i64 t184)) (fun _ hk => hk.2) (.int .i64 t185)) (fun _ hk => hk.2) (.int .i64 t186)) (fun _ hk => hk.2) (.slice Ao57 t187.length co57)) (fun _ h_ => h_.1))))) (Kd.R_lt (by (with_reducible repeat (first | apply Kd.R_alloc | apply Kd.R_drewN | apply Kd.R_drew)); exact (Kd.R_mono (Kd.R_far (p := ⟨gb190, 8, none⟩) (Kd.R_far (p := ⟨gb190, 7, none⟩) (Kd.R_far (p := ⟨gb190, 6, none⟩) (Kd.R_far (p := ⟨gb190, 5, none⟩) (Kd.R_far (p := ⟨gb190, 4, none⟩) (Kd.R_far (p := ⟨gb190, 3, none⟩) (Kd.R_far (p := ⟨gb190, 2, none⟩) (Kd.R_far (p := ⟨gb190, 1, none⟩) (Kd.R_far (p := ⟨gb190, 0, none⟩) (Kd.R_types HO189.out BK190.out (by decide)) (fun _ hk => hk.2) (.slice Ao52 t175.length co52)) (fun _ hk => hk.2) (.int .i64 t178)) (fun _ hk => hk.2) (.slice Ao56 t179.length co56)) (fun _ hk => hk.2) (.int .i64 t182)) (fun _ hk => hk.2) (.int .i64 t183)) (fun _ hk => hk.2) (.int .i64 t184)) (fun _ hk => hk.2) (.int .i64 t185)) (fun _ hk => hk.2) (.int .i64 t186)) (fun _ hk => hk.2) (.slice Ao57 t187.length co57)) (fun _ h_ => h_.1))))) (below_size bl_)); have n12_ := Aside0.mk (blk_below (g := gb140) (o := .cells #[.slice A0_0 l0_0.length c0_0, .int .i64 a0_1, .slice A0_2 l0_2.length c0_2, .int .i64 a0_3, .int .i64 a0_4, .int .i64 a0_5, .int .i64 a0_6, .int .i64 a0_7, .slice A0_8 l0_8.length c0_8] 33 (0, 0)) (by (with_reducible repeat (first | refine blk_drewN ?_ _ | refine blk_drew ?_ | refine blk_alloc ?_ _)); refine blk_far ?_ NB140_190.out _; (with_reducible repeat (first | refine blk_drewN ?_ _ | refine blk_drew ?_ | refine blk_alloc ?_ _)); refine blk_far ?_ NB140_190.out _; (with_reducible repeat (first | refine blk_drewN ?_ _ | refine blk_drew ?_ | refine blk_alloc ?_ _)); refine blk_far ?_ NB140_190.out _; (with_reducible repeat (first | refine blk_drewN ?_ _ | refine blk_drew ?_ | refine blk_alloc ?_ _)); refine blk_far ?_ NB140_190.out _; (with_reducible repeat (first | refine blk_drewN ?_ _ | refine blk_drew ?_ | refine blk_alloc ?_ _)); refine blk_far ?_ NB140_190.out _; (with_reducible repeat (first | refine blk_drewN ?_ _ | refine blk_drew ?_ | refine blk_alloc ?_ _)); refine blk_far ?_ NB140_190.out _; (with_reducible repeat (first | refine blk_drewN ?_ _ | refine blk_drew ?_ | refine blk_alloc ?_ _)); refine blk_far ?_ NB140_190.out _; (with_reducible repeat (first | refine blk_drewN ?_ _ | refine blk_drew ?_ | refine blk_alloc ?_ _)); refine blk_far ?_ NB140_190.out _; (with_reducible repeat (first | refine blk_drewN ?_ _ | refine blk_drew ?_ | refine blk_alloc ?_ _)); refine blk_far ?_ NB140_190.out _; (with_reducible repeat (first | refine blk_drewN ?_ _ | refine blk_drew ?_ | refine blk_alloc ?_ _)); exact BK140.out) hb); have n13_ := Aside0.mk (blk_below (g := gb141) (o := .cells #[.slice A1_0 l1_0.length c1_0, .int .i64 a1_1, .slice A1_2 l1_2.length c1_2, .int .i64 a1_3, .int .i64 a1_4, .int .i64 a1_5, .int .i64 a1_6, .int .i64 a1_7, .slice A1_8 l1_8.length c1_8] 33 (0, 0)) (by (with_reducible repeat (first | refine blk_drewN ?_ _ | refine blk_drew ?_ | refine blk_alloc ?_ _)); refine blk_far ?_ NB141_190.out _; (with_reducible repeat (first | refine blk_drewN ?_ _ | refine blk_drew ?_ | refine blk_alloc ?_ _)); refine blk_far ?_ NB141_190.out _; (with_reducible repeat (first | refine blk_drewN ?_ _ | refine blk_drew ?_ | refine blk_alloc ?_ _)); refine blk_far ?_ NB141_190.out _; (with_reducible repeat (first | refine blk_drewN ?_ _ | refine blk_drew ?_ | refine blk_alloc ?_ _)); refine blk_far ?_ NB141_190.out _; (with_reducible repeat (first | refine blk_drewN ?_ _ | refine blk_drew ?_ | refine blk_alloc ?_ _)); refine blk_far ?_ NB141_190.out _; (with_reducible repeat (first | refine blk_drewN ?_ _ | refine blk_drew ?_ | refine blk_alloc ?_ _)); refine blk_far ?_ NB141_190.out _; (with_reducible repeat (first | refine blk_drewN ?_ _ | refine blk_drew ?_ | refine blk_alloc ?_ _)); refine blk_far ?_ NB141_190.out _; (with_reducible repeat (first | refine blk_drewN ?_ _ | refine blk_drew ?_ | refine blk_alloc ?_ _)); refine blk_far ?_ NB141_190.out _; (with_reducible repeat (first | refine blk_drewN ?_ _ | refine blk_drew ?_ | refine blk_alloc ?_ _)); refine blk_far ?_ NB141_190.out _; (with_reducible repeat (first | refine blk_drewN ?_ _ | refine blk_drew ?_ | refine blk_alloc ?_ _)); exact BK141.out) hb); have n14_ := Aside0.mk (blk_below (g := gb190) (o := .cells #[.slice Ao52 t175.length co52, .int .i64 t178, .slice Ao56 t179.length co56, .int .i64 t182, .int .i64 t183, .int .i64 t184, .int .i64 t185, .int .i64 t186, .slice Ao57 t187.length co57] 36 (0, 0)) (by (with_reducible repeat (first | refine blk_drewN ?_ _ | refine blk_drew ?_ | refine blk_alloc ?_ _)); refine blk_put (cs := #[.slice Ao52 t175.length co52, .int .i64 t178, .slice Ao56 t179.length co56, .int .i64 t182, .int .i64 t183, .int .i64 t184, .int .i64 t185, .int .i64 t186, .slice none 0 0]) ?_ 8 _ rfl; (with_reducible repeat (first | refine blk_drewN ?_ _ | refine blk_drew ?_ | refine blk_alloc ?_ _)); refine blk_put (cs := #[.slice Ao52 t175.length co52, .int .i64 t178, .slice Ao56 t179.length co56, .int .i64 t182, .int .i64 t183, .int .i64 t184, .int .i64 t185, .int .i64 0, .slice none 0 0]) ?_ 7 _ rfl; (with_reducible repeat (first | refine blk_drewN ?_ _ | refine blk_drew ?_ | refine blk_alloc ?_ _)); refine blk_put (cs := #[.slice Ao52 t175.length co52, .int .i64 t178, .slice Ao56 t179.length co56, .int .i64 t182, .int .i64 t183, .int .i64 t184, .int .i64 0, .int .i64 0, .slice none 0 0]) ?_ 6 _ rfl; (with_reducible repeat (first | refine blk_drewN ?_ _ | refine blk_drew ?_ | refine blk_alloc ?_ _)); refine blk_put (cs := #[.slice Ao52 t175.length co52, .int .i64 t178, .slice Ao56 t179.length co56, .int .i64 t182, .int .i64 t183, .int .i64 0, .int .i64 0, .int .i64 0, .slice none 0 0]) ?_ 5 _ rfl; (with_reducible repeat (first | refine blk_drewN ?_ _ | refine blk_drew ?_ | refine blk_alloc ?_ _)); refine blk_put (cs := #[.slice Ao52 t175.length co52, .int .i64 t178, .slice Ao56 t179.length co56, .int .i64 t182, .int .i64 0, .int .i64 0, .int .i64 0, .int .i64 0, .slice none 0 0]) ?_ 4 _ rfl; (with_reducible repeat (first | refine blk_drewN ?_ _ | refine blk_drew ?_ | refine blk_alloc ?_ _)); refine blk_put (cs := #[.slice Ao52 t175.length co52, .int .i64 t178, .slice Ao56 t179.length co56, .int .i64 0, .int .i64 0, .int .i64 0, .int .i64 0, .int .i64 0, .slice none 0 0]) ?_ 3 _ rfl; (with_reducible repeat (first | refine blk_drewN ?_ _ | refine blk_drew ?_ | refine blk_alloc ?_ _)); refine blk_put (cs := #[.slice Ao52 t175.length co52, .int .i64 t178, .slice none 0 0, .int .i64 0, .int .i64 0, .int .i64 0, .int .i64 0, .int .i64 0, .slice none 0 0]) ?_ 2 _ rfl; (with_reducible repeat (first | refine blk_drewN ?_ _ | refine blk_drew ?_ | refine blk_alloc ?_ _)); refine blk_put (cs := #[.slice Ao52 t175.length co52, .int .i64 0, .slice none 0 0, .int .i64 0, .int .i64 0, .int .i64 0, .int .i64 0, .int .i64 0, .slice none 0 0]) ?_ 1 _ rfl; (with_reducible repeat (first | refine blk_drewN ?_ _ | refine blk_drew ?_ | refine blk_alloc ?_ _)); refine blk_put (cs := #[.slice none 0 0, .int .i64 0, .slice none 0 0, .int .i64 0, .int .i64 0, .int .i64 0, .int .i64 0, .int .i64 0, .slice none 0 0]) ?_ 0 _ rfl; (with_reducible repeat (first | refine blk_drewN ?_ _ | refine blk_drew ?_ | refine blk_alloc ?_ _)); exact BK190.out) hb); have n15_ := Aside0.mk (below_step bl_ hb); clear HO146; clear HO150; clear HO158; clear HO161; clear HO165; clear HO173; clear HO177; clear HO181; clear HO189; clear BK140; clear BK141; clear BK190; clear HB; have HO146 := n0_; have HO150 := n1_; have HO158 := n2_; have HO161 := n3_; have HO165 := n4_; have HO173 := n5_; have HO177 := n6_; have HO181 := n7_; have HO189 := n8_; have HO193 := n9_; have HO197 := n10_; have HO205 := n11_; have BK140 := n12_; have BK141 := n13_; have BK190 := n14_; have HB := n15_; clear n0_ n1_ n2_ n3_ n4_ n5_ n6_ n7_ n8_ n9_ n10_ n11_ n12_ n13_ n14_ n15_; (try clear hb); (try clear hb2); (try clear hk); (try clear hi); (try clear ho0); (try clear ho1); (try clear ho2)) | ((with_reducible refine gate_dst (N := 8) rfl ?_); refine box_event ?hg (N := 8) ?hd (cs := #[.slice none 0 0, .int .i64 0, .slice none 0 0, .int .i64 0, .int .i64 0, .int .i64 0, .int .i64 0, .int .i64 0, .slice none 0 0]) (t := 36) ?hr ?_; (case hd => rfl); (case hg => rfl); (case hr => first | (go_simp; done) | (go_simp; rfl)); intro gb206 hg w60 hbox hb; have n0_ := Aside0.mk (Kd.R_below (ra_ HO146) hb); have n1_ := Aside0.mk (Kd.R_below (ra_ HO150) hb); have n2_ := Aside0.mk (Kd.R_below (ra_ HO158) hb); have n3_ := Aside0.mk (Kd.R_below (ra_ HO161) hb); have n4_ := Aside0.mk (Kd.R_below (ra_ HO165) hb); have n5_ := Aside0.mk (Kd.R_below (ra_ HO173) hb); have n6_ := Aside0.mk (Kd.R_below (ra_ HO177) hb); have n7_ := Aside0.mk (Kd.R_below (ra_ HO181) hb); have n8_ := Aside0.mk (Kd.R_below (ra_ HO189) hb); have n9_ := Aside0.mk (Kd.R_below (ra_ HO193) hb); have n10_ := Aside0.mk (Kd.R_below (ra_ HO197) hb); have n11_ := Aside0.mk (Kd.R_below (ra_ HO205) hb); have n12_ := Aside0.mk (blk_below (bk_ BK140) hb); have n13_ := Aside0.mk (blk_below (bk_ BK141) hb); have n14_ := Aside0.mk (blk_below (bk_ BK190) hb); have n15_ := Aside0.mk (below_step bl_ hb); have n16_ := Aside0.mk (hbox); have n17_ := Aside0.mk ((by rw [hg]; exact (below_size bl_) : w.heap.size ≤ gb206)); have n18_ := Aside0.mk ((by rw [hg]; exact (below_size bl_) : w.heap.size ≤ gb206)); have n19_ := Aside0.mk ((by rw [hg]; exact Nat.ne_of_lt (blk_lt (bk_ BK140)) : gb140 ≠ gb206)); have n20_ := Aside0.mk ((by rw [hg]; exact Nat.ne_of_gt (blk_lt (bk_ BK140)) : gb206 ≠ gb140)); have n21_ := Aside0.mk ((by rw [hg]; exact Nat.ne_of_lt (blk_lt (bk_ BK141)) : gb141 ≠ gb206)); have n22_ := Aside0.mk ((by rw [hg]; exact Nat.ne_of_gt (blk_lt (bk_ BK141)) : gb206 ≠ gb141)); have n23_ := Aside0.mk ((by rw [hg]; exact Nat.ne_of_lt (blk_lt (bk_ BK190)) : gb190 ≠ gb206)); have n24_ := Aside0.mk ((by rw [hg]; exact Nat.ne_of_gt (blk_lt (bk_ BK190)) : gb206 ≠ gb190)); clear HO146; clear HO150; clear HO158; clear HO161; clear HO165; clear HO173; clear HO177; clear HO181; clear HO189; clear HO193; clear HO197; clear HO205; clear BK140; clear BK141; clear BK190; clear HB; have HO146 := n0_; have HO150 := n1_; have HO158 := n2_; have HO161 := n3_; have HO165 := n4_; have HO173 := n5_; have HO177 := n6_; have HO181 := n7_; have HO189 := n8_; have HO193 := n9_; have HO197 := n10_; have HO205 := n11_; have BK140 := n12_; have BK141 := n13_; have BK190 := n14_; have HB := n15_; have BK206 := n16_; have GW206 := n17_; have GE206 := n18_; have NB140_206 := n19_; have NB206_140 := n20_; have NB141_206 := n21_; have NB206_141 := n22_; have NB190_206 := n23_; have NB206_190 := n24_; clear n0_ n1_ n2_ n3_ n4_ n5_ n6_ n7_ n8_ n9_ n10_ n11_ n12_ n13_ n14_ n15_ n16_ n17_ n18_ n19_ n20_ n21_ n22_ n23_ n24_; clear hb hbox hg; obtain ⟨Ao61, co61, eo61⟩ := Kd.R_slice HO193.out; subst eo61; have hnb62 := NB206_140.out; have hnc62 := NB140_206.out; have hnb63 := NB206_141.out; have hnc63 := NB141_206.out; have hnb64 := NB206_190.out; have hnc64 := NB190_206.out; have hcz65_0 := cz_ BK206 0 (.slice none 0 0); have hcz65_1 := cz_ BK206 1 (.int .i64 0); have hcz65_2 := cz_ BK206 2 (.slice none 0 0); have hcz65_3 := cz_ BK206 3 (.int .i64 0); have hcz65_4 := cz_ BK206 4 (.int .i64 0); have hcz65_5 := cz_ BK206 5 (.int .i64 0); have hcz65_6 := cz_ BK206 6 (.int .i64 0); have hcz65_7 := cz_ BK206 7 (.int .i64 0); have hcz65_8 := cz_ BK206 8 (.slice none 0 0); have hfz65_0 := fz_ BK206 0; have hfz65_1 := fz_ BK206 1; have hfz65_2 := fz_ BK206 2; have hfz65_3 := fz_ BK206 3; have hfz65_4 := fz_ BK206 4; have hfz65_5 := fz_ BK206 5; have hfz65_6 := fz_ BK206 6; have hfz65_7 := fz_ BK206 7; have hfz65_8 := fz_ BK206 8; obtain ⟨Ao66, co66, eo66⟩ := Kd.R_slice HO197.out; subst eo66; obtain ⟨Ao67, co67, eo67⟩ := Kd.R_slice HO205.out; subst eo67; have hcz68_0 := cz_ BK190 0 (.slice Ao52 t175.length co52); have hcz68_1 := cz_ BK190 1 (.int .i64 t178); have hcz68_2 := cz_ BK190 2 (.slice Ao56 t179.length co56); have hcz68_3 := cz_ BK190 3 (.int .i64 t182); have hcz68_4 := cz_ BK190 4 (.int .i64 t183); have hcz68_5 := cz_ BK190 5 (.int .i64 t184); have hcz68_6 := cz_ BK190 6 (.int .i64 t185); have hcz68_7 := cz_ BK190 7 (.int .i64 t186); have hcz68_8 := cz_ BK190 8 (.slice Ao57 t187.length co57); have hfz68_0 := fz_ BK190 0; have hfz68_1 := fz_ BK190 1; have hfz68_2 := fz_ BK190 2; have hfz68_3 := fz_ BK190 3; have hfz68_4 := fz_ BK190 4; have hfz68_5 := fz_ BK190 5; have hfz68_6 := fz_ BK190 6; have hfz68_7 := fz_ BK190 7; have hfz68_8 := fz_ BK190 8) | ((with_reducible refine gate_callee (f := 25) rfl ?_); refine goesL_ (some 31) rfl rfl Try.func25 (by kernel_rfl) rfl #[.agg #[.slice Ao52 t175.length co52, .int .i64 t178, .slice Ao56 t179.length co56, .int .i64 t182, .int .i64 t183, .int .i64 t184, .int .i64 t185, .int .i64 t186, .slice Ao57 t187.length co57], .agg #[.slice Ao61 t191.length co61, .int .i64 t194, .slice Ao66 t195.length co66, .int .i64 t198, .int .i64 t199, .int .i64 t200, .int .i64 t201, .int .i64 t202, .slice Ao67 t203.length co67]] rfl gl_ ?_; (with_reducible refine (impl_Before.calls _ _ t175 t178 _ _ t179 t182 t183 t184 t185 t186 _ _ t187 _ _ t191 t194 _ _ t195 t198 t199 t200 t201 t202 _ _ t203 t207 _ ?side1 ?side2 ?side3 ?side4 ?side5 ?side6 ?side7 ?side8 ?side9 ?side10 ?side11 ?side12 A24.out).mono ?_); (case side1 => refine (Kd.R_reads' (e := 5) (base := w.heap.size) (ok := fun k_ => ((((((some k_ ≠ (.slice Ao57 t187.length co57 : Value).ownBlock ∧ some k_ ≠ (.slice Ao42 t144.length co42 : Value).ownBlock) ∧ some k_ ≠ (.slice Ao44 t156.length co44 : Value).ownBlock) ∧ some k_ ≠ (.slice Ao45 t159.length co45 : Value).ownBlock) ∧ some k_ ≠ (.slice Ao47 t171.length co47 : Value).ownBlock) ∧ some k_ ≠ (.slice Ao61 t191.length co61 : Value).ownBlock) ∧ some k_ ≠ (.slice Ao67 t203.length co67 : Value).ownBlock)) (n := t175.length) (c := co52) ?_).2.2; exact (by (with_reducible repeat (first | apply Kd.R_alloc | apply Kd.R_drewN | apply Kd.R_drew)); exact (Kd.R_mono (Kd.R_far (p := ⟨gb206, 8, none⟩) (Kd.R_far (p := ⟨gb206, 7, none⟩) (Kd.R_far (p := ⟨gb206, 6, none⟩) (Kd.R_far (p := ⟨gb206, 5, none⟩) (Kd.R_far (p := ⟨gb206, 4, none⟩) (Kd.R_far (p := ⟨gb206, 3, none⟩) (Kd.R_far (p := ⟨gb206, 2, none⟩) (Kd.R_far (p := ⟨gb206, 1, none⟩) (Kd.R_far (p := ⟨gb206, 0, none⟩) (Kd.R_types HO177.out BK206.out (by decide)) (fun _ hk => hk.2) (.slice Ao61 t191.length co61)) (fun _ hk => hk.2) (.int .i64 t194)) (fun _ hk => hk.2) (.slice Ao66 t195.length co66)) (fun _ hk => hk.2) (.int .i64 t198)) (fun _ hk => hk.2) (.int .i64 t199)) (fun _ hk => hk.2) (.int .i64 t200)) (fun _ hk => hk.2) (.int .i64 t201)) (fun _ hk => hk.2) (.int .i64 t202)) (fun _ hk => hk.2) (.slice Ao67 t203.length co67)) (fun _ h_ => h_.1)))); (case side2 => exact (Kd.R_reads' HO177.out).2.1); (case side3 => refine (Kd.R_reads' (e := 3) (base := w.heap.size) (ok := fun k_ => (((True ∧ some k_ ≠ (.slice Ao43 t148.length co43 : Value).ownBlock) ∧ some k_ ≠ (.slice Ao46 t163.length co46 : Value).ownBlock) ∧ some k_ ≠ (.slice Ao66 t195.length co66 : Value).ownBlock)) (n := t179.length) (c := co56) ?_).2.2; exact (by (with_reducible repeat (first | apply Kd.R_alloc | apply Kd.R_drewN | apply Kd.R_drew)); exact (Kd.R_mono (Kd.R_far (p := ⟨gb206, 8, none⟩) (Kd.R_far (p := ⟨gb206, 7, none⟩) (Kd.R_far (p := ⟨gb206, 6, none⟩) (Kd.R_far (p := ⟨gb206, 5, none⟩) (Kd.R_far (p := ⟨gb206, 4, none⟩) (Kd.R_far (p := ⟨gb206, 3, none⟩) (Kd.R_far (p := ⟨gb206, 2, none⟩) (Kd.R_far (p := ⟨gb206, 1, none⟩) (Kd.R_far (p := ⟨gb206, 0, none⟩) (Kd.R_types HO181.out BK206.out (by decide)) (fun _ hk => hk.2) (.slice Ao61 t191.length co61)) (fun _ hk => hk.2) (.int .i64 t194)) (fun _ hk => hk.2) (.slice Ao66 t195.length co66)) (fun _ hk => hk.2) (.int .i64 t198)) (fun _ hk => hk.2) (.int .i64 t199)) (fun _ hk => hk.2) (.int .i64 t200)) (fun _ hk => hk.2) (.int .i64 t201)) (fun _ hk => hk.2) (.int .i64 t202)) (fun _ hk => hk.2) (.slice Ao67 t203.length co67)) (fun _ h_ => h_.1)))); (case side4 => exact (Kd.R_reads' HO181.out).2.1); (case side5 => refine (Kd.R_reads' (e := 5) (base := w.heap.size) (ok := fun k_ => ((((((some k_ ≠ (.slice Ao52 t175.length co52 : Value).ownBlock ∧ some k_ ≠ (.slice Ao42 t144.length co42 : Value).ownBlock) ∧ some k_ ≠ (.slice Ao44 t156.length co44 : Value).ownBlock) ∧ some k_ ≠ (.slice Ao45 t159.length co45 : Value).ownBlock) ∧ some k_ ≠ (.slice Ao47 t171.length co47 : Value).ownBlock) ∧ some k_ ≠ (.slice Ao61 t191.length co61 : Value).ownBlock) ∧ some k_ ≠ (.slice Ao67 t203.length co67 : Value).ownBlock)) (n := t187.length) (c := co57) ?_).2.2; exact (by (with_reducible repeat (first | apply Kd.R_alloc | apply Kd.R_drewN | apply Kd.R_drew)); exact (Kd.R_mono (Kd.R_far (p := ⟨gb206, 8, none⟩) (Kd.R_far (p := ⟨gb206, 7, none⟩) (Kd.R_far (p := ⟨gb206, 6, none⟩) (Kd.R_far (p := ⟨gb206, 5, none⟩) (Kd.R_far (p := ⟨gb206, 4, none⟩) (Kd.R_far (p := ⟨gb206, 3, none⟩) (Kd.R_far (p := ⟨gb206, 2, none⟩) (Kd.R_far (p := ⟨gb206, 1, none⟩) (Kd.R_far (p := ⟨gb206, 0, none⟩) (Kd.R_types HO189.out BK206.out (by decide)) (fun _ hk => hk.2) (.slice Ao61 t191.length co61)) (fun _ hk => hk.2) (.int .i64 t194)) (fun _ hk => hk.2) (.slice Ao66 t195.length co66)) (fun _ hk => hk.2) (.int .i64 t198)) (fun _ hk => hk.2) (.int .i64 t199)) (fun _ hk => hk.2) (.int .i64 t200)) (fun _ hk => hk.2) (.int .i64 t201)) (fun _ hk => hk.2) (.int .i64 t202)) (fun _ hk => hk.2) (.slice Ao67 t203.length co67)) (fun _ h_ => h_.1)))); (case side6 => exact (Kd.R_reads' HO189.out).2.1); (case side7 => refine (Kd.R_reads' (e := 5) (base := w.heap.size) (ok := fun k_ => ((((((some k_ ≠ (.slice Ao67 t203.length co67 : Value).ownBlock ∧ some k_ ≠ (.slice Ao42 t144.length co42 : Value).ownBlock) ∧ some k_ ≠ (.slice Ao44 t156.length co44 : Value).ownBlock) ∧ some k_ ≠ (.slice Ao45 t159.length co45 : Value).ownBlock) ∧ some k_ ≠ (.slice Ao47 t171.length co47 : Value).ownBlock) ∧ some k_ ≠ (.slice Ao52 t175.length co52 : Value).ownBlock) ∧ some k_ ≠ (.slice Ao57 t187.length co57 : Value).ownBlock)) (n := t191.length) (c := co61) ?_).2.2; exact (by (with_reducible repeat (first | apply Kd.R_alloc | apply Kd.R_drewN | apply Kd.R_drew)); exact (Kd.R_mono (Kd.R_far (p := ⟨gb206, 8, none⟩) (Kd.R_far (p := ⟨gb206, 7, none⟩) (Kd.R_far (p := ⟨gb206, 6, none⟩) (Kd.R_far (p := ⟨gb206, 5, none⟩) (Kd.R_far (p := ⟨gb206, 4, none⟩) (Kd.R_far (p := ⟨gb206, 3, none⟩) (Kd.R_far (p := ⟨gb206, 2, none⟩) (Kd.R_far (p := ⟨gb206, 1, none⟩) (Kd.R_far (p := ⟨gb206, 0, none⟩) (Kd.R_types HO193.out BK206.out (by decide)) (fun _ hk => hk.2) (.slice Ao61 t191.length co61)) (fun _ hk => hk.2) (.int .i64 t194)) (fun _ hk => hk.2) (.slice Ao66 t195.length co66)) (fun _ hk => hk.2) (.int .i64 t198)) (fun _ hk => hk.2) (.int .i64 t199)) (fun _ hk => hk.2) (.int .i64 t200)) (fun _ hk => hk.2) (.int .i64 t201)) (fun _ hk => hk.2) (.int .i64 t202)) (fun _ hk => hk.2) (.slice Ao67 t203.length co67)) (fun _ h_ => h_.1)))); (case side8 => exact (Kd.R_reads' HO193.out).2.1); (case side9 => refine (Kd.R_reads' (e := 3) (base := w.heap.size) (ok := fun k_ => (((True ∧ some k_ ≠ (.slice Ao43 t148.length co43 : Value).ownBlock) ∧ some k_ ≠ (.slice Ao46 t163.length co46 : Value).ownBlock) ∧ some k_ ≠ (.slice Ao56 t179.length co56 : Value).ownBlock)) (n := t195.length) (c := co66) ?_).2.2; exact (by (with_reducible repeat (first | apply Kd.R_alloc | apply Kd.R_drewN | apply Kd.R_drew)); exact (Kd.R_mono (Kd.R_far (p := ⟨gb206, 8, none⟩) (Kd.R_far (p := ⟨gb206, 7, none⟩) (Kd.R_far (p := ⟨gb206, 6, none⟩) (Kd.R_far (p := ⟨gb206, 5, none⟩) (Kd.R_far (p := ⟨gb206, 4, none⟩) (Kd.R_far (p := ⟨gb206, 3, none⟩) (Kd.R_far (p := ⟨gb206, 2, none⟩) (Kd.R_far (p := ⟨gb206, 1, none⟩) (Kd.R_far (p := ⟨gb206, 0, none⟩) (Kd.R_types HO197.out BK206.out (by decide)) (fun _ hk => hk.2) (.slice Ao61 t191.length co61)) (fun _ hk => hk.2) (.int .i64 t194)) (fun _ hk => hk.2) (.slice Ao66 t195.length co66)) (fun _ hk => hk.2) (.int .i64 t198)) (fun _ hk => hk.2) (.int .i64 t199)) (fun _ hk => hk.2) (.int .i64 t200)) (fun _ hk => hk.2) (.int .i64 t201)) (fun _ hk => hk.2) (.int .i64 t202)) (fun _ hk => hk.2) (.slice Ao67 t203.length co67)) (fun _ h_ => h_.1)))); (case side10 => exact (Kd.R_reads' HO197.out).2.1); (case side11 => refine (Kd.R_reads' (e := 5) (base := w.heap.size) (ok := fun k_ => ((((((some k_ ≠ (.slice Ao61 t191.length co61 : Value).ownBlock ∧ some k_ ≠ (.slice Ao42 t144.length co42 : Value).ownBlock) ∧ some k_ ≠ (.slice Ao44 t156.length co44 : Value).ownBlock) ∧ some k_ ≠ (.slice Ao45 t159.length co45 : Value).ownBlock) ∧ some k_ ≠ (.slice Ao47 t171.length co47 : Value).ownBlock) ∧ some k_ ≠ (.slice Ao52 t175.length co52 : Value).ownBlock) ∧ some k_ ≠ (.slice Ao57 t187.length co57 : Value).ownBlock)) (n := t203.length) (c := co67) ?_).2.2; exact (by (with_reducible repeat (first | apply Kd.R_alloc | apply Kd.R_drewN | apply Kd.R_drew)); exact (Kd.R_mono (Kd.R_far (p := ⟨gb206, 8, none⟩) (Kd.R_far (p := ⟨gb206, 7, none⟩) (Kd.R_far (p := ⟨gb206, 6, none⟩) (Kd.R_far (p := ⟨gb206, 5, none⟩) (Kd.R_far (p := ⟨gb206, 4, none⟩) (Kd.R_far (p := ⟨gb206, 3, none⟩) (Kd.R_far (p := ⟨gb206, 2, none⟩) (Kd.R_far (p := ⟨gb206, 1, none⟩) (Kd.R_far (p := ⟨gb206, 0, none⟩) (Kd.R_types HO205.out BK206.out (by decide)) (fun _ hk => hk.2) (.slice Ao61 t191.length co61)) (fun _ hk => hk.2) (.int .i64 t194)) (fun _ hk => hk.2) (.slice Ao66 t195.length co66)) (fun _ hk => hk.2) (.int .i64 t198)) (fun _ hk => hk.2) (.int .i64 t199)) (fun _ hk => hk.2) (.int .i64 t200)) (fun _ hk => hk.2) (.int .i64 t201)) (fun _ hk => hk.2) (.int .i64 t202)) (fun _ hk => hk.2) (.slice Ao67 t203.length co67)) (fun _ h_ => h_.1)))); (case side12 => exact (Kd.R_reads' HO205.out).2.1); rintro e w69 ⟨rfl, hb⟩; refine ⟨_, rfl, ?_⟩; have n0_ := Aside0.mk (Kd.R_below (by (with_reducible repeat (first | apply Kd.R_alloc | apply Kd.R_drewN | apply Kd.R_drew)); exact (Kd.R_mono (Kd.R_far (p := ⟨gb206, 8, none⟩) (Kd.R_far (p := ⟨gb206, 7, none⟩) (Kd.R_far (p := ⟨gb206, 6, none⟩) (Kd.R_far (p := ⟨gb206, 5, none⟩) (Kd.R_far (p := ⟨gb206, 4, none⟩) (Kd.R_far (p := ⟨gb206, 3, none⟩) (Kd.R_far (p := ⟨gb206, 2, none⟩) (Kd.R_far (p := ⟨gb206, 1, none⟩) (Kd.R_far (p := ⟨gb206, 0, none⟩) (Kd.R_types HO146.out BK206.out (by decide)) (fun _ hk => hk.2) (.slice Ao61 t191.length co61)) (fun _ hk => hk.2) (.int .i64 t194)) (fun _ hk => hk.2) (.slice Ao66 t195.length co66)) (fun _ hk => hk.2) (.int .i64 t198)) (fun _ hk => hk.2) (.int .i64 t199)) (fun _ hk => hk.2) (.int .i64 t200)) (fun _ hk => hk.2) (.int .i64 t201)) (fun _ hk => hk.2) (.int .i64 t202)) (fun _ hk => hk.2) (.slice Ao67 t203.length co67)) (fun _ h_ => h_.1))) hb); have n1_ := Aside0.mk (Kd.R_below (by (with_reducible repeat (first | apply Kd.R_alloc | apply Kd.R_drewN | apply Kd.R_drew)); exact (Kd.R_mono (Kd.R_far (p := ⟨gb206, 8, none⟩) (Kd.R_far (p := ⟨gb206, 7, none⟩) (Kd.R_far (p := ⟨gb206, 6, none⟩) (Kd.R_far (p := ⟨gb206, 5, none⟩) (Kd.R_far (p := ⟨gb206, 4, none⟩) (Kd.R_far (p := ⟨gb206, 3, none⟩) (Kd.R_far (p := ⟨gb206, 2, none⟩) (Kd.R_far (p := ⟨gb206, 1, none⟩) (Kd.R_far (p := ⟨gb206, 0, none⟩) (Kd.R_types HO150.out BK206.out (by decide)) (fun _ hk => hk.2) (.slice Ao61 t191.length co61)) (fun _ hk => hk.2) (.int .i64 t194)) (fun _ hk => hk.2) (.slice Ao66 t195.length co66)) (fun _ hk => hk.2) (.int .i64 t198)) (fun _ hk => hk.2) (.int .i64 t199)) (fun _ hk => hk.2) (.int .i64 t200)) (fun _ hk => hk.2) (.int .i64 t201)) (fun _ hk => hk.2) (.int .i64 t202)) (fun _ hk => hk.2) (.slice Ao67 t203.length co67)) (fun _ h_ => h_.1))) hb); have n2_ := Aside0.mk (Kd.R_below (by (with_reducible repeat (first | apply Kd.R_alloc | apply Kd.R_drewN | apply Kd.R_drew)); exact (Kd.R_mono (Kd.R_far (p := ⟨gb206, 8, none⟩) (Kd.R_far (p := ⟨gb206, 7, none⟩) (Kd.R_far (p := ⟨gb206, 6, none⟩) (Kd.R_far (p := ⟨gb206, 5, none⟩) (Kd.R_far (p := ⟨gb206, 4, none⟩) (Kd.R_far (p := ⟨gb206, 3, none⟩) (Kd.R_far (p := ⟨gb206, 2, none⟩) (Kd.R_far (p := ⟨gb206, 1, none⟩) (Kd.R_far (p := ⟨gb206, 0, none⟩) (Kd.R_types HO158.out BK206.out (by decide)) (fun _ hk => hk.2) (.slice Ao61 t191.length co61)) (fun _ hk => hk.2) (.int .i64 t194)) (fun _ hk => hk.2) (.slice Ao66 t195.length co66)) (fun _ hk => hk.2) (.int .i64 t198)) (fun _ hk => hk.2) (.int .i64 t199)) (fun _ hk => hk.2) (.int .i64 t200)) (fun _ hk => hk.2) (.int .i64 t201)) (fun _ hk => hk.2) (.int .i64 t202)) (fun _ hk => hk.2) (.slice Ao67 t203.length co67)) (fun _ h_ => h_.1))) hb); have n3_ := Aside0.mk (Kd.R_below (by (with_reducible repeat (first | apply Kd.R_alloc | apply Kd.R_drewN | apply Kd.R_drew)); exact (Kd.R_mono (Kd.R_far (p := ⟨gb206, 8, none⟩) (Kd.R_far (p := ⟨gb206, 7, none⟩) (Kd.R_far (p := ⟨gb206, 6, none⟩) (Kd.R_far (p := ⟨gb206, 5, none⟩) (Kd.R_far (p := ⟨gb206, 4, none⟩) (Kd.R_far (p := ⟨gb206, 3, none⟩) (Kd.R_far (p := ⟨gb206, 2, none⟩) (Kd.R_far (p := ⟨gb206, 1, none⟩) (Kd.R_far (p := ⟨gb206, 0, none⟩) (Kd.R_types HO161.out BK206.out (by decide)) (fun _ hk => hk.2) (.slice Ao61 t191.length co61)) (fun _ hk => hk.2) (.int .i64 t194)) (fun _ hk => hk.2) (.slice Ao66 t195.length co66)) (fun _ hk => hk.2) (.int .i64 t198)) (fun _ hk => hk.2) (.int .i64 t199)) (fun _ hk => hk.2) (.int .i64 t200)) (fun _ hk => hk.2) (.int .i64 t201)) (fun _ hk => hk.2) (.int .i64 t202)) (fun _ hk => hk.2) (.slice Ao67 t203.length co67)) (fun _ h_ => h_.1))) hb); have n4_ := Aside0.mk (Kd.R_below (by (with_reducible repeat (first | apply Kd.R_alloc | apply Kd.R_drewN | apply Kd.R_drew)); exact (Kd.R_mono (Kd.R_far (p := ⟨gb206, 8, none⟩) (Kd.R_far (p := ⟨gb206, 7, none⟩) (Kd.R_far (p := ⟨gb206, 6, none⟩) (Kd.R_far (p := ⟨gb206, 5, none⟩) (Kd.R_far (p := ⟨gb206, 4, none⟩) (Kd.R_far (p := ⟨gb206, 3, none⟩) (Kd.R_far (p := ⟨gb206, 2, none⟩) (Kd.R_far (p := ⟨gb206, 1, none⟩) (Kd.R_far (p := ⟨gb206, 0, none⟩) (Kd.R_types HO165.out BK206.out (by decide)) (fun _ hk => hk.2) (.slice Ao61 t191.length co61)) (fun _ hk => hk.2) (.int .i64 t194)) (fun _ hk => hk.2) (.slice Ao66 t195.length co66)) (fun _ hk => hk.2) (.int .i64 t198)) (fun _ hk => hk.2) (.int .i64 t199)) (fun _ hk => hk.2) (.int .i64 t200)) (fun _ hk => hk.2) (.int .i64 t201)) (fun _ hk => hk.2) (.int .i64 t202)) (fun _ hk => hk.2) (.slice Ao67 t203.length co67)) (fun _ h_ => h_.1))) hb); have n5_ := Aside0.mk (Kd.R_below (by (with_reducible repeat (first | apply Kd.R_alloc | apply Kd.R_drewN | apply Kd.R_drew)); exact (Kd.R_mono (Kd.R_far (p := ⟨gb206, 8, none⟩) (Kd.R_far (p := ⟨gb206, 7, none⟩) (Kd.R_far (p := ⟨gb206, 6, none⟩) (Kd.R_far (p := ⟨gb206, 5, none⟩) (Kd.R_far (p := ⟨gb206, 4, none⟩) (Kd.R_far (p := ⟨gb206, 3, none⟩) (Kd.R_far (p := ⟨gb206, 2, none⟩) (Kd.R_far (p := ⟨gb206, 1, none⟩) (Kd.R_far (p := ⟨gb206, 0, none⟩) (Kd.R_types HO173.out BK206.out (by decide)) (fun _ hk => hk.2) (.slice Ao61 t191.length co61)) (fun _ hk => hk.2) (.int .i64 t194)) (fun _ hk => hk.2) (.slice Ao66 t195.length co66)) (fun _ hk => hk.2) (.int .i64 t198)) (fun _ hk => hk.2) (.int .i64 t199)) (fun _ hk => hk.2) (.int .i64 t200)) (fun _ hk => hk.2) (.int .i64 t201)) (fun _ hk => hk.2) (.int .i64 t202)) (fun _ hk => hk.2) (.slice Ao67 t203.length co67)) (fun _ h_ => h_.1))) hb); have n6_ := Aside0.mk (Kd.R_below (by (with_reducible repeat (first | apply Kd.R_alloc | apply Kd.R_drewN | apply Kd.R_drew)); exact (Kd.R_mono (Kd.R_far (p := ⟨gb206, 8, none⟩) (Kd.R_far (p := ⟨gb206, 7, none⟩) (Kd.R_far (p := ⟨gb206, 6, none⟩) (Kd.R_far (p := ⟨gb206, 5, none⟩) (Kd.R_far (p := ⟨gb206, 4, none⟩) (Kd.R_far (p := ⟨gb206, 3, none⟩) (Kd.R_far (p := ⟨gb206, 2, none⟩) (Kd.R_far (p := ⟨gb206, 1, none⟩) (Kd.R_far (p := ⟨gb206, 0, none⟩) (Kd.R_types HO177.out BK206.out (by decide)) (fun _ hk => hk.2) (.slice Ao61 t191.length co61)) (fun _ hk => hk.2) (.int .i64 t194)) (fun _ hk => hk.2) (.slice Ao66 t195.length co66)) (fun _ hk => hk.2) (.int .i64 t198)) (fun _ hk => hk.2) (.int .i64 t199)) (fun _ hk => hk.2) (.int .i64 t200)) (fun _ hk => hk.2) (.int .i64 t201)) (fun _ hk => hk.2) (.int .i64 t202)) (fun _ hk => hk.2) (.slice Ao67 t203.length co67)) (fun _ h_ => h_.1))) hb); have n7_ := Aside0.mk (Kd.R_below (by (with_reducible repeat (first | apply Kd.R_alloc | apply Kd.R_drewN | apply Kd.R_drew)); exact (Kd.R_mono (Kd.R_far (p := ⟨gb206, 8, none⟩) (Kd.R_far (p := ⟨gb206, 7, none⟩) (Kd.R_far (p := ⟨gb206, 6, none⟩) (Kd.R_far (p := ⟨gb206, 5, none⟩) (Kd.R_far (p := ⟨gb206, 4, none⟩) (Kd.R_far (p := ⟨gb206, 3, none⟩) (Kd.R_far (p := ⟨gb206, 2, none⟩) (Kd.R_far (p := ⟨gb206, 1, none⟩) (Kd.R_far (p := ⟨gb206, 0, none⟩) (Kd.R_types HO181.out BK206.out (by decide)) (fun _ hk => hk.2) (.slice Ao61 t191.length co61)) (fun _ hk => hk.2) (.int .i64 t194)) (fun _ hk => hk.2) (.slice Ao66 t195.length co66)) (fun _ hk => hk.2) (.int .i64 t198)) (fun _ hk => hk.2) (.int .i64 t199)) (fun _ hk => hk.2) (.int .i64 t200)) (fun _ hk => hk.2) (.int .i64 t201)) (fun _ hk => hk.2) (.int .i64 t202)) (fun _ hk => hk.2) (.slice Ao67 t203.length co67)) (fun _ h_ => h_.1))) hb); have n8_ := Aside0.mk (Kd.R_below (by (with_reducible repeat (first | apply Kd.R_alloc | apply Kd.R_drewN | apply Kd.R_drew)); exact (Kd.R_mono (Kd.R_far (p := ⟨gb206, 8, none⟩) (Kd.R_far (p := ⟨gb206, 7, none⟩) (Kd.R_far (p := ⟨gb206, 6, none⟩) (Kd.R_far (p := ⟨gb206, 5, none⟩) (Kd.R_far (p := ⟨gb206, 4, none⟩) (Kd.R_far (p := ⟨gb206, 3, none⟩) (Kd.R_far (p := ⟨gb206, 2, none⟩) (Kd.R_far (p := ⟨gb206, 1, none⟩) (Kd.R_far (p := ⟨gb206, 0, none⟩) (Kd.R_types HO189.out BK206.out (by decide)) (fun _ hk => hk.2) (.slice Ao61 t191.length co61)) (fun _ hk => hk.2) (.int .i64 t194)) (fun _ hk => hk.2) (.slice Ao66 t195.length co66)) (fun _ hk => hk.2) (.int .i64 t198)) (fun _ hk => hk.2) (.int .i64 t199)) (fun _ hk => hk.2) (.int .i64 t200)) (fun _ hk => hk.2) (.int .i64 t201)) (fun _ hk => hk.2) (.int .i64 t202)) (fun _ hk => hk.2) (.slice Ao67 t203.length co67)) (fun _ h_ => h_.1))) hb); have n9_ := Aside0.mk (Kd.R_below (by (with_reducible repeat (first | apply Kd.R_alloc | apply Kd.R_drewN | apply Kd.R_drew)); exact (Kd.R_mono (Kd.R_far (p := ⟨gb206, 8, none⟩) (Kd.R_far (p := ⟨gb206, 7, none⟩) (Kd.R_far (p := ⟨gb206, 6, none⟩) (Kd.R_far (p := ⟨gb206, 5, none⟩) (Kd.R_far (p := ⟨gb206, 4, none⟩) (Kd.R_far (p := ⟨gb206, 3, none⟩) (Kd.R_far (p := ⟨gb206, 2, none⟩) (Kd.R_far (p := ⟨gb206, 1, none⟩) (Kd.R_far (p := ⟨gb206, 0, none⟩) (Kd.R_types HO193.out BK206.out (by decide)) (fun _ hk => hk.2) (.slice Ao61 t191.length co61)) (fun _ hk => hk.2) (.int .i64 t194)) (fun _ hk => hk.2) (.slice Ao66 t195.length co66)) (fun _ hk => hk.2) (.int .i64 t198)) (fun _ hk => hk.2) (.int .i64 t199)) (fun _ hk => hk.2) (.int .i64 t200)) (fun _ hk => hk.2) (.int .i64 t201)) (fun _ hk => hk.2) (.int .i64 t202)) (fun _ hk => hk.2) (.slice Ao67 t203.length co67)) (fun _ h_ => h_.1))) hb); have n10_ := Aside0.mk (Kd.R_below (by (with_reducible repeat (first | apply Kd.R_alloc | apply Kd.R_drewN | apply Kd.R_drew)); exact (Kd.R_mono (Kd.R_far (p := ⟨gb206, 8, none⟩) (Kd.R_far (p := ⟨gb206, 7, none⟩) (Kd.R_far (p := ⟨gb206, 6, none⟩) (Kd.R_far (p := ⟨gb206, 5, none⟩) (Kd.R_far (p := ⟨gb206, 4, none⟩) (Kd.R_far (p := ⟨gb206, 3, none⟩) (Kd.R_far (p := ⟨gb206, 2, none⟩) (Kd.R_far (p := ⟨gb206, 1, none⟩) (Kd.R_far (p := ⟨gb206, 0, none⟩) (Kd.R_types HO197.out BK206.out (by decide)) (fun _ hk => hk.2) (.slice Ao61 t191.length co61)) (fun _ hk => hk.2) (.int .i64 t194)) (fun _ hk => hk.2) (.slice Ao66 t195.length co66)) (fun _ hk => hk.2) (.int .i64 t198)) (fun _ hk => hk.2) (.int .i64 t199)) (fun _ hk => hk.2) (.int .i64 t200)) (fun _ hk => hk.2) (.int .i64 t201)) (fun _ hk => hk.2) (.int .i64 t202)) (fun _ hk => hk.2) (.slice Ao67 t203.length co67)) (fun _ h_ => h_.1))) hb); have n11_ := Aside0.mk (Kd.R_below (by (with_reducible repeat (first | apply Kd.R_alloc | apply Kd.R_drewN | apply Kd.R_drew)); exact (Kd.R_mono (Kd.R_far (p := ⟨gb206, 8, none⟩) (Kd.R_far (p := ⟨gb206, 7, none⟩) (Kd.R_far (p := ⟨gb206, 6, none⟩) (Kd.R_far (p := ⟨gb206, 5, none⟩) (Kd.R_far (p := ⟨gb206, 4, none⟩) (Kd.R_far (p := ⟨gb206, 3, none⟩) (Kd.R_far (p := ⟨gb206, 2, none⟩) (Kd.R_far (p := ⟨gb206, 1, none⟩) (Kd.R_far (p := ⟨gb206, 0, none⟩) (Kd.R_types HO205.out BK206.out (by decide)) (fun _ hk => hk.2) (.slice Ao61 t191.length co61)) (fun _ hk => hk.2) (.int .i64 t194)) (fun _ hk => hk.2) (.slice Ao66 t195.length co66)) (fun _ hk => hk.2) (.int .i64 t198)) (fun _ hk => hk.2) (.int .i64 t199)) (fun _ hk => hk.2) (.int .i64 t200)) (fun _ hk => hk.2) (.int .i64 t201)) (fun _ hk => hk.2) (.int .i64 t202)) (fun _ hk => hk.2) (.slice Ao67 t203.length co67)) (fun _ h_ => h_.1))) hb); have n12_ := Aside0.mk (blk_below (g := gb140) (o := .cells #[.slice A0_0 l0_0.length c0_0, .int .i64 a0_1, .slice A0_2 l0_2.length c0_2, .int .i64 a0_3, .int .i64 a0_4, .int .i64 a0_5, .int .i64 a0_6, .int .i64 a0_7, .slice A0_8 l0_8.length c0_8] 33 (0, 0)) (by (with_reducible repeat (first | refine blk_drewN ?_ _ | refine blk_drew ?_ | refine blk_alloc ?_ _)); refine blk_far ?_ NB140_206.out _; (with_reducible repeat (first | refine blk_drewN ?_ _ | refine blk_drew ?_ | refine blk_alloc ?_ _)); refine blk_far ?_ NB140_206.out _; (with_reducible repeat (first | refine blk_drewN ?_ _ | refine blk_drew ?_ | refine blk_alloc ?_ _)); refine blk_far ?_ NB140_206.out _; (with_reducible repeat (first | refine blk_drewN ?_ _ | refine blk_drew ?_ | refine blk_alloc ?_ _)); refine blk_far ?_ NB140_206.out _; (with_reducible repeat (first | refine blk_drewN ?_ _ | refine blk_drew ?_ | refine blk_alloc ?_ _)); refine blk_far ?_ NB140_206.out _; (with_reducible repeat (first | refine blk_drewN ?_ _ | refine blk_drew ?_ | refine blk_alloc ?_ _)); refine blk_far ?_ NB140_206.out _; (with_reducible repeat (first | refine blk_drewN ?_ _ | refine blk_drew ?_ | refine blk_alloc ?_ _)); refine blk_far ?_ NB140_206.out _; (with_reducible repeat (first | refine blk_drewN ?_ _ | refine blk_drew ?_ | refine blk_alloc ?_ _)); refine blk_far ?_ NB140_206.out _; (with_reducible repeat (first | refine blk_drewN ?_ _ | refine blk_drew ?_ | refine blk_alloc ?_ _)); refine blk_far ?_ NB140_206.out _; (with_reducible repeat (first | refine blk_drewN ?_ _ | refine blk_drew ?_ | refine blk_alloc ?_ _)); exact BK140.out) hb); have n13_ := Aside0.mk (blk_below (g := gb141) (o := .cells #[.slice A1_0 l1_0.length c1_0, .int .i64 a1_1, .slice A1_2 l1_2.length c1_2, .int .i64 a1_3, .int .i64 a1_4, .int .i64 a1_5, .int .i64 a1_6, .int .i64 a1_7, .slice A1_8 l1_8.length c1_8] 33 (0, 0)) (by (with_reducible repeat (first | refine blk_drewN ?_ _ | refine blk_drew ?_ | refine blk_alloc ?_ _)); refine blk_far ?_ NB141_206.out _; (with_reducible repeat (first | refine blk_drewN ?_ _ | refine blk_drew ?_ | refine blk_alloc ?_ _)); refine blk_far ?_ NB141_206.out _; (with_reducible repeat (first | refine blk_drewN ?_ _ | refine blk_drew ?_ | refine blk_alloc ?_ _)); refine blk_far ?_ NB141_206.out _; (with_reducible repeat (first | refine blk_drewN ?_ _ | refine blk_drew ?_ | refine blk_alloc ?_ _)); refine blk_far ?_ NB141_206.out _; (with_reducible repeat (first | refine blk_drewN ?_ _ | refine blk_drew ?_ | refine blk_alloc ?_ _)); refine blk_far ?_ NB141_206.out _; (with_reducible repeat (first | refine blk_drewN ?_ _ | refine blk_drew ?_ | refine blk_alloc ?_ _)); refine blk_far ?_ NB141_206.out _; (with_reducible repeat (first | refine blk_drewN ?_ _ | refine blk_drew ?_ | refine blk_alloc ?_ _)); refine blk_far ?_ NB141_206.out _; (with_reducible repeat (first | refine blk_drewN ?_ _ | refine blk_drew ?_ | refine blk_alloc ?_ _)); refine blk_far ?_ NB141_206.out _; (with_reducible repeat (first | refine blk_drewN ?_ _ | refine blk_drew ?_ | refine blk_alloc ?_ _)); refine blk_far ?_ NB141_206.out _; (with_reducible repeat (first | refine blk_drewN ?_ _ | refine blk_drew ?_ | refine blk_alloc ?_ _)); exact BK141.out) hb); have n14_ := Aside0.mk (blk_below (g := gb190) (o := .cells #[.slice Ao52 t175.length co52, .int .i64 t178, .slice Ao56 t179.length co56, .int .i64 t182, .int .i64 t183, .int .i64 t184, .int .i64 t185, .int .i64 t186, .slice Ao57 t187.length co57] 36 (0, 0)) (by (with_reducible repeat (first | refine blk_drewN ?_ _ | refine blk_drew ?_ | refine blk_alloc ?_ _)); refine blk_far ?_ NB190_206.out _; (with_reducible repeat (first | refine blk_drewN ?_ _ | refine blk_drew ?_ | refine blk_alloc ?_ _)); refine blk_far ?_ NB190_206.out _; (with_reducible repeat (first | refine blk_drewN ?_ _ | refine blk_drew ?_ | refine blk_alloc ?_ _)); refine blk_far ?_ NB190_206.out _; (with_reducible repeat (first | refine blk_drewN ?_ _ | refine blk_drew ?_ | refine blk_alloc ?_ _)); refine blk_far ?_ NB190_206.out _; (with_reducible repeat (first | refine blk_drewN ?_ _ | refine blk_drew ?_ | refine blk_alloc ?_ _)); refine blk_far ?_ NB190_206.out _; (with_reducible repeat (first | refine blk_drewN ?_ _ | refine blk_drew ?_ | refine blk_alloc ?_ _)); refine blk_far ?_ NB190_206.out _; (with_reducible repeat (first | refine blk_drewN ?_ _ | refine blk_drew ?_ | refine blk_alloc ?_ _)); refine blk_far ?_ NB190_206.out _; (with_reducible repeat (first | refine blk_drewN ?_ _ | refine blk_drew ?_ | refine blk_alloc ?_ _)); refine blk_far ?_ NB190_206.out _; (with_reducible repeat (first | refine blk_drewN ?_ _ | refine blk_drew ?_ | refine blk_alloc ?_ _)); refine blk_far ?_ NB190_206.out _; (with_reducible repeat (first | refine blk_drewN ?_ _ | refine blk_drew ?_ | refine blk_alloc ?_ _)); exact BK190.out) hb); have n15_ := Aside0.mk (blk_below (g := gb206) (o := .cells #[.slice Ao61 t191.length co61, .int .i64 t194, .slice Ao66 t195.length co66, .int .i64 t198, .int .i64 t199, .int .i64 t200, .int .i64 t201, .int .i64 t202, .slice Ao67 t203.length co67] 36 (0, 0)) (by (with_reducible repeat (first | refine blk_drewN ?_ _ | refine blk_drew ?_ | refine blk_alloc ?_ _)); refine blk_put (cs := #[.slice Ao61 t191.length co61, .int .i64 t194, .slice Ao66 t195.length co66, .int .i64 t198, .int .i64 t199, .int .i64 t200, .int .i64 t201, .int .i64 t202, .slice none 0 0]) ?_ 8 _ rfl; (with_reducible repeat (first | refine blk_drewN ?_ _ | refine blk_drew ?_ | refine blk_alloc ?_ _)); refine blk_put (cs := #[.slice Ao61 t191.length co61, .int .i64 t194, .slice Ao66 t195.length co66, .int .i64 t198, .int .i64 t199, .int .i64 t200, .int .i64 t201, .int .i64 0, .slice none 0 0]) ?_ 7 _ rfl; (with_reducible repeat (first | refine blk_drewN ?_ _ | refine blk_drew ?_ | refine blk_alloc ?_ _)); refine blk_put (cs := #[.slice Ao61 t191.length co61, .int .i64 t194, .slice Ao66 t195.length co66, .int .i64 t198, .int .i64 t199, .int .i64 t200, .int .i64 0, .int .i64 0, .slice none 0 0]) ?_ 6 _ rfl; (with_reducible repeat (first | refine blk_drewN ?_ _ | refine blk_drew ?_ | refine blk_alloc ?_ _)); refine blk_put (cs := #[.slice Ao61 t191.length co61, .int .i64 t194, .slice Ao66 t195.length co66, .int .i64 t198, .int .i64 t199, .int .i64 0, .int .i64 0, .int .i64 0, .slice none 0 0]) ?_ 5 _ rfl; (with_reducible repeat (first | refine blk_drewN ?_ _ | refine blk_drew ?_ | refine blk_alloc ?_ _)); refine blk_put (cs := #[.slice Ao61 t191.length co61, .int .i64 t194, .slice Ao66 t195.length co66, .int .i64 t198, .int .i64 0, .int .i64 0, .int .i64 0, .int .i64 0, .slice none 0 0]) ?_ 4 _ rfl; (with_reducible repeat (first | refine blk_drewN ?_ _ | refine blk_drew ?_ | refine blk_alloc ?_ _)); refine blk_put (cs := #[.slice Ao61 t191.length co61, .int .i64 t194, .slice Ao66 t195.length co66, .int .i64 0, .int .i64 0, .int .i64 0, .int .i64 0, .int .i64 0, .slice none 0 0]) ?_ 3 _ rfl; (with_reducible repeat (first | refine blk_drewN ?_ _ | refine blk_drew ?_ | refine blk_alloc ?_ _)); refine blk_put (cs := #[.slice Ao61 t191.length co61, .int .i64 t194, .slice none 0 0, .int .i64 0, .int .i64 0, .int .i64 0, .int .i64 0, .int .i64 0, .slice none 0 0]) ?_ 2 _ rfl; (with_reducible repeat (first | refine blk_drewN ?_ _ | refine blk_drew ?_ | refine blk_alloc ?_ _)); refine blk_put (cs := #[.slice Ao61 t191.length co61, .int .i64 0, .slice none 0 0, .int .i64 0, .int .i64 0, .int .i64 0, .int .i64 0, .int .i64 0, .slice none 0 0]) ?_ 1 _ rfl; (with_reducible repeat (first | refine blk_drewN ?_ _ | refine blk_drew ?_ | refine blk_alloc ?_ _)); refine blk_put (cs := #[.slice none 0 0, .int .i64 0, .slice none 0 0, .int .i64 0, .int .i64 0, .int .i64 0, .int .i64 0, .int .i64 0, .slice none 0 0]) ?_ 0 _ rfl; (with_reducible repeat (first | refine blk_drewN ?_ _ | refine blk_drew ?_ | refine blk_alloc ?_ _)); exact BK206.out) hb); have n16_ := Aside0.mk (below_step bl_ hb); clear HO146; clear HO150; clear HO158; clear HO161; clear HO165; clear HO173; clear HO177; clear HO181; clear HO189; clear HO193; clear HO197; clear HO205; clear BK140; clear BK141; clear BK190; clear BK206; clear HB; have HO146 := n0_; have HO150 := n1_; have HO158 := n2_; have HO161 := n3_; have HO165 := n4_; have HO173 := n5_; have HO177 := n6_; have HO181 := n7_; have HO189 := n8_; have HO193 := n9_; have HO197 := n10_; have HO205 := n11_; have BK140 := n12_; have BK141 := n13_; have BK190 := n14_; have BK206 := n15_; have HB := n16_; clear n0_ n1_ n2_ n3_ n4_ n5_ n6_ n7_ n8_ n9_ n10_ n11_ n12_ n13_ n14_ n15_ n16_; (try clear hb); (try clear hb2); (try clear hk); (try clear hi)))
            have n0_ := Aside0.mk (Kd.R_drew HO146.out)
            have n1_ := Aside0.mk (Kd.R_drew HO150.out)
            have n2_ := Aside0.mk (Kd.R_drew HO158.out)
            have n3_ := Aside0.mk (Kd.R_drew HO161.out)
            have n4_ := Aside0.mk (Kd.R_drew HO165.out)
            have n5_ := Aside0.mk (Kd.R_drew HO173.out)
            have n6_ := Aside0.mk (Kd.R_drew HO177.out)
            have n7_ := Aside0.mk (Kd.R_drew HO181.out)
            have n8_ := Aside0.mk (Kd.R_drew HO189.out)
            have n9_ := Aside0.mk (Kd.R_drew HO193.out)
            have n10_ := Aside0.mk (Kd.R_drew HO197.out)
            have n11_ := Aside0.mk (Kd.R_drew HO205.out)
            have n12_ := Aside0.mk (blk_drew BK140.out)
            have n13_ := Aside0.mk (blk_drew BK141.out)
            have n14_ := Aside0.mk (blk_drew BK190.out)
            have n15_ := Aside0.mk (blk_drew BK206.out)
            have n16_ := Aside0.mk (below_drew1 HB.out)
            clear HO146
            clear HO150
            clear HO158
            clear HO161
            clear HO165
            clear HO173
            clear HO177
            clear HO181
            clear HO189
            clear HO193
            clear HO197
            clear HO205
            clear BK140
            clear BK141
            clear BK190
            clear BK206
            clear HB
            have HO146 := n0_
            have HO150 := n1_
            have HO158 := n2_
            have HO161 := n3_
            have HO165 := n4_
            have HO173 := n5_
            have HO177 := n6_
            have HO181 := n7_
            have HO189 := n8_
            have HO193 := n9_
            have HO197 := n10_
            have HO205 := n11_
            have BK140 := n12_
            have BK141 := n13_
            have BK190 := n14_
            have BK206 := n15_
            have HB := n16_
            clear n0_ n1_ n2_ n3_ n4_ n5_ n6_ n7_ n8_ n9_ n10_ n11_ n12_ n13_ n14_ n15_ n16_
            refine start_ (n := 5) (S := fun w' => w'.cell? ⟨gb190, 0, none⟩ = some (.slice Ao52 t175.length co52) ∧ w'.cell? ⟨gb190, 1, none⟩ = some (.int .i64 t178) ∧ w'.cell? ⟨gb190, 2, none⟩ = some (.slice Ao56 t179.length co56) ∧ w'.cell? ⟨gb190, 3, none⟩ = some (.int .i64 t182) ∧ w'.cell? ⟨gb190, 4, none⟩ = some (.int .i64 t183) ∧ w'.cell? ⟨gb190, 5, none⟩ = some (.int .i64 t184) ∧ w'.cell? ⟨gb190, 6, none⟩ = some (.int .i64 t185) ∧ w'.cell? ⟨gb190, 7, none⟩ = some (.int .i64 t186) ∧ w'.cell? ⟨gb190, 8, none⟩ = some (.slice Ao57 t187.length co57) ∧ w'.cell? ⟨gb140, 0, none⟩ = some (.slice A0_0 l0_0.length c0_0) ∧ w'.cell? ⟨gb140, 1, none⟩ = some (.int .i64 a0_1) ∧ w'.cell? ⟨gb140, 2, none⟩ = some (.slice A0_2 l0_2.length c0_2) ∧ w'.cell? ⟨gb140, 3, none⟩ = some (.int .i64 a0_3) ∧ w'.cell? ⟨gb140, 4, none⟩ = some (.int .i64 a0_4) ∧ w'.cell? ⟨gb140, 5, none⟩ = some (.int .i64 a0_5) ∧ w'.cell? ⟨gb140, 6, none⟩ = some (.int .i64 a0_6) ∧ w'.cell? ⟨gb140, 7, none⟩ = some (.int .i64 a0_7) ∧ w'.cell? ⟨gb140, 8, none⟩ = some (.slice A0_8 l0_8.length c0_8)) (ds := []) #[false, false, false, false, false] (by kernel_rfl) rfl rfl ⟨(blk_cell BK190.out 0).trans rfl, (blk_cell BK190.out 1).trans rfl, (blk_cell BK190.out 2).trans rfl, (blk_cell BK190.out 3).trans rfl, (blk_cell BK190.out 4).trans rfl, (blk_cell BK190.out 5).trans rfl, (blk_cell BK190.out 6).trans rfl, (blk_cell BK190.out 7).trans rfl, (blk_cell BK190.out 8).trans rfl, (blk_cell BK140.out 0).trans rfl, (blk_cell BK140.out 1).trans rfl, (blk_cell BK140.out 2).trans rfl, (blk_cell BK140.out 3).trans rfl, (blk_cell BK140.out 4).trans rfl, (blk_cell BK140.out 5).trans rfl, (blk_cell BK140.out 6).trans rfl, (blk_cell BK140.out 7).trans rfl, (blk_cell BK140.out 8).trans rfl⟩ (fun hHeld => ?_)
            generalize w69.drew = w70 at HO146 HO150 HO158 HO161 HO165 HO173 HO177 HO181 HO189 HO193 HO197 HO205 BK140 BK141 BK190 BK206 HB hHeld ⊢
            refine take_ (i := 0) (N := some 35) (v := ?_) (a' := ?_) #[true, false, false, false, false] rfl rfl (by kernel_rfl) (fun _ _ _ h => h) (Or.inl ⟨by rfl, ?_⟩) hHeld ?_ ?_
            rotate_left
            · rintro w' ⟨s0, s1, s2, s3, s4, s5, s6, s7, s8, s9, s10, s11, s12, s13, s14, s15, s16, s17⟩
              go_simp
              with_reducible rfl
            rotate_left
            · simp only [Act.put, List.setIfInBounds_toArray, List.set_cons_zero, List.set_cons_succ, i64_w, i32_w]
              rfl
            refine take_ (i := 1) (N := some 36) (v := ?_) (a' := ?_) #[true, true, false, false, false] rfl rfl (by kernel_rfl) (fun _ _ _ h => h) (Or.inl ⟨by rfl, ?_⟩) hHeld ?_ ?_
            rotate_left
            · rintro w' ⟨s0, s1, s2, s3, s4, s5, s6, s7, s8, s9, s10, s11, s12, s13, s14, s15, s16, s17⟩
              go_simp
              with_reducible rfl
            rotate_left
            · simp only [Act.put, List.setIfInBounds_toArray, List.set_cons_zero, List.set_cons_succ, i64_w, i32_w]
              rfl
            refine one_ (i := 2) (N := some 37) #[true, true, true, false, false] rfl rfl (by kernel_rfl) (by decide) (fun K hK => ?_)
            refine goes_ Try.func24 (by kernel_rfl) rfl #[.agg #[.slice A0_0 l0_0.length c0_0, .int .i64 a0_1, .slice A0_2 l0_2.length c0_2, .int .i64 a0_3, .int .i64 a0_4, .int .i64 a0_5, .int .i64 a0_6, .int .i64 a0_7, .slice A0_8 l0_8.length c0_8]] (by rfl) rfl rfl gl_ ?_
            with_reducible refine (laws_toTask.calls k _ _ l0_0 a0_1 _ _ l0_2 a0_3 a0_4 a0_5 a0_6 a0_7 _ _ l0_8 t208 t211 t212 t215 t216 t217 t218 t219 t220 _ ?side1 ?side2 ?side3 ?side4 ?side5 ?side6 A26.out).mono ?_
            (case side1 => exact ca_ (Kd.C_below HR0_0.out HB.out))
            (case side2 => exact HC0_0.out)
            (case side3 => exact ca_ (Kd.C_below HR0_2.out HB.out))
            (case side4 => exact HC0_2.out)
            (case side5 => exact ca_ (Kd.C_below HR0_8.out HB.out))
            (case side6 => exact HC0_8.out)
            rintro e w71 ⟨v209, v213, v221, rfl, ho0, ho1, ho2, hb⟩
            refine ⟨_, rfl, ?_⟩
            have n0_ := Aside0.mk (Kd.R_mono (Kd.R_told (Kd.R_told (Kd.R_old (ra_ HO146) hb) (Kd.R_base ho0)) (Kd.R_base ho2)) (fun _ h_ => h_.1))
            have n1_ := Aside0.mk (Kd.R_elder' (ra_ HO150) (Kd.R_base ho1) hb)
            have n2_ := Aside0.mk (Kd.R_mono (Kd.R_told (Kd.R_told (Kd.R_old (ra_ HO158) hb) (Kd.R_base ho0)) (Kd.R_base ho2)) (fun _ h_ => h_.1))
            have n3_ := Aside0.mk (Kd.R_mono (Kd.R_told (Kd.R_told (Kd.R_old (ra_ HO161) hb) (Kd.R_base ho0)) (Kd.R_base ho2)) (fun _ h_ => h_.1))
            have n4_ := Aside0.mk (Kd.R_elder' (ra_ HO165) (Kd.R_base ho1) hb)
            have n5_ := Aside0.mk (Kd.R_mono (Kd.R_told (Kd.R_told (Kd.R_old (ra_ HO173) hb) (Kd.R_base ho0)) (Kd.R_base ho2)) (fun _ h_ => h_.1))
            have n6_ := Aside0.mk (Kd.R_mono (Kd.R_told (Kd.R_told (Kd.R_old (ra_ HO177) hb) (Kd.R_base ho0)) (Kd.R_base ho2)) (fun _ h_ => h_.1))
            have n7_ := Aside0.mk (Kd.R_elder' (ra_ HO181) (Kd.R_base ho1) hb)
            have n8_ := Aside0.mk (Kd.R_mono (Kd.R_told (Kd.R_told (Kd.R_old (ra_ HO189) hb) (Kd.R_base ho0)) (Kd.R_base ho2)) (fun _ h_ => h_.1))
            have n9_ := Aside0.mk (Kd.R_mono (Kd.R_told (Kd.R_told (Kd.R_old (ra_ HO193) hb) (Kd.R_base ho0)) (Kd.R_base ho2)) (fun _ h_ => h_.1))
            have n10_ := Aside0.mk (Kd.R_elder' (ra_ HO197) (Kd.R_base ho1) hb)
            have n11_ := Aside0.mk (Kd.R_mono (Kd.R_told (Kd.R_told (Kd.R_old (ra_ HO205) hb) (Kd.R_base ho0)) (Kd.R_base ho2)) (fun _ h_ => h_.1))
            have n12_ := Aside0.mk (Kd.R_lower (Kd.R_new' (Kd.R_new' (Kd.R_new' (Kd.R_new' (Kd.R_new' (Kd.R_new' (Kd.R_new' (Kd.R_new' ho0 (Kd.R_lt (ra_ HO146))) (Kd.R_lt (ra_ HO158))) (Kd.R_lt (ra_ HO161))) (Kd.R_lt (ra_ HO173))) (Kd.R_lt (ra_ HO177))) (Kd.R_lt (ra_ HO189))) (Kd.R_lt (ra_ HO193))) (Kd.R_lt (ra_ HO205))) (below_size bl_))
            have n13_ := Aside0.mk (Kd.R_lower (Kd.R_new' (Kd.R_new' (Kd.R_new' (Kd.R_new' ho1 (Kd.R_lt (ra_ HO150))) (Kd.R_lt (ra_ HO165))) (Kd.R_lt (ra_ HO181))) (Kd.R_lt (ra_ HO197))) (below_size bl_))
            have n14_ := Aside0.mk (Kd.R_lower (Kd.R_new' (Kd.R_new' (Kd.R_new' (Kd.R_new' (Kd.R_new' (Kd.R_new' (Kd.R_new' (Kd.R_new' ho2 (Kd.R_lt (ra_ HO146))) (Kd.R_lt (ra_ HO158))) (Kd.R_lt (ra_ HO161))) (Kd.R_lt (ra_ HO173))) (Kd.R_lt (ra_ HO177))) (Kd.R_lt (ra_ HO189))) (Kd.R_lt (ra_ HO193))) (Kd.R_lt (ra_ HO205))) (below_size bl_))
            have n15_ := Aside0.mk (blk_below (bk_ BK140) hb)
            have n16_ := Aside0.mk (blk_below (bk_ BK141) hb)
            have n17_ := Aside0.mk (blk_below (bk_ BK190) hb)
            have n18_ := Aside0.mk (blk_below (bk_ BK206) hb)
            have n19_ := Aside0.mk (below_step bl_ hb)
            clear HO146
            clear HO150
            clear HO158
            clear HO161
            clear HO165
            clear HO173
            clear HO177
            clear HO181
            clear HO189
            clear HO193
            clear HO197
            clear HO205
            clear BK140
            clear BK141
            clear BK190
            clear BK206
            clear HB
            have HO146 := n0_
            have HO150 := n1_
            have HO158 := n2_
            have HO161 := n3_
            have HO165 := n4_
            have HO173 := n5_
            have HO177 := n6_
            have HO181 := n7_
            have HO189 := n8_
            have HO193 := n9_
            have HO197 := n10_
            have HO205 := n11_
            have HO210 := n12_
            have HO214 := n13_
            have HO222 := n14_
            have BK140 := n15_
            have BK141 := n16_
            have BK190 := n17_
            have BK206 := n18_
            have HB := n19_
            clear n0_ n1_ n2_ n3_ n4_ n5_ n6_ n7_ n8_ n9_ n10_ n11_ n12_ n13_ n14_ n15_ n16_ n17_ n18_ n19_
            (try clear hb)
            (try clear hb2)
            (try clear hk)
            (try clear hi)
            (try clear ho0)
            (try clear ho1)
            (try clear ho2)
            obtain ⟨Ao72, co72, eo72⟩ := Kd.R_slice HO210.out
            (first | subst eo72 | (injection eo72 with f1_ f2_ f3_; have f4_ := f1_.symm; have f5_ := f3_.symm; clear f1_ f2_ f3_; subst f4_; subst f5_))
            obtain ⟨Ao73, co73, eo73⟩ := Kd.R_slice HO214.out
            (first | subst eo73 | (injection eo73 with f1_ f2_ f3_; have f4_ := f1_.symm; have f5_ := f3_.symm; clear f1_ f2_ f3_; subst f4_; subst f5_))
            obtain ⟨Ao74, co74, eo74⟩ := Kd.R_slice HO222.out
            (first | subst eo74 | (injection eo74 with f1_ f2_ f3_; have f4_ := f1_.symm; have f5_ := f3_.symm; clear f1_ f2_ f3_; subst f4_; subst f5_))
            refine hK.out _ _ ⟨(blk_cell BK190.out 0).trans rfl, (blk_cell BK190.out 1).trans rfl, (blk_cell BK190.out 2).trans rfl, (blk_cell BK190.out 3).trans rfl, (blk_cell BK190.out 4).trans rfl, (blk_cell BK190.out 5).trans rfl, (blk_cell BK190.out 6).trans rfl, (blk_cell BK190.out 7).trans rfl, (blk_cell BK190.out 8).trans rfl, (blk_cell BK140.out 0).trans rfl, (blk_cell BK140.out 1).trans rfl, (blk_cell BK140.out 2).trans rfl, (blk_cell BK140.out 3).trans rfl, (blk_cell BK140.out 4).trans rfl, (blk_cell BK140.out 5).trans rfl, (blk_cell BK140.out 6).trans rfl, (blk_cell BK140.out 7).trans rfl, (blk_cell BK140.out 8).trans rfl⟩ (fun hHeld => ?_)
            clear hK K
            refine norm_ (a' := ?_) ?_ ?_
            rotate_left
            · show Act.put _ (some 37) _ = _
              simp only [Act.put, List.setIfInBounds_toArray, List.set_cons_zero, List.set_cons_succ, i64_w, i32_w]
              rfl
            refine one_ (i := 3) (N := some 38) #[true, true, true, true, false] rfl rfl (by kernel_rfl) (by decide) (fun K hK => ?_)
            refine goes_ Try.func26 (by kernel_rfl) rfl #[.agg #[.slice Ao52 t175.length co52, .int .i64 t178, .slice Ao56 t179.length co56, .int .i64 t182, .int .i64 t183, .int .i64 t184, .int .i64 t185, .int .i64 t186, .slice Ao57 t187.length co57], .agg #[.slice Ao72 t208.length co72, .int .i64 t211, .slice Ao73 t212.length co73, .int .i64 t215, .int .i64 t216, .int .i64 t217, .int .i64 t218, .int .i64 t219, .slice Ao74 t220.length co74]] (by rfl) rfl rfl gl_ ?_
            with_reducible refine (laws_eqTask.calls k _ _ t175 t178 _ _ t179 t182 t183 t184 t185 t186 _ _ t187 _ _ t208 t211 _ _ t212 t215 t216 t217 t218 t219 _ _ t220 true _ ?side1 ?side2 ?side3 ?side4 ?side5 ?side6 ?side7 ?side8 ?side9 ?side10 ?side11 ?side12 A27.out).mono ?_
            (case side1 => exact ca_ ((Kd.R_reads' HO177.out).2.2))
            (case side2 => exact (Kd.R_reads' HO177.out).2.1)
            (case side3 => exact ca_ ((Kd.R_reads' HO181.out).2.2))
            (case side4 => exact (Kd.R_reads' HO181.out).2.1)
            (case side5 => exact ca_ ((Kd.R_reads' HO189.out).2.2))
            (case side6 => exact (Kd.R_reads' HO189.out).2.1)
            (case side7 => exact ca_ ((Kd.R_reads' HO210.out).2.2))
            (case side8 => exact (Kd.R_reads' HO210.out).2.1)
            (case side9 => exact ca_ ((Kd.R_reads' HO214.out).2.2))
            (case side10 => exact (Kd.R_reads' HO214.out).2.1)
            (case side11 => exact ca_ ((Kd.R_reads' HO222.out).2.2))
            (case side12 => exact (Kd.R_reads' HO222.out).2.1)
            rintro e w75 ⟨rfl, hb⟩
            refine ⟨_, rfl, ?_⟩
            have n0_ := Aside0.mk (Kd.R_below (ra_ HO146) hb)
            have n1_ := Aside0.mk (Kd.R_below (ra_ HO150) hb)
            have n2_ := Aside0.mk (Kd.R_below (ra_ HO158) hb)
            have n3_ := Aside0.mk (Kd.R_below (ra_ HO161) hb)
            have n4_ := Aside0.mk (Kd.R_below (ra_ HO165) hb)
            have n5_ := Aside0.mk (Kd.R_below (ra_ HO173) hb)
            have n6_ := Aside0.mk (Kd.R_below (ra_ HO177) hb)
            have n7_ := Aside0.mk (Kd.R_below (ra_ HO181) hb)
            have n8_ := Aside0.mk (Kd.R_below (ra_ HO189) hb)
            have n9_ := Aside0.mk (Kd.R_below (ra_ HO193) hb)
            have n10_ := Aside0.mk (Kd.R_below (ra_ HO197) hb)
            have n11_ := Aside0.mk (Kd.R_below (ra_ HO205) hb)
            have n12_ := Aside0.mk (Kd.R_below (ra_ HO210) hb)
            have n13_ := Aside0.mk (Kd.R_below (ra_ HO214) hb)
            have n14_ := Aside0.mk (Kd.R_below (ra_ HO222) hb)
            have n15_ := Aside0.mk (blk_below (bk_ BK140) hb)
            have n16_ := Aside0.mk (blk_below (bk_ BK141) hb)
            have n17_ := Aside0.mk (blk_below (bk_ BK190) hb)
            have n18_ := Aside0.mk (blk_below (bk_ BK206) hb)
            have n19_ := Aside0.mk (below_step bl_ hb)
            clear HO146
            clear HO150
            clear HO158
            clear HO161
            clear HO165
            clear HO173
            clear HO177
            clear HO181
            clear HO189
            clear HO193
            clear HO197
            clear HO205
            clear HO210
            clear HO214
            clear HO222
            clear BK140
            clear BK141
            clear BK190
            clear BK206
            clear HB
            have HO146 := n0_
            have HO150 := n1_
            have HO158 := n2_
            have HO161 := n3_
            have HO165 := n4_
            have HO173 := n5_
            have HO177 := n6_
            have HO181 := n7_
            have HO189 := n8_
            have HO193 := n9_
            have HO197 := n10_
            have HO205 := n11_
            have HO210 := n12_
            have HO214 := n13_
            have HO222 := n14_
            have BK140 := n15_
            have BK141 := n16_
            have BK190 := n17_
            have BK206 := n18_
            have HB := n19_
            clear n0_ n1_ n2_ n3_ n4_ n5_ n6_ n7_ n8_ n9_ n10_ n11_ n12_ n13_ n14_ n15_ n16_ n17_ n18_ n19_
            (try clear hb)
            (try clear hb2)
            (try clear hk)
            (try clear hi)
            refine hK.out _ _ ⟨(blk_cell BK190.out 0).trans rfl, (blk_cell BK190.out 1).trans rfl, (blk_cell BK190.out 2).trans rfl, (blk_cell BK190.out 3).trans rfl, (blk_cell BK190.out 4).trans rfl, (blk_cell BK190.out 5).trans rfl, (blk_cell BK190.out 6).trans rfl, (blk_cell BK190.out 7).trans rfl, (blk_cell BK190.out 8).trans rfl, (blk_cell BK140.out 0).trans rfl, (blk_cell BK140.out 1).trans rfl, (blk_cell BK140.out 2).trans rfl, (blk_cell BK140.out 3).trans rfl, (blk_cell BK140.out 4).trans rfl, (blk_cell BK140.out 5).trans rfl, (blk_cell BK140.out 6).trans rfl, (blk_cell BK140.out 7).trans rfl, (blk_cell BK140.out 8).trans rfl⟩ (fun hHeld => ?_)
            clear hK K
            refine norm_ (a' := ?_) ?_ ?_
            rotate_left
            · show Act.put _ (some 38) _ = _
              simp only [Act.put, List.setIfInBounds_toArray, List.set_cons_zero, List.set_cons_succ, i64_w, i32_w]
              rfl
            refine pure_ (i := 4) (N := some 39) (v := ?_) (a' := ?_) #[true, true, true, true, true] rfl rfl (by kernel_rfl) (fun _ _ _ h => h) (Or.inl ⟨by rfl, ?_⟩) ?_ ?_
            rotate_left
            · intro w'
              go_simp
              with_reducible rfl
            rotate_left
            · simp only [Act.put, List.setIfInBounds_toArray, List.set_cons_zero, List.set_cons_succ, i64_w, i32_w]
              rfl
            refine done_ (by kernel_rfl) ?_
            try go_wp2
            have n0_ := Aside0.mk (Kd.R_drew HO146.out)
            have n1_ := Aside0.mk (Kd.R_drew HO150.out)
            have n2_ := Aside0.mk (Kd.R_drew HO158.out)
            have n3_ := Aside0.mk (Kd.R_drew HO161.out)
            have n4_ := Aside0.mk (Kd.R_drew HO165.out)
            have n5_ := Aside0.mk (Kd.R_drew HO173.out)
            have n6_ := Aside0.mk (Kd.R_drew HO177.out)
            have n7_ := Aside0.mk (Kd.R_drew HO181.out)
            have n8_ := Aside0.mk (Kd.R_drew HO189.out)
            have n9_ := Aside0.mk (Kd.R_drew HO193.out)
            have n10_ := Aside0.mk (Kd.R_drew HO197.out)
            have n11_ := Aside0.mk (Kd.R_drew HO205.out)
            have n12_ := Aside0.mk (Kd.R_drew HO210.out)
            have n13_ := Aside0.mk (Kd.R_drew HO214.out)
            have n14_ := Aside0.mk (Kd.R_drew HO222.out)
            have n15_ := Aside0.mk (blk_drew BK140.out)
            have n16_ := Aside0.mk (blk_drew BK141.out)
            have n17_ := Aside0.mk (blk_drew BK190.out)
            have n18_ := Aside0.mk (blk_drew BK206.out)
            have n19_ := Aside0.mk (below_drew1 HB.out)
            clear HO146
            clear HO150
            clear HO158
            clear HO161
            clear HO165
            clear HO173
            clear HO177
            clear HO181
            clear HO189
            clear HO193
            clear HO197
            clear HO205
            clear HO210
            clear HO214
            clear HO222
            clear BK140
            clear BK141
            clear BK190
            clear BK206
            clear HB
            have HO146 := n0_
            have HO150 := n1_
            have HO158 := n2_
            have HO161 := n3_
            have HO165 := n4_
            have HO173 := n5_
            have HO177 := n6_
            have HO181 := n7_
            have HO189 := n8_
            have HO193 := n9_
            have HO197 := n10_
            have HO205 := n11_
            have HO210 := n12_
            have HO214 := n13_
            have HO222 := n14_
            have BK140 := n15_
            have BK141 := n16_
            have BK190 := n17_
            have BK206 := n18_
            have HB := n19_
            clear n0_ n1_ n2_ n3_ n4_ n5_ n6_ n7_ n8_ n9_ n10_ n11_ n12_ n13_ n14_ n15_ n16_ n17_ n18_ n19_
            refine start_ (n := 5) (S := fun w' => w'.cell? ⟨gb206, 0, none⟩ = some (.slice Ao61 t191.length co61) ∧ w'.cell? ⟨gb206, 1, none⟩ = some (.int .i64 t194) ∧ w'.cell? ⟨gb206, 2, none⟩ = some (.slice Ao66 t195.length co66) ∧ w'.cell? ⟨gb206, 3, none⟩ = some (.int .i64 t198) ∧ w'.cell? ⟨gb206, 4, none⟩ = some (.int .i64 t199) ∧ w'.cell? ⟨gb206, 5, none⟩ = some (.int .i64 t200) ∧ w'.cell? ⟨gb206, 6, none⟩ = some (.int .i64 t201) ∧ w'.cell? ⟨gb206, 7, none⟩ = some (.int .i64 t202) ∧ w'.cell? ⟨gb206, 8, none⟩ = some (.slice Ao67 t203.length co67) ∧ w'.cell? ⟨gb141, 0, none⟩ = some (.slice A1_0 l1_0.length c1_0) ∧ w'.cell? ⟨gb141, 1, none⟩ = some (.int .i64 a1_1) ∧ w'.cell? ⟨gb141, 2, none⟩ = some (.slice A1_2 l1_2.length c1_2) ∧ w'.cell? ⟨gb141, 3, none⟩ = some (.int .i64 a1_3) ∧ w'.cell? ⟨gb141, 4, none⟩ = some (.int .i64 a1_4) ∧ w'.cell? ⟨gb141, 5, none⟩ = some (.int .i64 a1_5) ∧ w'.cell? ⟨gb141, 6, none⟩ = some (.int .i64 a1_6) ∧ w'.cell? ⟨gb141, 7, none⟩ = some (.int .i64 a1_7) ∧ w'.cell? ⟨gb141, 8, none⟩ = some (.slice A1_8 l1_8.length c1_8)) (ds := []) #[false, false, false, false, false] (by kernel_rfl) rfl rfl ⟨(blk_cell BK206.out 0).trans rfl, (blk_cell BK206.out 1).trans rfl, (blk_cell BK206.out 2).trans rfl, (blk_cell BK206.out 3).trans rfl, (blk_cell BK206.out 4).trans rfl, (blk_cell BK206.out 5).trans rfl, (blk_cell BK206.out 6).trans rfl, (blk_cell BK206.out 7).trans rfl, (blk_cell BK206.out 8).trans rfl, (blk_cell BK141.out 0).trans rfl, (blk_cell BK141.out 1).trans rfl, (blk_cell BK141.out 2).trans rfl, (blk_cell BK141.out 3).trans rfl, (blk_cell BK141.out 4).trans rfl, (blk_cell BK141.out 5).trans rfl, (blk_cell BK141.out 6).trans rfl, (blk_cell BK141.out 7).trans rfl, (blk_cell BK141.out 8).trans rfl⟩ (fun hHeld => ?_)
            generalize w75.drew = w76 at HO146 HO150 HO158 HO161 HO165 HO173 HO177 HO181 HO189 HO193 HO197 HO205 HO210 HO214 HO222 BK140 BK141 BK190 BK206 HB hHeld ⊢
            refine take_ (i := 0) (N := some 40) (v := ?_) (a' := ?_) #[true, false, false, false, false] rfl rfl (by kernel_rfl) (fun _ _ _ h => h) (Or.inl ⟨by rfl, ?_⟩) hHeld ?_ ?_
            rotate_left
            · rintro w' ⟨s0, s1, s2, s3, s4, s5, s6, s7, s8, s9, s10, s11, s12, s13, s14, s15, s16, s17⟩
              go_simp
              with_reducible rfl
            rotate_left
            · simp only [Act.put, List.setIfInBounds_toArray, List.set_cons_zero, List.set_cons_succ, i64_w, i32_w]
              rfl
            refine take_ (i := 1) (N := some 41) (v := ?_) (a' := ?_) #[true, true, false, false, false] rfl rfl (by kernel_rfl) (fun _ _ _ h => h) (Or.inl ⟨by rfl, ?_⟩) hHeld ?_ ?_
            rotate_left
            · rintro w' ⟨s0, s1, s2, s3, s4, s5, s6, s7, s8, s9, s10, s11, s12, s13, s14, s15, s16, s17⟩
              go_simp
              with_reducible rfl
            rotate_left
            · simp only [Act.put, List.setIfInBounds_toArray, List.set_cons_zero, List.set_cons_succ, i64_w, i32_w]
              rfl
            refine one_ (i := 2) (N := some 42) #[true, true, true, false, false] rfl rfl (by kernel_rfl) (by decide) (fun K hK => ?_)
            refine goes_ Try.func24 (by kernel_rfl) rfl #[.agg #[.slice A1_0 l1_0.length c1_0, .int .i64 a1_1, .slice A1_2 l1_2.length c1_2, .int .i64 a1_3, .int .i64 a1_4, .int .i64 a1_5, .int .i64 a1_6, .int .i64 a1_7, .slice A1_8 l1_8.length c1_8]] (by rfl) rfl rfl gl_ ?_
            with_reducible refine (laws_toTask.calls k _ _ l1_0 a1_1 _ _ l1_2 a1_3 a1_4 a1_5 a1_6 a1_7 _ _ l1_8 t224 t227 t228 t231 t232 t233 t234 t235 t236 _ ?side1 ?side2 ?side3 ?side4 ?side5 ?side6 A29.out).mono ?_
            (case side1 => exact ca_ (Kd.C_below HR1_0.out HB.out))
            (case side2 => exact HC1_0.out)
            (case side3 => exact ca_ (Kd.C_below HR1_2.out HB.out))
            (case side4 => exact HC1_2.out)
            (case side5 => exact ca_ (Kd.C_below HR1_8.out HB.out))
            (case side6 => exact HC1_8.out)
            rintro e w77 ⟨v225, v229, v237, rfl, ho0, ho1, ho2, hb⟩
            refine ⟨_, rfl, ?_⟩
            have n0_ := Aside0.mk (Kd.R_mono (Kd.R_told (Kd.R_told (Kd.R_old (ra_ HO146) hb) (Kd.R_base ho0)) (Kd.R_base ho2)) (fun _ h_ => h_.1))
            have n1_ := Aside0.mk (Kd.R_elder' (ra_ HO150) (Kd.R_base ho1) hb)
            have n2_ := Aside0.mk (Kd.R_mono (Kd.R_told (Kd.R_told (Kd.R_old (ra_ HO158) hb) (Kd.R_base ho0)) (Kd.R_base ho2)) (fun _ h_ => h_.1))
            have n3_ := Aside0.mk (Kd.R_mono (Kd.R_told (Kd.R_told (Kd.R_old (ra_ HO161) hb) (Kd.R_base ho0)) (Kd.R_base ho2)) (fun _ h_ => h_.1))
            have n4_ := Aside0.mk (Kd.R_elder' (ra_ HO165) (Kd.R_base ho1) hb)
            have n5_ := Aside0.mk (Kd.R_mono (Kd.R_told (Kd.R_told (Kd.R_old (ra_ HO173) hb) (Kd.R_base ho0)) (Kd.R_base ho2)) (fun _ h_ => h_.1))
            have n6_ := Aside0.mk (Kd.R_mono (Kd.R_told (Kd.R_told (Kd.R_old (ra_ HO177) hb) (Kd.R_base ho0)) (Kd.R_base ho2)) (fun _ h_ => h_.1))
            have n7_ := Aside0.mk (Kd.R_elder' (ra_ HO181) (Kd.R_base ho1) hb)
            have n8_ := Aside0.mk (Kd.R_mono (Kd.R_told (Kd.R_told (Kd.R_old (ra_ HO189) hb) (Kd.R_base ho0)) (Kd.R_base ho2)) (fun _ h_ => h_.1))
            have n9_ := Aside0.mk (Kd.R_mono (Kd.R_told (Kd.R_told (Kd.R_old (ra_ HO193) hb) (Kd.R_base ho0)) (Kd.R_base ho2)) (fun _ h_ => h_.1))
            have n10_ := Aside0.mk (Kd.R_elder' (ra_ HO197) (Kd.R_base ho1) hb)
            have n11_ := Aside0.mk (Kd.R_mono (Kd.R_told (Kd.R_told (Kd.R_old (ra_ HO205) hb) (Kd.R_base ho0)) (Kd.R_base ho2)) (fun _ h_ => h_.1))
            have n12_ := Aside0.mk (Kd.R_mono (Kd.R_told (Kd.R_told (Kd.R_old (ra_ HO210) hb) (Kd.R_base ho0)) (Kd.R_base ho2)) (fun _ h_ => h_.1))
            have n13_ := Aside0.mk (Kd.R_elder' (ra_ HO214) (Kd.R_base ho1) hb)
            have n14_ := Aside0.mk (Kd.R_mono (Kd.R_told (Kd.R_told (Kd.R_old (ra_ HO222) hb) (Kd.R_base ho0)) (Kd.R_base ho2)) (fun _ h_ => h_.1))
            have n15_ := Aside0.mk (Kd.R_lower (Kd.R_new' (Kd.R_new' (Kd.R_new' (Kd.R_new' (Kd.R_new' (Kd.R_new' (Kd.R_new' (Kd.R_new' (Kd.R_new' (Kd.R_new' ho0 (Kd.R_lt (ra_ HO146))) (Kd.R_lt (ra_ HO158))) (Kd.R_lt (ra_ HO161))) (Kd.R_lt (ra_ HO173))) (Kd.R_lt (ra_ HO177))) (Kd.R_lt (ra_ HO189))) (Kd.R_lt (ra_ HO193))) (Kd.R_lt (ra_ HO205))) (Kd.R_lt (ra_ HO210))) (Kd.R_lt (ra_ HO222))) (below_size bl_))
            have n16_ := Aside0.mk (Kd.R_lower (Kd.R_new' (Kd.R_new' (Kd.R_new' (Kd.R_new' (Kd.R_new' ho1 (Kd.R_lt (ra_ HO150))) (Kd.R_lt (ra_ HO165))) (Kd.R_lt (ra_ HO181))) (Kd.R_lt (ra_ HO197))) (Kd.R_lt (ra_ HO214))) (below_size bl_))
            have n17_ := Aside0.mk (Kd.R_lower (Kd.R_new' (Kd.R_new' (Kd.R_new' (Kd.R_new' (Kd.R_new' (Kd.R_new' (Kd.R_new' (Kd.R_new' (Kd.R_new' (Kd.R_new' ho2 (Kd.R_lt (ra_ HO146))) (Kd.R_lt (ra_ HO158))) (Kd.R_lt (ra_ HO161))) (Kd.R_lt (ra_ HO173))) (Kd.R_lt (ra_ HO177))) (Kd.R_lt (ra_ HO189))) (Kd.R_lt (ra_ HO193))) (Kd.R_lt (ra_ HO205))) (Kd.R_lt (ra_ HO210))) (Kd.R_lt (ra_ HO222))) (below_size bl_))
            have n18_ := Aside0.mk (blk_below (bk_ BK140) hb)
            have n19_ := Aside0.mk (blk_below (bk_ BK141) hb)
            have n20_ := Aside0.mk (blk_below (bk_ BK190) hb)
            have n21_ := Aside0.mk (blk_below (bk_ BK206) hb)
            have n22_ := Aside0.mk (below_step bl_ hb)
            clear HO146
            clear HO150
            clear HO158
            clear HO161
            clear HO165
            clear HO173
            clear HO177
            clear HO181
            clear HO189
            clear HO193
            clear HO197
            clear HO205
            clear HO210
            clear HO214
            clear HO222
            clear BK140
            clear BK141
            clear BK190
            clear BK206
            clear HB
            have HO146 := n0_
            have HO150 := n1_
            have HO158 := n2_
            have HO161 := n3_
            have HO165 := n4_
            have HO173 := n5_
            have HO177 := n6_
            have HO181 := n7_
            have HO189 := n8_
            have HO193 := n9_
            have HO197 := n10_
            have HO205 := n11_
            have HO210 := n12_
            have HO214 := n13_
            have HO222 := n14_
            have HO226 := n15_
            have HO230 := n16_
            have HO238 := n17_
            have BK140 := n18_
            have BK141 := n19_
            have BK190 := n20_
            have BK206 := n21_
            have HB := n22_
            clear n0_ n1_ n2_ n3_ n4_ n5_ n6_ n7_ n8_ n9_ n10_ n11_ n12_ n13_ n14_ n15_ n16_ n17_ n18_ n19_ n20_ n21_ n22_
            (try clear hb)
            (try clear hb2)
            (try clear hk)
            (try clear hi)
            (try clear ho0)
            (try clear ho1)
            (try clear ho2)
            obtain ⟨Ao78, co78, eo78⟩ := Kd.R_slice HO226.out
            (first | subst eo78 | (injection eo78 with f1_ f2_ f3_; have f4_ := f1_.symm; have f5_ := f3_.symm; clear f1_ f2_ f3_; subst f4_; subst f5_))
            obtain ⟨Ao79, co79, eo79⟩ := Kd.R_slice HO230.out
            (first | subst eo79 | (injection eo79 with f1_ f2_ f3_; have f4_ := f1_.symm; have f5_ := f3_.symm; clear f1_ f2_ f3_; subst f4_; subst f5_))
            obtain ⟨Ao80, co80, eo80⟩ := Kd.R_slice HO238.out
            (first | subst eo80 | (injection eo80 with f1_ f2_ f3_; have f4_ := f1_.symm; have f5_ := f3_.symm; clear f1_ f2_ f3_; subst f4_; subst f5_))
            refine hK.out _ _ ⟨(blk_cell BK206.out 0).trans rfl, (blk_cell BK206.out 1).trans rfl, (blk_cell BK206.out 2).trans rfl, (blk_cell BK206.out 3).trans rfl, (blk_cell BK206.out 4).trans rfl, (blk_cell BK206.out 5).trans rfl, (blk_cell BK206.out 6).trans rfl, (blk_cell BK206.out 7).trans rfl, (blk_cell BK206.out 8).trans rfl, (blk_cell BK141.out 0).trans rfl, (blk_cell BK141.out 1).trans rfl, (blk_cell BK141.out 2).trans rfl, (blk_cell BK141.out 3).trans rfl, (blk_cell BK141.out 4).trans rfl, (blk_cell BK141.out 5).trans rfl, (blk_cell BK141.out 6).trans rfl, (blk_cell BK141.out 7).trans rfl, (blk_cell BK141.out 8).trans rfl⟩ (fun hHeld => ?_)
            clear hK K
            refine norm_ (a' := ?_) ?_ ?_
            rotate_left
            · show Act.put _ (some 42) _ = _
              simp only [Act.put, List.setIfInBounds_toArray, List.set_cons_zero, List.set_cons_succ, i64_w, i32_w]
              rfl
            refine one_ (i := 3) (N := some 43) #[true, true, true, true, false] rfl rfl (by kernel_rfl) (by decide) (fun K hK => ?_)
            refine goes_ Try.func26 (by kernel_rfl) rfl #[.agg #[.slice Ao61 t191.length co61, .int .i64 t194, .slice Ao66 t195.length co66, .int .i64 t198, .int .i64 t199, .int .i64 t200, .int .i64 t201, .int .i64 t202, .slice Ao67 t203.length co67], .agg #[.slice Ao78 t224.length co78, .int .i64 t227, .slice Ao79 t228.length co79, .int .i64 t231, .int .i64 t232, .int .i64 t233, .int .i64 t234, .int .i64 t235, .slice Ao80 t236.length co80]] (by rfl) rfl rfl gl_ ?_
            with_reducible refine (laws_eqTask.calls k _ _ t191 t194 _ _ t195 t198 t199 t200 t201 t202 _ _ t203 _ _ t224 t227 _ _ t228 t231 t232 t233 t234 t235 _ _ t236 true _ ?side1 ?side2 ?side3 ?side4 ?side5 ?side6 ?side7 ?side8 ?side9 ?side10 ?side11 ?side12 A30.out).mono ?_
            (case side1 => exact ca_ ((Kd.R_reads' HO193.out).2.2))
            (case side2 => exact (Kd.R_reads' HO193.out).2.1)
            (case side3 => exact ca_ ((Kd.R_reads' HO197.out).2.2))
            (case side4 => exact (Kd.R_reads' HO197.out).2.1)
            (case side5 => exact ca_ ((Kd.R_reads' HO205.out).2.2))
            (case side6 => exact (Kd.R_reads' HO205.out).2.1)
            (case side7 => exact ca_ ((Kd.R_reads' HO226.out).2.2))
            (case side8 => exact (Kd.R_reads' HO226.out).2.1)
            (case side9 => exact ca_ ((Kd.R_reads' HO230.out).2.2))
            (case side10 => exact (Kd.R_reads' HO230.out).2.1)
            (case side11 => exact ca_ ((Kd.R_reads' HO238.out).2.2))
            (case side12 => exact (Kd.R_reads' HO238.out).2.1)
            rintro e w81 ⟨rfl, hb⟩
            refine ⟨_, rfl, ?_⟩
            have n0_ := Aside0.mk (Kd.R_below (ra_ HO146) hb)
            have n1_ := Aside0.mk (Kd.R_below (ra_ HO150) hb)
            have n2_ := Aside0.mk (Kd.R_below (ra_ HO158) hb)
            have n3_ := Aside0.mk (Kd.R_below (ra_ HO161) hb)
            have n4_ := Aside0.mk (Kd.R_below (ra_ HO165) hb)
            have n5_ := Aside0.mk (Kd.R_below (ra_ HO173) hb)
            have n6_ := Aside0.mk (Kd.R_below (ra_ HO177) hb)
            have n7_ := Aside0.mk (Kd.R_below (ra_ HO181) hb)
            have n8_ := Aside0.mk (Kd.R_below (ra_ HO189) hb)
            have n9_ := Aside0.mk (Kd.R_below (ra_ HO193) hb)
            have n10_ := Aside0.mk (Kd.R_below (ra_ HO197) hb)
            have n11_ := Aside0.mk (Kd.R_below (ra_ HO205) hb)
            have n12_ := Aside0.mk (Kd.R_below (ra_ HO210) hb)
            have n13_ := Aside0.mk (Kd.R_below (ra_ HO214) hb)
            have n14_ := Aside0.mk (Kd.R_below (ra_ HO222) hb)
            have n15_ := Aside0.mk (Kd.R_below (ra_ HO226) hb)
            have n16_ := Aside0.mk (Kd.R_below (ra_ HO230) hb)
            have n17_ := Aside0.mk (Kd.R_below (ra_ HO238) hb)
            have n18_ := Aside0.mk (blk_below (bk_ BK140) hb)
            have n19_ := Aside0.mk (blk_below (bk_ BK141) hb)
            have n20_ := Aside0.mk (blk_below (bk_ BK190) hb)
            have n21_ := Aside0.mk (blk_below (bk_ BK206) hb)
            have n22_ := Aside0.mk (below_step bl_ hb)
            clear HO146
            clear HO150
            clear HO158
            clear HO161
            clear HO165
            clear HO173
            clear HO177
            clear HO181
            clear HO189
            clear HO193
            clear HO197
            clear HO205
            clear HO210
            clear HO214
            clear HO222
            clear HO226
            clear HO230
            clear HO238
            clear BK140
            clear BK141
            clear BK190
            clear BK206
            clear HB
            have HO146 := n0_
            have HO150 := n1_
            have HO158 := n2_
            have HO161 := n3_
            have HO165 := n4_
            have HO173 := n5_
            have HO177 := n6_
            have HO181 := n7_
            have HO189 := n8_
            have HO193 := n9_
            have HO197 := n10_
            have HO205 := n11_
            have HO210 := n12_
            have HO214 := n13_
            have HO222 := n14_
            have HO226 := n15_
            have HO230 := n16_
            have HO238 := n17_
            have BK140 := n18_
            have BK141 := n19_
            have BK190 := n20_
            have BK206 := n21_
            have HB := n22_
            clear n0_ n1_ n2_ n3_ n4_ n5_ n6_ n7_ n8_ n9_ n10_ n11_ n12_ n13_ n14_ n15_ n16_ n17_ n18_ n19_ n20_ n21_ n22_
            (try clear hb)
            (try clear hb2)
            (try clear hk)
            (try clear hi)
            refine hK.out _ _ ⟨(blk_cell BK206.out 0).trans rfl, (blk_cell BK206.out 1).trans rfl, (blk_cell BK206.out 2).trans rfl, (blk_cell BK206.out 3).trans rfl, (blk_cell BK206.out 4).trans rfl, (blk_cell BK206.out 5).trans rfl, (blk_cell BK206.out 6).trans rfl, (blk_cell BK206.out 7).trans rfl, (blk_cell BK206.out 8).trans rfl, (blk_cell BK141.out 0).trans rfl, (blk_cell BK141.out 1).trans rfl, (blk_cell BK141.out 2).trans rfl, (blk_cell BK141.out 3).trans rfl, (blk_cell BK141.out 4).trans rfl, (blk_cell BK141.out 5).trans rfl, (blk_cell BK141.out 6).trans rfl, (blk_cell BK141.out 7).trans rfl, (blk_cell BK141.out 8).trans rfl⟩ (fun hHeld => ?_)
            clear hK K
            refine norm_ (a' := ?_) ?_ ?_
            rotate_left
            · show Act.put _ (some 43) _ = _
              simp only [Act.put, List.setIfInBounds_toArray, List.set_cons_zero, List.set_cons_succ, i64_w, i32_w]
              rfl
            refine pure_ (i := 4) (N := some 44) (v := ?_) (a' := ?_) #[true, true, true, true, true] rfl rfl (by kernel_rfl) (fun _ _ _ h => h) (Or.inl ⟨by rfl, ?_⟩) ?_ ?_
            rotate_left
            · intro w'
              go_simp
              with_reducible rfl
            rotate_left
            · simp only [Act.put, List.setIfInBounds_toArray, List.set_cons_zero, List.set_cons_succ, i64_w, i32_w]
              rfl
            refine done_ (by kernel_rfl) ?_
            try go_wp2
            go_ret
            exact ⟨by first | rfl | (simp [errW_none, errW_some] <;> rfl) | (simp [*, errW_none, errW_some] <;> rfl), bl_⟩
          · replace c31 := Bool.eq_false_iff.mpr c31
            subst c31
            have H1 : (some false) = some true := by rw [if_neg (show ¬ (false = true) by decide)] at H; exact H
            clear H
            have H := H1
            clear H1
            exact absurd H (by simp)
        · replace c28 := Bool.eq_false_iff.mpr c28
          subst c28
          have H1 : (some false) = some true := by rw [if_neg (show ¬ (false = true) by decide)] at H; exact H
          clear H
          have H := H1
          clear H1
          exact absurd H (by simp)

def ok33 (x : S33) : Prop := (x.f0.length ≤ maxLen ∧ ∀ y0 ∈ x.f0, (Lit.int .u8 y0).wf = true) ∧ ((Lit.int .i64 x.f1).wf = true) ∧ (x.f2.length ≤ maxLen ∧ ∀ y0 ∈ x.f2, (Lit.int .i64 y0).wf = true) ∧ ((Lit.int .i64 x.f3).wf = true) ∧ ((Lit.int .i64 x.f4).wf = true) ∧ ((Lit.int .i64 x.f5).wf = true) ∧ ((Lit.int .i64 x.f6).wf = true) ∧ ((Lit.int .i64 x.f7).wf = true) ∧ (x.f8.length ≤ maxLen ∧ ∀ y0 ∈ x.f8, (Lit.int .u8 y0).wf = true)
/-- THE ONE PURE STATEMENT of laws_FnExactBefore. -/
def laws_FnExactBefore.Pure : Prop := ∀ (s0 : S33) (s1 : S33), (ok33 s0) → (ok33 s1) → ∃ k, laws_FnExactBefore.f k s0.f0 s0.f1 s0.f2 s0.f3 s0.f4 s0.f5 s0.f6 s0.f7 s0.f8 s1.f0 s1.f1 s1.f2 s1.f3 s1.f4 s1.f5 s1.f6 s1.f7 s1.f8 = some true

end Go.Proofs.Ytninpllnlhlclaa.QFnExactBefore
