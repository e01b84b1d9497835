-- by my own printer (myprint.py, over the kit's print.py)
import Derived.Test.YtninpllnlhlclaaQFnExactTaskSamex0
import Derived.Test.YtninpllnlhlclaaQFnExactTaskSamex1
import Derived.Test.YtninpllnlhlclaaQFnExactTaskSamex2
import Derived.Test.YtninpllnlhlclaaQFnExactTaskSamex3
namespace Go.Proofs.Ytninpllnlhlclaa.QFnExactTaskSame
open Go.RowKit Go.Proofs.YtninpllnlhlclaaW.PrintWords Go.Proofs.YtninpllnlhlclaaW.PrintLast Go.Proofs.YtninpllnlhlclaaW.PrintMore
attribute [local go_sem] max2_int min2_int max_two min_two max_three min_three max_four min_four   -- for this text's walks alone
set_option linter.unusedVariables false
set_option linter.unusedSimpArgs false

attribute [local go_sem] my_geq my_leq my_gtr
/-! ### laws_FnExactTaskSame: function 9 -/
def laws_FnExactTaskSame.f (k : Nat) (l0_0 : List Int) (a0_1 : Int) (l0_2 : List Int) (a0_3 : Int) (a0_4 : Int) (a0_5 : Int) (a0_6 : Int) (a0_7 : Int) (l0_8 : List Int) (l1_0 : List Int) (a1_1 : Int) (l1_2 : List Int) (a1_3 : Int) (a1_4 : Int) (a1_5 : Int) (a1_6 : Int) (a1_7 : Int) (l1_8 : List Int) : Option (Bool) := (laws_szTask.f l0_0 a0_1 l0_2 a0_3 a0_4 a0_5 a0_6 a0_7 l0_8 1048576).bind fun t152 => (if t152 < 0 then (some true) else ((laws_szTask.f l1_0 a1_1 l1_2 a1_3 a1_4 a1_5 a1_6 a1_7 l1_8 t152).bind fun t153 => (if t153 < 0 then (some true) else ((laws_toTask.f k l0_0 a0_1 l0_2 a0_3 a0_4 a0_5 a0_6 a0_7 l0_8).bind fun bt154 => ((laws_toTask.f k l1_0 a1_1 l1_2 a1_3 a1_4 a1_5 a1_6 a1_7 l1_8).bind fun bt169 => ((spec_TaskSame.f k bt154.1 bt154.2.1 bt154.2.2.1 bt154.2.2.2.1 bt154.2.2.2.2.1 bt154.2.2.2.2.2.1 bt154.2.2.2.2.2.2.1 bt154.2.2.2.2.2.2.2.1 bt154.2.2.2.2.2.2.2.2 bt169.1 bt169.2.1 bt169.2.2.1 bt169.2.2.2.1 bt169.2.2.2.2.1 bt169.2.2.2.2.2.1 bt169.2.2.2.2.2.2.1 bt169.2.2.2.2.2.2.2.1 bt169.2.2.2.2.2.2.2.2).bind fun t184 => ((laws_toTask.f k l0_0 a0_1 l0_2 a0_3 a0_4 a0_5 a0_6 a0_7 l0_8).bind fun bt185 => ((laws_toTask.f k l1_0 a1_1 l1_2 a1_3 a1_4 a1_5 a1_6 a1_7 l1_8).bind fun bt201 => ((impl_TaskSame.f k bt185.1 bt185.2.1 bt185.2.2.1 bt185.2.2.2.1 bt185.2.2.2.2.1 bt185.2.2.2.2.2.1 bt185.2.2.2.2.2.2.1 bt185.2.2.2.2.2.2.2.1 bt185.2.2.2.2.2.2.2.2 bt201.1 bt201.2.1 bt201.2.2.1 bt201.2.2.2.1 bt201.2.2.2.2.1 bt201.2.2.2.2.2.1 bt201.2.2.2.2.2.2.1 bt201.2.2.2.2.2.2.2.1 bt201.2.2.2.2.2.2.2.2).bind fun t217 => (if (t217 != t184) = true then (some false) else ((laws_toTask.f k l0_0 a0_1 l0_2 a0_3 a0_4 a0_5 a0_6 a0_7 l0_8).bind fun bt218 => ((laws_eqTask.f k bt185.1 bt185.2.1 bt185.2.2.1 bt185.2.2.2.1 bt185.2.2.2.2.1 bt185.2.2.2.2.2.1 bt185.2.2.2.2.2.2.1 bt185.2.2.2.2.2.2.2.1 bt185.2.2.2.2.2.2.2.2 bt218.1 bt218.2.1 bt218.2.2.1 bt218.2.2.2.1 bt218.2.2.2.2.1 bt218.2.2.2.2.2.1 bt218.2.2.2.2.2.2.1 bt218.2.2.2.2.2.2.2.1 bt218.2.2.2.2.2.2.2.2).bind fun t233 => (if t233 = true then ((laws_toTask.f k l1_0 a1_1 l1_2 a1_3 a1_4 a1_5 a1_6 a1_7 l1_8).bind fun bt234 => ((laws_eqTask.f k bt201.1 bt201.2.1 bt201.2.2.1 bt201.2.2.2.1 bt201.2.2.2.2.1 bt201.2.2.2.2.2.1 bt201.2.2.2.2.2.2.1 bt201.2.2.2.2.2.2.2.1 bt201.2.2.2.2.2.2.2.2 bt234.1 bt234.2.1 bt234.2.2.1 bt234.2.2.2.1 bt234.2.2.2.2.1 bt234.2.2.2.2.2.1 bt234.2.2.2.2.2.2.1 bt234.2.2.2.2.2.2.2.1 bt234.2.2.2.2.2.2.2.2).bind fun t249 => (if t249 = true then (some true) else (some false)))) else (some false))))))))))))))
theorem laws_FnExactTaskSame.mono : ∀ a0 a1 a2 a3 a4 a5 a6 a7 a8 a9 a10 a11 a12 a13 a14 a15 a16 a17 k, LeO (laws_FnExactTaskSame.f k a0 a1 a2 a3 a4 a5 a6 a7 a8 a9 a10 a11 a12 a13 a14 a15 a16 a17) (laws_FnExactTaskSame.f (k + 1) a0 a1 a2 a3 a4 a5 a6 a7 a8 a9 a10 a11 a12 a13 a14 a15 a16 a17) := by
  intro a0 a1 a2 a3 a4 a5 a6 a7 a8 a9 a10 a11 a12 a13 a14 a15 a16 a17 k
  unfold laws_FnExactTaskSame.f
  repeat' first
      | (with_reducible exact impl_TaskSame.mono _ _ _ _ _ _ _ _ _ _ _ _ _ _ _ _ _ _ _)
      | (with_reducible exact laws_eqTask.mono _ _ _ _ _ _ _ _ _ _ _ _ _ _ _ _ _ _ _)
      | (with_reducible exact laws_toTask.mono _ _ _ _ _ _ _ _ _ _)
      | (with_reducible exact spec_TaskSame.mono _ _ _ _ _ _ _ _ _ _ _ _ _ _ _ _ _ _ _)
      | (with_reducible exact LeO.refl _)
      | (with_reducible exact LeO.none _)
      | (with_reducible refine LeO.ite ?_ ?_)
      | (with_reducible refine LeO.bind ?_ (fun _ => ?_))
      | exact impl_TaskSame.mono _ _ _ _ _ _ _ _ _ _ _ _ _ _ _ _ _ _ _
      | exact laws_eqTask.mono _ _ _ _ _ _ _ _ _ _ _ _ _ _ _ _ _ _ _
      | exact laws_toTask.mono _ _ _ _ _ _ _ _ _ _
      | exact spec_TaskSame.mono _ _ _ _ _ _ _ _ _ _ _ _ _ _ _ _ _ _ _
      | exact LeO.none _
      | refine LeO.ite ?_ ?_
      | refine LeO.bind ?_ (fun _ => ?_)
set_option maxHeartbeats 8000000 in
set_option maxRecDepth 100000 in
theorem laws_FnExactTaskSame.calls (k : Nat) (A0_0 : Option Addr) (c0_0 : Nat) (l0_0 : List Int) (a0_1 : Int) (A0_2 : Option Addr) (c0_2 : Nat) (l0_2 : List Int) (a0_3 : Int) (a0_4 : Int) (a0_5 : Int) (a0_6 : Int) (a0_7 : Int) (A0_8 : Option Addr) (c0_8 : Nat) (l0_8 : List Int) (A1_0 : Option Addr) (c1_0 : Nat) (l1_0 : List Int) (a1_1 : Int) (A1_2 : Option Addr) (c1_2 : Nat) (l1_2 : List Int) (a1_3 : Int) (a1_4 : Int) (a1_5 : Int) (a1_6 : Int) (a1_7 : Int) (A1_8 : Option Addr) (c1_8 : Nat) (l1_8 : List Int) (r : Bool) (w : World) (hr0_0 : Kd.C (Kd.int .u8) w A0_0 l0_0.length l0_0) (hc0_0 : l0_0.length ≤ c0_0) (hr0_2 : Kd.C (Kd.int .i64) w A0_2 l0_2.length l0_2) (hc0_2 : l0_2.length ≤ c0_2) (hr0_8 : Kd.C (Kd.int .u8) w A0_8 l0_8.length l0_8) (hc0_8 : l0_8.length ≤ c0_8) (hr1_0 : Kd.C (Kd.int .u8) w A1_0 l1_0.length l1_0) (hc1_0 : l1_0.length ≤ c1_0) (hr1_2 : Kd.C (Kd.int .i64) w A1_2 l1_2.length l1_2) (hc1_2 : l1_2.length ≤ c1_2) (hr1_8 : Kd.C (Kd.int .u8) w A1_8 l1_8.length l1_8) (hc1_8 : l1_8.length ≤ c1_8) (h : laws_FnExactTaskSame.f k l0_0 a0_1 l0_2 a0_3 a0_4 a0_5 a0_6 a0_7 l0_8 l1_0 a1_1 l1_2 a1_3 a1_4 a1_5 a1_6 a1_7 l1_8 = some true) :
    Calls Try.prog 9 #[.agg #[.slice A0_0 l0_0.length c0_0, .int .i64 a0_1, .slice A0_2 l0_2.length c0_2, .int .i64 a0_3, .int .i64 a0_4, .int .i64 a0_5, .int .i64 a0_6, .int .i64 a0_7, .slice A0_8 l0_8.length c0_8], .agg #[.slice A1_0 l1_0.length c1_0, .int .i64 a1_1, .slice A1_2 l1_2.length c1_2, .int .i64 a1_3, .int .i64 a1_4, .int .i64 a1_5, .int .i64 a1_6, .int .i64 a1_7, .slice A1_8 l1_8.length c1_8]] w fun e w' => e = .returned (.bool true) ∧ Below w.heap.size w w' := by
  have hu33 := Try.underlying33
  have hu36 := Try.underlying36
  have HR0_0 := Aside0.mk hr0_0
  have HC0_0 := Aside0.mk hc0_0
  clear hr0_0 hc0_0
  have HR0_2 := Aside0.mk hr0_2
  have HC0_2 := Aside0.mk hc0_2
  clear hr0_2 hc0_2
  have HR0_8 := Aside0.mk hr0_8
  have HC0_8 := Aside0.mk hc0_8
  clear hr0_8 hc0_8
  have HR1_0 := Aside0.mk hr1_0
  have HC1_0 := Aside0.mk hc1_0
  clear hr1_0 hc1_0
  have HR1_2 := Aside0.mk hr1_2
  have HC1_2 := Aside0.mk hc1_2
  clear hr1_2 hc1_2
  have HR1_8 := Aside0.mk hr1_8
  have HC1_8 := Aside0.mk hc1_8
  clear hr1_8 hc1_8
  have HB := Aside0.mk (Below.refl w.heap.size w)
  have H : ((laws_szTask.f l0_0 a0_1 l0_2 a0_3 a0_4 a0_5 a0_6 a0_7 l0_8 1048576).bind fun t152 => (if t152 < 0 then (some true) else ((laws_szTask.f l1_0 a1_1 l1_2 a1_3 a1_4 a1_5 a1_6 a1_7 l1_8 t152).bind fun t153 => (if t153 < 0 then (some true) else ((laws_toTask.f k l0_0 a0_1 l0_2 a0_3 a0_4 a0_5 a0_6 a0_7 l0_8).bind fun bt154 => ((laws_toTask.f k l1_0 a1_1 l1_2 a1_3 a1_4 a1_5 a1_6 a1_7 l1_8).bind fun bt169 => ((spec_TaskSame.f k bt154.1 bt154.2.1 bt154.2.2.1 bt154.2.2.2.1 bt154.2.2.2.2.1 bt154.2.2.2.2.2.1 bt154.2.2.2.2.2.2.1 bt154.2.2.2.2.2.2.2.1 bt154.2.2.2.2.2.2.2.2 bt169.1 bt169.2.1 bt169.2.2.1 bt169.2.2.2.1 bt169.2.2.2.2.1 bt169.2.2.2.2.2.1 bt169.2.2.2.2.2.2.1 bt169.2.2.2.2.2.2.2.1 bt169.2.2.2.2.2.2.2.2).bind fun t184 => ((laws_toTask.f k l0_0 a0_1 l0_2 a0_3 a0_4 a0_5 a0_6 a0_7 l0_8).bind fun bt185 => ((laws_toTask.f k l1_0 a1_1 l1_2 a1_3 a1_4 a1_5 a1_6 a1_7 l1_8).bind fun bt201 => ((impl_TaskSame.f k bt185.1 bt185.2.1 bt185.2.2.1 bt185.2.2.2.1 bt185.2.2.2.2.1 bt185.2.2.2.2.2.1 bt185.2.2.2.2.2.2.1 bt185.2.2.2.2.2.2.2.1 bt185.2.2.2.2.2.2.2.2 bt201.1 bt201.2.1 bt201.2.2.1 bt201.2.2.2.1 bt201.2.2.2.2.1 bt201.2.2.2.2.2.1 bt201.2.2.2.2.2.2.1 bt201.2.2.2.2.2.2.2.1 bt201.2.2.2.2.2.2.2.2).bind fun t217 => (if (t217 != t184) = true then (some false) else ((laws_toTask.f k l0_0 a0_1 l0_2 a0_3 a0_4 a0_5 a0_6 a0_7 l0_8).bind fun bt218 => ((laws_eqTask.f k bt185.1 bt185.2.1 bt185.2.2.1 bt185.2.2.2.1 bt185.2.2.2.2.1 bt185.2.2.2.2.2.1 bt185.2.2.2.2.2.2.1 bt185.2.2.2.2.2.2.2.1 bt185.2.2.2.2.2.2.2.2 bt218.1 bt218.2.1 bt218.2.2.1 bt218.2.2.2.1 bt218.2.2.2.2.1 bt218.2.2.2.2.2.1 bt218.2.2.2.2.2.2.1 bt218.2.2.2.2.2.2.2.1 bt218.2.2.2.2.2.2.2.2).bind fun t233 => (if t233 = true then ((laws_toTask.f k l1_0 a1_1 l1_2 a1_3 a1_4 a1_5 a1_6 a1_7 l1_8).bind fun bt234 => ((laws_eqTask.f k bt201.1 bt201.2.1 bt201.2.2.1 bt201.2.2.2.1 bt201.2.2.2.2.1 bt201.2.2.2.2.2.1 bt201.2.2.2.2.2.2.1 bt201.2.2.2.2.2.2.2.1 bt201.2.2.2.2.2.2.2.2 bt234.1 bt234.2.1 bt234.2.2.1 bt234.2.2.2.1 bt234.2.2.2.2.1 bt234.2.2.2.2.2.1 bt234.2.2.2.2.2.2.1 bt234.2.2.2.2.2.2.2.1 bt234.2.2.2.2.2.2.2.2).bind fun t249 => (if t249 = true then (some true) else (some false)))) else (some false))))))))))))))) = some true := h
  clear h
  replace H := Option.bind_eq_some_iff.mp H
  obtain ⟨t152, A30, H⟩ := H
  replace H : (if t152 < 0 then (some true) else ((laws_szTask.f l1_0 a1_1 l1_2 a1_3 a1_4 a1_5 a1_6 a1_7 l1_8 t152).bind fun t153 => (if t153 < 0 then (some true) else ((laws_toTask.f k l0_0 a0_1 l0_2 a0_3 a0_4 a0_5 a0_6 a0_7 l0_8).bind fun bt154 => ((laws_toTask.f k l1_0 a1_1 l1_2 a1_3 a1_4 a1_5 a1_6 a1_7 l1_8).bind fun bt169 => ((spec_TaskSame.f k bt154.1 bt154.2.1 bt154.2.2.1 bt154.2.2.2.1 bt154.2.2.2.2.1 bt154.2.2.2.2.2.1 bt154.2.2.2.2.2.2.1 bt154.2.2.2.2.2.2.2.1 bt154.2.2.2.2.2.2.2.2 bt169.1 bt169.2.1 bt169.2.2.1 bt169.2.2.2.1 bt169.2.2.2.2.1 bt169.2.2.2.2.2.1 bt169.2.2.2.2.2.2.1 bt169.2.2.2.2.2.2.2.1 bt169.2.2.2.2.2.2.2.2).bind fun t184 => ((laws_toTask.f k l0_0 a0_1 l0_2 a0_3 a0_4 a0_5 a0_6 a0_7 l0_8).bind fun bt185 => ((laws_toTask.f k l1_0 a1_1 l1_2 a1_3 a1_4 a1_5 a1_6 a1_7 l1_8).bind fun bt201 => ((impl_TaskSame.f k bt185.1 bt185.2.1 bt185.2.2.1 bt185.2.2.2.1 bt185.2.2.2.2.1 bt185.2.2.2.2.2.1 bt185.2.2.2.2.2.2.1 bt185.2.2.2.2.2.2.2.1 bt185.2.2.2.2.2.2.2.2 bt201.1 bt201.2.1 bt201.2.2.1 bt201.2.2.2.1 bt201.2.2.2.2.1 bt201.2.2.2.2.2.1 bt201.2.2.2.2.2.2.1 bt201.2.2.2.2.2.2.2.1 bt201.2.2.2.2.2.2.2.2).bind fun t217 => (if (t217 != t184) = true then (some false) else ((laws_toTask.f k l0_0 a0_1 l0_2 a0_3 a0_4 a0_5 a0_6 a0_7 l0_8).bind fun bt218 => ((laws_eqTask.f k bt185.1 bt185.2.1 bt185.2.2.1 bt185.2.2.2.1 bt185.2.2.2.2.1 bt185.2.2.2.2.2.1 bt185.2.2.2.2.2.2.1 bt185.2.2.2.2.2.2.2.1 bt185.2.2.2.2.2.2.2.2 bt218.1 bt218.2.1 bt218.2.2.1 bt218.2.2.2.1 bt218.2.2.2.2.1 bt218.2.2.2.2.2.1 bt218.2.2.2.2.2.2.1 bt218.2.2.2.2.2.2.2.1 bt218.2.2.2.2.2.2.2.2).bind fun t233 => (if t233 = true then ((laws_toTask.f k l1_0 a1_1 l1_2 a1_3 a1_4 a1_5 a1_6 a1_7 l1_8).bind fun bt234 => ((laws_eqTask.f k bt201.1 bt201.2.1 bt201.2.2.1 bt201.2.2.2.1 bt201.2.2.2.2.1 bt201.2.2.2.2.2.1 bt201.2.2.2.2.2.2.1 bt201.2.2.2.2.2.2.2.1 bt201.2.2.2.2.2.2.2.2 bt234.1 bt234.2.1 bt234.2.2.1 bt234.2.2.2.1 bt234.2.2.2.2.1 bt234.2.2.2.2.2.1 bt234.2.2.2.2.2.2.1 bt234.2.2.2.2.2.2.2.1 bt234.2.2.2.2.2.2.2.2).bind fun t249 => (if t249 = true then (some true) else (some false)))) else (some false)))))))))))))) = some true := H
  have A3 := Aside0.mk A30
  clear A30
  by_cases c4 : t152 < 0
  · rw [if_pos c4] at H
    have c4b0 : decide (t152 < 0) = true := decide_eq_true c4
    clear c4
    clear H
    go_enter Try.func9, Try.ntmps9
    go_wp2_with (first | ((with_reducible refine gate_dst (N := 2) rfl ?_); refine box_event ?hg (N := 2) ?hd (cs := #[.slice A0_0 l0_0.length c0_0, .int .i64 a0_1, .slice A0_2 l0_2.length c0_2, .int .i64 a0_3, .int .i64 a0_4, .int .i64 a0_5, .int .i64 a0_6, .int .i64 a0_7, .slice A0_8 l0_8.length c0_8]) (t := 33) ?hr ?_; (case hd => rfl); (case hg => rfl); (case hr => first | (go_simp; done) | (go_simp; rfl)); intro gb150 hg w5 hbox hb; have n0_ := Aside0.mk (below_step bl_ hb); have n1_ := Aside0.mk (hbox); have n2_ := Aside0.mk ((by rw [hg]; exact (below_size bl_) : w.heap.size ≤ gb150)); have n3_ := Aside0.mk ((by rw [hg]; exact (below_size bl_) : w.heap.size ≤ gb150)); clear HB; have HB := n0_; have BK150 := n1_; have GW150 := n2_; have GE150 := n3_; clear n0_ n1_ n2_ n3_; clear hb hbox hg) | ((with_reducible refine gate_dst (N := 3) rfl ?_); refine box_event ?hg (N := 3) ?hd (cs := #[.slice A1_0 l1_0.length c1_0, .int .i64 a1_1, .slice A1_2 l1_2.length c1_2, .int .i64 a1_3, .int .i64 a1_4, .int .i64 a1_5, .int .i64 a1_6, .int .i64 a1_7, .slice A1_8 l1_8.length c1_8]) (t := 33) ?hr ?_; (case hd => rfl); (case hg => rfl); (case hr => first | (go_simp; done) | (go_simp; rfl)); intro gb151 hg w6 hbox hb; have n0_ := Aside0.mk (blk_below (bk_ BK150) hb); have n1_ := Aside0.mk (below_step bl_ hb); have n2_ := Aside0.mk (hbox); have n3_ := Aside0.mk ((by rw [hg]; exact (below_size bl_) : w.heap.size ≤ gb151)); have n4_ := Aside0.mk ((by rw [hg]; exact (below_size bl_) : w.heap.size ≤ gb151)); have n5_ := Aside0.mk ((by rw [hg]; exact Nat.ne_of_lt (blk_lt (bk_ BK150)) : gb150 ≠ gb151)); have n6_ := Aside0.mk ((by rw [hg]; exact Nat.ne_of_gt (blk_lt (bk_ BK150)) : gb151 ≠ gb150)); clear BK150; clear HB; have BK150 := n0_; have HB := n1_; have BK151 := n2_; have GW151 := n3_; have GE151 := n4_; have NB150_151 := n5_; have NB151_150 := n6_; clear n0_ n1_ n2_ n3_ n4_ n5_ n6_; clear hb hbox hg; have hnb7 := NB150_151.out; have hnc7 := NB151_150.out; have hcz8_0 := cz_ BK150 0 (.slice A0_0 l0_0.length c0_0); have hcz8_1 := cz_ BK150 1 (.int .i64 a0_1); have hcz8_2 := cz_ BK150 2 (.slice A0_2 l0_2.length c0_2); have hcz8_3 := cz_ BK150 3 (.int .i64 a0_3); have hcz8_4 := cz_ BK150 4 (.int .i64 a0_4); have hcz8_5 := cz_ BK150 5 (.int .i64 a0_5); have hcz8_6 := cz_ BK150 6 (.int .i64 a0_6); have hcz8_7 := cz_ BK150 7 (.int .i64 a0_7); have hcz8_8 := cz_ BK150 8 (.slice A0_8 l0_8.length c0_8); have hfz8_0 := fz_ BK150 0; have hfz8_1 := fz_ BK150 1; have hfz8_2 := fz_ BK150 2; have hfz8_3 := fz_ BK150 3; have hfz8_4 := fz_ BK150 4; have hfz8_5 := fz_ BK150 5; have hfz8_6 := fz_ BK150 6; have hfz8_7 := fz_ BK150 7; have hfz8_8 := fz_ BK150 8) | ((with_reducible refine gate_callee (f := 22) rfl ?_); refine goesL_ (some 12) rfl rfl Try.func22 (by kernel_rfl) rfl #[.agg #[.slice A0_0 l0_0.length c0_0, .int .i64 a0_1, .slice A0_2 l0_2.length c0_2, .int .i64 a0_3, .int .i64 a0_4, .int .i64 a0_5, .int .i64 a0_6, .int .i64 a0_7, .slice A0_8 l0_8.length c0_8], .int .i64 1048576] rfl gl_ ?_; (with_reducible refine (laws_szTask.calls _ _ l0_0 a0_1 _ _ l0_2 a0_3 a0_4 a0_5 a0_6 a0_7 _ _ l0_8 1048576 t152 _ ?side1 ?side2 ?side3 ?side4 ?side5 ?side6 A3.out).mono ?_); (case side1 => exact ca_ (Kd.C_below HR0_0.out HB.out)); (case side2 => exact HC0_0.out); (case side3 => exact ca_ (Kd.C_below HR0_2.out HB.out)); (case side4 => exact HC0_2.out); (case side5 => exact ca_ (Kd.C_below HR0_8.out HB.out)); (case side6 => exact HC0_8.out); rintro e w9 ⟨rfl, hb⟩; refine ⟨_, rfl, ?_⟩; have n0_ := Aside0.mk (blk_below (bk_ BK150) hb); have n1_ := Aside0.mk (blk_below (bk_ BK151) hb); have n2_ := Aside0.mk (below_step bl_ hb); clear BK150; clear BK151; clear HB; have BK150 := n0_; have BK151 := n1_; have HB := n2_; clear n0_ n1_ n2_; (try clear hb); (try clear hb2); (try clear hk); (try clear hi)))
    go_ret
    exact ⟨by first | rfl | (simp [errW_none, errW_some] <;> rfl) | (simp [*, errW_none, errW_some] <;> rfl), bl_⟩
  · rw [if_neg c4] at H
    have c4b0 : decide (t152 < 0) = false := decide_eq_false c4
    clear c4
    replace H := Option.bind_eq_some_iff.mp H
    obtain ⟨t153, A100, H⟩ := H
    replace H : (if t153 < 0 then (some true) else ((laws_toTask.f k l0_0 a0_1 l0_2 a0_3 a0_4 a0_5 a0_6 a0_7 l0_8).bind fun bt154 => ((laws_toTask.f k l1_0 a1_1 l1_2 a1_3 a1_4 a1_5 a1_6 a1_7 l1_8).bind fun bt169 => ((spec_TaskSame.f k bt154.1 bt154.2.1 bt154.2.2.1 bt154.2.2.2.1 bt154.2.2.2.2.1 bt154.2.2.2.2.2.1 bt154.2.2.2.2.2.2.1 bt154.2.2.2.2.2.2.2.1 bt154.2.2.2.2.2.2.2.2 bt169.1 bt169.2.1 bt169.2.2.1 bt169.2.2.2.1 bt169.2.2.2.2.1 bt169.2.2.2.2.2.1 bt169.2.2.2.2.2.2.1 bt169.2.2.2.2.2.2.2.1 bt169.2.2.2.2.2.2.2.2).bind fun t184 => ((laws_toTask.f k l0_0 a0_1 l0_2 a0_3 a0_4 a0_5 a0_6 a0_7 l0_8).bind fun bt185 => ((laws_toTask.f k l1_0 a1_1 l1_2 a1_3 a1_4 a1_5 a1_6 a1_7 l1_8).bind fun bt201 => ((impl_TaskSame.f k bt185.1 bt185.2.1 bt185.2.2.1 bt185.2.2.2.1 bt185.2.2.2.2.1 bt185.2.2.2.2.2.1 bt185.2.2.2.2.2.2.1 bt185.2.2.2.2.2.2.2.1 bt185.2.2.2.2.2.2.2.2 bt201.1 bt201.2.1 bt201.2.2.1 bt201.2.2.2.1 bt201.2.2.2.2.1 bt201.2.2.2.2.2.1 bt201.2.2.2.2.2.2.1 bt201.2.2.2.2.2.2.2.1 bt201.2.2.2.2.2.2.2.2).bind fun t217 => (if (t217 != t184) = true then (some false) else ((laws_toTask.f k l0_0 a0_1 l0_2 a0_3 a0_4 a0_5 a0_6 a0_7 l0_8).bind fun bt218 => ((laws_eqTask.f k bt185.1 bt185.2.1 bt185.2.2.1 bt185.2.2.2.1 bt185.2.2.2.2.1 bt185.2.2.2.2.2.1 bt185.2.2.2.2.2.2.1 bt185.2.2.2.2.2.2.2.1 bt185.2.2.2.2.2.2.2.2 bt218.1 bt218.2.1 bt218.2.2.1 bt218.2.2.2.1 bt218.2.2.2.2.1 bt218.2.2.2.2.2.1 bt218.2.2.2.2.2.2.1 bt218.2.2.2.2.2.2.2.1 bt218.2.2.2.2.2.2.2.2).bind fun t233 => (if t233 = true then ((laws_toTask.f k l1_0 a1_1 l1_2 a1_3 a1_4 a1_5 a1_6 a1_7 l1_8).bind fun bt234 => ((laws_eqTask.f k bt201.1 bt201.2.1 bt201.2.2.1 bt201.2.2.2.1 bt201.2.2.2.2.1 bt201.2.2.2.2.2.1 bt201.2.2.2.2.2.2.1 bt201.2.2.2.2.2.2.2.1 bt201.2.2.2.2.2.2.2.2 bt234.1 bt234.2.1 bt234.2.2.1 bt234.2.2.2.1 bt234.2.2.2.2.1 bt234.2.2.2.2.2.1 bt234.2.2.2.2.2.2.1 bt234.2.2.2.2.2.2.2.1 bt234.2.2.2.2.2.2.2.2).bind fun t249 => (if t249 = true then (some true) else (some false)))) else (some false)))))))))))) = some true := H
    have A10 := Aside0.mk A100
    clear A100
    by_cases c11 : t153 < 0
    · rw [if_pos c11] at H
      have c11b0 : decide (t153 < 0) = true := decide_eq_true c11
      clear c11
      clear H
      go_enter Try.func9, Try.ntmps9
      go_wp2_with (first | ((with_reducible refine gate_dst (N := 2) rfl ?_); refine box_event ?hg (N := 2) ?hd (cs := #[.slice A0_0 l0_0.length c0_0, .int .i64 a0_1, .slice A0_2 l0_2.length c0_2, .int .i64 a0_3, .int .i64 a0_4, .int .i64 a0_5, .int .i64 a0_6, .int .i64 a0_7, .slice A0_8 l0_8.length c0_8]) (t := 33) ?hr ?_; (case hd => rfl); (case hg => rfl); (case hr => first | (go_simp; done) | (go_simp; rfl)); intro gb150 hg w12 hbox hb; have n0_ := Aside0.mk (below_step bl_ hb); have n1_ := Aside0.mk (hbox); have n2_ := Aside0.mk ((by rw [hg]; exact (below_size bl_) : w.heap.size ≤ gb150)); have n3_ := Aside0.mk ((by rw [hg]; exact (below_size bl_) : w.heap.size ≤ gb150)); clear HB; have HB := n0_; have BK150 := n1_; have GW150 := n2_; have GE150 := n3_; clear n0_ n1_ n2_ n3_; clear hb hbox hg) | ((with_reducible refine gate_dst (N := 3) rfl ?_); refine box_event ?hg (N := 3) ?hd (cs := #[.slice A1_0 l1_0.length c1_0, .int .i64 a1_1, .slice A1_2 l1_2.length c1_2, .int .i64 a1_3, .int .i64 a1_4, .int .i64 a1_5, .int .i64 a1_6, .int .i64 a1_7, .slice A1_8 l1_8.length c1_8]) (t := 33) ?hr ?_; (case hd => rfl); (case hg => rfl); (case hr => first | (go_simp; done) | (go_simp; rfl)); intro gb151 hg w13 hbox hb; have n0_ := Aside0.mk (blk_below (bk_ BK150) hb); have n1_ := Aside0.mk (below_step bl_ hb); have n2_ := Aside0.mk (hbox); have n3_ := Aside0.mk ((by rw [hg]; exact (below_size bl_) : w.heap.size ≤ gb151)); have n4_ := Aside0.mk ((by rw [hg]; exact (below_size bl_) : w.heap.size ≤ gb151)); have n5_ := Aside0.mk ((by rw [hg]; exact Nat.ne_of_lt (blk_lt (bk_ BK150)) : gb150 ≠ gb151)); have n6_ := Aside0.mk ((by rw [hg]; exact Nat.ne_of_gt (blk_lt (bk_ BK150)) : gb151 ≠ gb150)); clear BK150; clear HB; have BK150 := n0_; have HB := n1_; have BK151 := n2_; have GW151 := n3_; have GE151 := n4_; have NB150_151 := n5_; have NB151_150 := n6_; clear n0_ n1_ n2_ n3_ n4_ n5_ n6_; clear hb hbox hg; have hnb14 := NB150_151.out; have hnc14 := NB151_150.out; have hcz15_0 := cz_ BK150 0 (.slice A0_0 l0_0.length c0_0); have hcz15_1 := cz_ BK150 1 (.int .i64 a0_1); have hcz15_2 := cz_ BK150 2 (.slice A0_2 l0_2.length c0_2); have hcz15_3 := cz_ BK150 3 (.int .i64 a0_3); have hcz15_4 := cz_ BK150 4 (.int .i64 a0_4); have hcz15_5 := cz_ BK150 5 (.int .i64 a0_5); have hcz15_6 := cz_ BK150 6 (.int .i64 a0_6); have hcz15_7 := cz_ BK150 7 (.int .i64 a0_7); have hcz15_8 := cz_ BK150 8 (.slice A0_8 l0_8.length c0_8); have hfz15_0 := fz_ BK150 0; have hfz15_1 := fz_ BK150 1; have hfz15_2 := fz_ BK150 2; have hfz15_3 := fz_ BK150 3; have hfz15_4 := fz_ BK150 4; have hfz15_5 := fz_ BK150 5; have hfz15_6 := fz_ BK150 6; have hfz15_7 := fz_ BK150 7; have hfz15_8 := fz_ BK150 8) | ((with_reducible refine gate_callee (f := 22) rfl ?_); refine goesL_ (some 12) rfl rfl Try.func22 (by kernel_rfl) rfl #[.agg #[.slice A0_0 l0_0.length c0_0, .int .i64 a0_1, .slice A0_2 l0_2.length c0_2, .int .i64 a0_3, .int .i64 a0_4, .int .i64 a0_5, .int .i64 a0_6, .int .i64 a0_7, .slice A0_8 l0_8.length c0_8], .int .i64 1048576] rfl gl_ ?_; (with_reducible refine (laws_szTask.calls _ _ l0_0 a0_1 _ _ l0_2 a0_3 a0_4 a0_5 a0_6 a0_7 _ _ l0_8 1048576 t152 _ ?side1 ?side2 ?side3 ?side4 ?side5 ?side6 A3.out).mono ?_); (case side1 => exact ca_ (Kd.C_below HR0_0.out HB.out)); (case side2 => exact HC0_0.out); (case side3 => exact ca_ (Kd.C_below HR0_2.out HB.out)); (case side4 => exact HC0_2.out); (case side5 => exact ca_ (Kd.C_below HR0_8.out HB.out)); (case side6 => exact HC0_8.out); rintro e w16 ⟨rfl, hb⟩; refine ⟨_, rfl, ?_⟩; have n0_ := Aside0.mk (blk_below (bk_ BK150) hb); have n1_ := Aside0.mk (blk_below (bk_ BK151) hb); have n2_ := Aside0.mk (below_step bl_ hb); clear BK150; clear BK151; clear HB; have BK150 := n0_; have BK151 := n1_; have HB := n2_; clear n0_ n1_ n2_; (try clear hb); (try clear hb2); (try clear hk); (try clear hi); have hcz17_0 := cz_ BK151 0 (.slice A1_0 l1_0.length c1_0); have hcz17_1 := cz_ BK151 1 (.int .i64 a1_1); have hcz17_2 := cz_ BK151 2 (.slice A1_2 l1_2.length c1_2); have hcz17_3 := cz_ BK151 3 (.int .i64 a1_3); have hcz17_4 := cz_ BK151 4 (.int .i64 a1_4); have hcz17_5 := cz_ BK151 5 (.int .i64 a1_5); have hcz17_6 := cz_ BK151 6 (.int .i64 a1_6); have hcz17_7 := cz_ BK151 7 (.int .i64 a1_7); have hcz17_8 := cz_ BK151 8 (.slice A1_8 l1_8.length c1_8); have hfz17_0 := fz_ BK151 0; have hfz17_1 := fz_ BK151 1; have hfz17_2 := fz_ BK151 2; have hfz17_3 := fz_ BK151 3; have hfz17_4 := fz_ BK151 4; have hfz17_5 := fz_ BK151 5; have hfz17_6 := fz_ BK151 6; have hfz17_7 := fz_ BK151 7; have hfz17_8 := fz_ BK151 8) | ((with_reducible refine gate_callee (f := 22) rfl ?_); refine goesL_ (some 17) rfl rfl Try.func22 (by kernel_rfl) rfl #[.agg #[.slice A1_0 l1_0.length c1_0, .int .i64 a1_1, .slice A1_2 l1_2.length c1_2, .int .i64 a1_3, .int .i64 a1_4, .int .i64 a1_5, .int .i64 a1_6, .int .i64 a1_7, .slice A1_8 l1_8.length c1_8], .int .i64 t152] rfl gl_ ?_; (with_reducible refine (laws_szTask.calls _ _ l1_0 a1_1 _ _ l1_2 a1_3 a1_4 a1_5 a1_6 a1_7 _ _ l1_8 t152 t153 _ ?side1 ?side2 ?side3 ?side4 ?side5 ?side6 A10.out).mono ?_); (case side1 => exact ca_ (Kd.C_below HR1_0.out HB.out)); (case side2 => exact HC1_0.out); (case side3 => exact ca_ (Kd.C_below HR1_2.out HB.out)); (case side4 => exact HC1_2.out); (case side5 => exact ca_ (Kd.C_below HR1_8.out HB.out)); (case side6 => exact HC1_8.out); rintro e w18 ⟨rfl, hb⟩; refine ⟨_, rfl, ?_⟩; have n0_ := Aside0.mk (blk_below (bk_ BK150) hb); have n1_ := Aside0.mk (blk_below (bk_ BK151) hb); have n2_ := Aside0.mk (below_step bl_ hb); clear BK150; clear BK151; clear HB; have BK150 := n0_; have BK151 := n1_; have HB := n2_; clear n0_ n1_ n2_; (try clear hb); (try clear hb2); (try clear hk); (try clear hi)))
      go_ret
      exact ⟨by first | rfl | (simp [errW_none, errW_some] <;> rfl) | (simp [*, errW_none, errW_some] <;> rfl), bl_⟩
    · rw [if_neg c11] at H
      have c11b0 : decide (t153 < 0) = false := decide_eq_false c11
      clear c11
      replace H := Option.bind_eq_some_iff.mp H
      obtain ⟨⟨t154, t157, t158, t161, t162, t163, t164, t165, t166⟩, A190, H⟩ := H
      replace H : ((laws_toTask.f k l1_0 a1_1 l1_2 a1_3 a1_4 a1_5 a1_6 a1_7 l1_8).bind fun bt169 => ((spec_TaskSame.f k t154 t157 t158 t161 t162 t163 t164 t165 t166 bt169.1 bt169.2.1 bt169.2.2.1 bt169.2.2.2.1 bt169.2.2.2.2.1 bt169.2.2.2.2.2.1 bt169.2.2.2.2.2.2.1 bt169.2.2.2.2.2.2.2.1 bt169.2.2.2.2.2.2.2.2).bind fun t184 => ((laws_toTask.f k l0_0 a0_1 l0_2 a0_3 a0_4 a0_5 a0_6 a0_7 l0_8).bind fun bt185 => ((laws_toTask.f k l1_0 a1_1 l1_2 a1_3 a1_4 a1_5 a1_6 a1_7 l1_8).bind fun bt201 => ((impl_TaskSame.f k bt185.1 bt185.2.1 bt185.2.2.1 bt185.2.2.2.1 bt185.2.2.2.2.1 bt185.2.2.2.2.2.1 bt185.2.2.2.2.2.2.1 bt185.2.2.2.2.2.2.2.1 bt185.2.2.2.2.2.2.2.2 bt201.1 bt201.2.1 bt201.2.2.1 bt201.2.2.2.1 bt201.2.2.2.2.1 bt201.2.2.2.2.2.1 bt201.2.2.2.2.2.2.1 bt201.2.2.2.2.2.2.2.1 bt201.2.2.2.2.2.2.2.2).bind fun t217 => (if (t217 != t184) = true then (some false) else ((laws_toTask.f k l0_0 a0_1 l0_2 a0_3 a0_4 a0_5 a0_6 a0_7 l0_8).bind fun bt218 => ((laws_eqTask.f k bt185.1 bt185.2.1 bt185.2.2.1 bt185.2.2.2.1 bt185.2.2.2.2.1 bt185.2.2.2.2.2.1 bt185.2.2.2.2.2.2.1 bt185.2.2.2.2.2.2.2.1 bt185.2.2.2.2.2.2.2.2 bt218.1 bt218.2.1 bt218.2.2.1 bt218.2.2.2.1 bt218.2.2.2.2.1 bt218.2.2.2.2.2.1 bt218.2.2.2.2.2.2.1 bt218.2.2.2.2.2.2.2.1 bt218.2.2.2.2.2.2.2.2).bind fun t233 => (if t233 = true then ((laws_toTask.f k l1_0 a1_1 l1_2 a1_3 a1_4 a1_5 a1_6 a1_7 l1_8).bind fun bt234 => ((laws_eqTask.f k bt201.1 bt201.2.1 bt201.2.2.1 bt201.2.2.2.1 bt201.2.2.2.2.1 bt201.2.2.2.2.2.1 bt201.2.2.2.2.2.2.1 bt201.2.2.2.2.2.2.2.1 bt201.2.2.2.2.2.2.2.2 bt234.1 bt234.2.1 bt234.2.2.1 bt234.2.2.2.1 bt234.2.2.2.2.1 bt234.2.2.2.2.2.1 bt234.2.2.2.2.2.2.1 bt234.2.2.2.2.2.2.2.1 bt234.2.2.2.2.2.2.2.2).bind fun t249 => (if t249 = true then (some true) else (some false)))) else (some false)))))))))) = some true := H
      have A19 := Aside0.mk A190
      clear A190
      replace H := Option.bind_eq_some_iff.mp H
      obtain ⟨⟨t169, t172, t173, t176, t177, t178, t179, t180, t181⟩, A200, H⟩ := H
      replace H : ((spec_TaskSame.f k t154 t157 t158 t161 t162 t163 t164 t165 t166 t169 t172 t173 t176 t177 t178 t179 t180 t181).bind fun t184 => ((laws_toTask.f k l0_0 a0_1 l0_2 a0_3 a0_4 a0_5 a0_6 a0_7 l0_8).bind fun bt185 => ((laws_toTask.f k l1_0 a1_1 l1_2 a1_3 a1_4 a1_5 a1_6 a1_7 l1_8).bind fun bt201 => ((impl_TaskSame.f k bt185.1 bt185.2.1 bt185.2.2.1 bt185.2.2.2.1 bt185.2.2.2.2.1 bt185.2.2.2.2.2.1 bt185.2.2.2.2.2.2.1 bt185.2.2.2.2.2.2.2.1 bt185.2.2.2.2.2.2.2.2 bt201.1 bt201.2.1 bt201.2.2.1 bt201.2.2.2.1 bt201.2.2.2.2.1 bt201.2.2.2.2.2.1 bt201.2.2.2.2.2.2.1 bt201.2.2.2.2.2.2.2.1 bt201.2.2.2.2.2.2.2.2).bind fun t217 => (if (t217 != t184) = true then (some false) else ((laws_toTask.f k l0_0 a0_1 l0_2 a0_3 a0_4 a0_5 a0_6 a0_7 l0_8).bind fun bt218 => ((laws_eqTask.f k bt185.1 bt185.2.1 bt185.2.2.1 bt185.2.2.2.1 bt185.2.2.2.2.1 bt185.2.2.2.2.2.1 bt185.2.2.2.2.2.2.1 bt185.2.2.2.2.2.2.2.1 bt185.2.2.2.2.2.2.2.2 bt218.1 bt218.2.1 bt218.2.2.1 bt218.2.2.2.1 bt218.2.2.2.2.1 bt218.2.2.2.2.2.1 bt218.2.2.2.2.2.2.1 bt218.2.2.2.2.2.2.2.1 bt218.2.2.2.2.2.2.2.2).bind fun t233 => (if t233 = true then ((laws_toTask.f k l1_0 a1_1 l1_2 a1_3 a1_4 a1_5 a1_6 a1_7 l1_8).bind fun bt234 => ((laws_eqTask.f k bt201.1 bt201.2.1 bt201.2.2.1 bt201.2.2.2.1 bt201.2.2.2.2.1 bt201.2.2.2.2.2.1 bt201.2.2.2.2.2.2.1 bt201.2.2.2.2.2.2.2.1 bt201.2.2.2.2.2.2.2.2 bt234.1 bt234.2.1 bt234.2.2.1 bt234.2.2.2.1 bt234.2.2.2.2.1 bt234.2.2.2.2.2.1 bt234.2.2.2.2.2.2.1 bt234.2.2.2.2.2.2.2.1 bt234.2.2.2.2.2.2.2.2).bind fun t249 => (if t249 = true then (some true) else (some false)))) else (some false))))))))) = some true := H
      have A20 := Aside0.mk A200
      clear A200
      replace H := Option.bind_eq_some_iff.mp H
      obtain ⟨t184, A210, H⟩ := H
      replace H : ((laws_toTask.f k l0_0 a0_1 l0_2 a0_3 a0_4 a0_5 a0_6 a0_7 l0_8).bind fun bt185 => ((laws_toTask.f k l1_0 a1_1 l1_2 a1_3 a1_4 a1_5 a1_6 a1_7 l1_8).bind fun bt201 => ((impl_TaskSame.f k bt185.1 bt185.2.1 bt185.2.2.1 bt185.2.2.2.1 bt185.2.2.2.2.1 bt185.2.2.2.2.2.1 bt185.2.2.2.2.2.2.1 bt185.2.2.2.2.2.2.2.1 bt185.2.2.2.2.2.2.2.2 bt201.1 bt201.2.1 bt201.2.2.1 bt201.2.2.2.1 bt201.2.2.2.2.1 bt201.2.2.2.2.2.1 bt201.2.2.2.2.2.2.1 bt201.2.2.2.2.2.2.2.1 bt201.2.2.2.2.2.2.2.2).bind fun t217 => (if (t217 != t184) = true then (some false) else ((laws_toTask.f k l0_0 a0_1 l0_2 a0_3 a0_4 a0_5 a0_6 a0_7 l0_8).bind fun bt218 => ((laws_eqTask.f k bt185.1 bt185.2.1 bt185.2.2.1 bt185.2.2.2.1 bt185.2.2.2.2.1 bt185.2.2.2.2.2.1 bt185.2.2.2.2.2.2.1 bt185.2.2.2.2.2.2.2.1 bt185.2.2.2.2.2.2.2.2 bt218.1 bt218.2.1 bt218.2.2.1 bt218.2.2.2.1 bt218.2.2.2.2.1 bt218.2.2.2.2.2.1 bt218.2.2.2.2.2.2.1 bt218.2.2.2.2.2.2.2.1 bt218.2.2.2.2.2.2.2.2).bind fun t233 => (if t233 = true then ((laws_toTask.f k l1_0 a1_1 l1_2 a1_3 a1_4 a1_5 a1_6 a1_7 l1_8).bind fun bt234 => ((laws_eqTask.f k bt201.1 bt201.2.1 bt201.2.2.1 bt201.2.2.2.1 bt201.2.2.2.2.1 bt201.2.2.2.2.2.1 bt201.2.2.2.2.2.2.1 bt201.2.2.2.2.2.2.2.1 bt201.2.2.2.2.2.2.2.2 bt234.1 bt234.2.1 bt234.2.2.1 bt234.2.2.2.1 bt234.2.2.2.2.1 bt234.2.2.2.2.2.1 bt234.2.2.2.2.2.2.1 bt234.2.2.2.2.2.2.2.1 bt234.2.2.2.2.2.2.2.2).bind fun t249 => (if t249 = true then (some true) else (some false)))) else (some false)))))))) = some true := H
      have A21 := Aside0.mk A210
      clear A210
      replace H := Option.bind_eq_some_iff.mp H
      obtain ⟨⟨t185, t188, t189, t192, t193, t194, t195, t196, t197⟩, A220, H⟩ := H
      replace H : ((laws_toTask.f k l1_0 a1_1 l1_2 a1_3 a1_4 a1_5 a1_6 a1_7 l1_8).bind fun bt201 => ((impl_TaskSame.f k t185 t188 t189 t192 t193 t194 t195 t196 t197 bt201.1 bt201.2.1 bt201.2.2.1 bt201.2.2.2.1 bt201.2.2.2.2.1 bt201.2.2.2.2.2.1 bt201.2.2.2.2.2.2.1 bt201.2.2.2.2.2.2.2.1 bt201.2.2.2.2.2.2.2.2).bind fun t217 => (if (t217 != t184) = true then (some false) else ((laws_toTask.f k l0_0 a0_1 l0_2 a0_3 a0_4 a0_5 a0_6 a0_7 l0_8).bind fun bt218 => ((laws_eqTask.f k t185 t188 t189 t192 t193 t194 t195 t196 t197 bt218.1 bt218.2.1 bt218.2.2.1 bt218.2.2.2.1 bt218.2.2.2.2.1 bt218.2.2.2.2.2.1 bt218.2.2.2.2.2.2.1 bt218.2.2.2.2.2.2.2.1 bt218.2.2.2.2.2.2.2.2).bind fun t233 => (if t233 = true then ((laws_toTask.f k l1_0 a1_1 l1_2 a1_3 a1_4 a1_5 a1_6 a1_7 l1_8).bind fun bt234 => ((laws_eqTask.f k bt201.1 bt201.2.1 bt201.2.2.1 bt201.2.2.2.1 bt201.2.2.2.2.1 bt201.2.2.2.2.2.1 bt201.2.2.2.2.2.2.1 bt201.2.2.2.2.2.2.2.1 bt201.2.2.2.2.2.2.2.2 bt234.1 bt234.2.1 bt234.2.2.1 bt234.2.2.2.1 bt234.2.2.2.2.1 bt234.2.2.2.2.2.1 bt234.2.2.2.2.2.2.1 bt234.2.2.2.2.2.2.2.1 bt234.2.2.2.2.2.2.2.2).bind fun t249 => (if t249 = true then (some true) else (some false)))) else (some false))))))) = some true := H
      have A22 := Aside0.mk A220
      clear A220
      replace H := Option.bind_eq_some_iff.mp H
      obtain ⟨⟨t201, t204, t205, t208, t209, t210, t211, t212, t213⟩, A230, H⟩ := H
      replace H : ((impl_TaskSame.f k t185 t188 t189 t192 t193 t194 t195 t196 t197 t201 t204 t205 t208 t209 t210 t211 t212 t213).bind fun t217 => (if (t217 != t184) = true then (some false) else ((laws_toTask.f k l0_0 a0_1 l0_2 a0_3 a0_4 a0_5 a0_6 a0_7 l0_8).bind fun bt218 => ((laws_eqTask.f k t185 t188 t189 t192 t193 t194 t195 t196 t197 bt218.1 bt218.2.1 bt218.2.2.1 bt218.2.2.2.1 bt218.2.2.2.2.1 bt218.2.2.2.2.2.1 bt218.2.2.2.2.2.2.1 bt218.2.2.2.2.2.2.2.1 bt218.2.2.2.2.2.2.2.2).bind fun t233 => (if t233 = true then ((laws_toTask.f k l1_0 a1_1 l1_2 a1_3 a1_4 a1_5 a1_6 a1_7 l1_8).bind fun bt234 => ((laws_eqTask.f k t201 t204 t205 t208 t209 t210 t211 t212 t213 bt234.1 bt234.2.1 bt234.2.2.1 bt234.2.2.2.1 bt234.2.2.2.2.1 bt234.2.2.2.2.2.1 bt234.2.2.2.2.2.2.1 bt234.2.2.2.2.2.2.2.1 bt234.2.2.2.2.2.2.2.2).bind fun t249 => (if t249 = true then (some true) else (some false)))) else (some false)))))) = some true := H
      have A23 := Aside0.mk A230
      clear A230
      replace H := Option.bind_eq_some_iff.mp H
      obtain ⟨t217, A240, H⟩ := H
      replace H : (if (t217 != t184) = true then (some false) else ((laws_toTask.f k l0_0 a0_1 l0_2 a0_3 a0_4 a0_5 a0_6 a0_7 l0_8).bind fun bt218 => ((laws_eqTask.f k t185 t188 t189 t192 t193 t194 t195 t196 t197 bt218.1 bt218.2.1 bt218.2.2.1 bt218.2.2.2.1 bt218.2.2.2.2.1 bt218.2.2.2.2.2.1 bt218.2.2.2.2.2.2.1 bt218.2.2.2.2.2.2.2.1 bt218.2.2.2.2.2.2.2.2).bind fun t233 => (if t233 = true then ((laws_toTask.f k l1_0 a1_1 l1_2 a1_3 a1_4 a1_5 a1_6 a1_7 l1_8).bind fun bt234 => ((laws_eqTask.f k t201 t204 t205 t208 t209 t210 t211 t212 t213 bt234.1 bt234.2.1 bt234.2.2.1 bt234.2.2.2.1 bt234.2.2.2.2.1 bt234.2.2.2.2.2.1 bt234.2.2.2.2.2.2.1 bt234.2.2.2.2.2.2.2.1 bt234.2.2.2.2.2.2.2.2).bind fun t249 => (if t249 = true then (some true) else (some false)))) else (some false))))) = some true := H
      have A24 := Aside0.mk A240
      clear A240
      by_cases c25 : (t217 != t184) = true
      · rw [if_pos c25] at H
        have c25b0 : (t217 != t184) = true := c25
        (try (have c25b1 : decide (t217 = t184) = false := by simpa using c25))
        (try (have c25b2 : (t217 == t184) = false := by simpa using c25))
        (try (have c25b3 : ¬ (t217 = t184) := by simpa using c25))
        clear c25
        exact absurd H (by simp)
      · rw [if_neg c25] at H
        have c25b0 : (t217 != t184) = false := by simpa using c25
        (try (have c25b1 : decide (t217 = t184) = true := by simpa using c25))
        (try (have c25b2 : (t217 == t184) = true := by simpa using c25))
        clear c25
        replace H := Option.bind_eq_some_iff.mp H
        obtain ⟨⟨t218, t221, t222, t225, t226, t227, t228, t229, t230⟩, A260, H⟩ := H
        replace H : ((laws_eqTask.f k t185 t188 t189 t192 t193 t194 t195 t196 t197 t218 t221 t222 t225 t226 t227 t228 t229 t230).bind fun t233 => (if t233 = true then ((laws_toTask.f k l1_0 a1_1 l1_2 a1_3 a1_4 a1_5 a1_6 a1_7 l1_8).bind fun bt234 => ((laws_eqTask.f k t201 t204 t205 t208 t209 t210 t211 t212 t213 bt234.1 bt234.2.1 bt234.2.2.1 bt234.2.2.2.1 bt234.2.2.2.2.1 bt234.2.2.2.2.2.1 bt234.2.2.2.2.2.2.1 bt234.2.2.2.2.2.2.2.1 bt234.2.2.2.2.2.2.2.2).bind fun t249 => (if t249 = true then (some true) else (some false)))) else (some false))) = some true := H
        have A26 := Aside0.mk A260
        clear A260
        replace H := Option.bind_eq_some_iff.mp H
        obtain ⟨t233, A270, H⟩ := H
        replace H : (if t233 = true then ((laws_toTask.f k l1_0 a1_1 l1_2 a1_3 a1_4 a1_5 a1_6 a1_7 l1_8).bind fun bt234 => ((laws_eqTask.f k t201 t204 t205 t208 t209 t210 t211 t212 t213 bt234.1 bt234.2.1 bt234.2.2.1 bt234.2.2.2.1 bt234.2.2.2.2.1 bt234.2.2.2.2.2.1 bt234.2.2.2.2.2.2.1 bt234.2.2.2.2.2.2.2.1 bt234.2.2.2.2.2.2.2.2).bind fun t249 => (if t249 = true then (some true) else (some false)))) else (some false)) = some true := H
        have A27 := Aside0.mk A270
        clear A270
        by_cases c28 : t233 = true
        · subst c28
          have H1 : ((laws_toTask.f k l1_0 a1_1 l1_2 a1_3 a1_4 a1_5 a1_6 a1_7 l1_8).bind fun bt234 => ((laws_eqTask.f k t201 t204 t205 t208 t209 t210 t211 t212 t213 bt234.1 bt234.2.1 bt234.2.2.1 bt234.2.2.2.1 bt234.2.2.2.2.1 bt234.2.2.2.2.2.1 bt234.2.2.2.2.2.2.1 bt234.2.2.2.2.2.2.2.1 bt234.2.2.2.2.2.2.2.2).bind fun t249 => (if t249 = true then (some true) else (some false)))) = some true := by rw [if_pos rfl] at H; exact H
          clear H
          have H := H1
          clear H1
          replace H := Option.bind_eq_some_iff.mp H
          obtain ⟨⟨t234, t237, t238, t241, t242, t243, t244, t245, t246⟩, A290, H⟩ := H
          replace H : ((laws_eqTask.f k t201 t204 t205 t208 t209 t210 t211 t212 t213 t234 t237 t238 t241 t242 t243 t244 t245 t246).bind fun t249 => (if t249 = true then (some true) else (some false))) = some true := H
          have A29 := Aside0.mk A290
          clear A290
          replace H := Option.bind_eq_some_iff.mp H
          obtain ⟨t249, A300, H⟩ := H
          replace H : (if t249 = true then (some true) else (some false)) = some true := H
          have A30 := Aside0.mk A300
          clear A300
          by_cases c31 : t249 = true
          · subst c31
            have H1 : (some true) = some true := rfl
            clear H
            have H := H1
            clear H1
            clear H
            go_enter Try.func9, Try.ntmps9
            try go_wp2_with (first | ((with_reducible refine gate_dst (N := 2) rfl ?_); refine box_event ?hg (N := 2) ?hd (cs := #[.slice A0_0 l0_0.length c0_0, .int .i64 a0_1, .slice A0_2 l0_2.length c0_2, .int .i64 a0_3, .int .i64 a0_4, .int .i64 a0_5, .int .i64 a0_6, .int .i64 a0_7, .slice A0_8 l0_8.length c0_8]) (t := 33) ?hr ?_; (case hd => rfl); (case hg => rfl); (case hr => first | (go_simp; done) | (go_simp; rfl)); intro gb150 hg w32 hbox hb; have n0_ := Aside0.mk (below_step bl_ hb); have n1_ := Aside0.mk (hbox); have n2_ := Aside0.mk ((by rw [hg]; exact (below_size bl_) : w.heap.size ≤ gb150)); have n3_ := Aside0.mk ((by rw [hg]; exact (below_size bl_) : w.heap.size ≤ gb150)); clear HB; have HB := n0_; have BK150 := n1_; have GW150 := n2_; have GE150 := n3_; clear n0_ n1_ n2_ n3_; clear hb hbox hg) | ((with_reducible refine gate_dst (N := 3) rfl ?_); refine box_event ?hg (N := 3) ?hd (cs := #[.slice A1_0 l1_0.length c1_0, .int .i64 a1_1, .slice A1_2 l1_2.length c1_2, .int .i64 a1_3, .int .i64 a1_4, .int .i64 a1_5, .int .i64 a1_6, .int .i64 a1_7, .slice A1_8 l1_8.length c1_8]) (t := 33) ?hr ?_; (case hd => rfl); (case hg => rfl); (case hr => first | (go_simp; done) | (go_simp; rfl)); intro gb151 hg w33 hbox hb; have n0_ := Aside0.mk (blk_below (bk_ BK150) hb); have n1_ := Aside0.mk (below_step bl_ hb); have n2_ := Aside0.mk (hbox); have n3_ := Aside0.mk ((by rw [hg]; exact (below_size bl_) : w.heap.size ≤ gb151)); have n4_ := Aside0.mk ((by rw [hg]; exact (below_size bl_) : w.heap.size ≤ gb151)); have n5_ := Aside0.mk ((by rw [hg]; exact Nat.ne_of_lt (blk_lt (bk_ BK150)) : gb150 ≠ gb151)); have n6_ := Aside0.mk ((by rw [hg]; exact Nat.ne_of_gt (blk_lt (bk_ BK150)) : gb151 ≠ gb150)); clear BK150; clear HB; have BK150 := n0_; have HB := n1_; have BK151 := n2_; have GW151 := n3_; have GE151 := n4_; have NB150_151 := n5_; have NB151_150 := n6_; clear n0_ n1_ n2_ n3_ n4_ n5_ n6_; clear hb hbox hg; have hnb34 := NB150_151.out; have hnc34 := NB151_150.out; have hcz35_0 := cz_ BK150 0 (.slice A0_0 l0_0.length c0_0); have hcz35_1 := cz_ BK150 1 (.int .i64 a0_1); have hcz35_2 := cz_ BK150 2 (.slice A0_2 l0_2.length c0_2); have hcz35_3 := cz_ BK150 3 (.int .i64 a0_3); have hcz35_4 := cz_ BK150 4 (.int .i64 a0_4); have hcz35_5 := cz_ BK150 5 (.int .i64 a0_5); have hcz35_6 := cz_ BK150 6 (.int .i64 a0_6); have hcz35_7 := cz_ BK150 7 (.int .i64 a0_7); have hcz35_8 := cz_ BK150 8 (.slice A0_8 l0_8.length c0_8); have hfz35_0 := fz_ BK150 0; have hfz35_1 := fz_ BK150 1; have hfz35_2 := fz_ BK150 2; have hfz35_3 := fz_ BK150 3; have hfz35_4 := fz_ BK150 4; have hfz35_5 := fz_ BK150 5; have hfz35_6 := fz_ BK150 6; have hfz35_7 := fz_ BK150 7; have hfz35_8 := fz_ BK150 8) | ((with_reducible refine gate_callee (f := 22) rfl ?_); refine goesL_ (some 12) rfl rfl Try.func22 (by kernel_rfl) rfl #[.agg #[.slice A0_0 l0_0.length c0_0, .int .i64 a0_1, .slice A0_2 l0_2.length c0_2, .int .i64 a0_3, .int .i64 a0_4, .int .i64 a0_5, .int .i64 a0_6, .int .i64 a0_7, .slice A0_8 l0_8.length c0_8], .int .i64 1048576] rfl gl_ ?_; (with_reducible refine (laws_szTask.calls _ _ l0_0 a0_1 _ _ l0_2 a0_3 a0_4 a0_5 a0_6 a0_7 _ _ l0_8 1048576 t152 _ ?side1 ?side2 ?side3 ?side4 ?side5 ?side6 A3.out).mono ?_); (case side1 => exact ca_ (Kd.C_below HR0_0.out HB.out)); (case side2 => exact HC0_0.out); (case side3 => exact ca_ (Kd.C_below HR0_2.out HB.out)); (case side4 => exact HC0_2.out); (case side5 => exact ca_ (Kd.C_below HR0_8.out HB.out)); (case side6 => exact HC0_8.out); rintro e w36 ⟨rfl, hb⟩; refine ⟨_, rfl, ?_⟩; have n0_ := Aside0.mk (blk_below (bk_ BK150) hb); have n1_ := Aside0.mk (blk_below (bk_ BK151) hb); have n2_ := Aside0.mk (below_step bl_ hb); clear BK150; clear BK151; clear HB; have BK150 := n0_; have BK151 := n1_; have HB := n2_; clear n0_ n1_ n2_; (try clear hb); (try clear hb2); (try clear hk); (try clear hi); have hcz37_0 := cz_ BK151 0 (.slice A1_0 l1_0.length c1_0); have hcz37_1 := cz_ BK151 1 (.int .i64 a1_1); have hcz37_2 := cz_ BK151 2 (.slice A1_2 l1_2.length c1_2); have hcz37_3 := cz_ BK151 3 (.int .i64 a1_3); have hcz37_4 := cz_ BK151 4 (.int .i64 a1_4); have hcz37_5 := cz_ BK151 5 (.int .i64 a1_5); have hcz37_6 := cz_ BK151 6 (.int .i64 a1_6); have hcz37_7 := cz_ BK151 7 (.int .i64 a1_7); have hcz37_8 := cz_ BK151 8 (.slice A1_8 l1_8.length c1_8); have hfz37_0 := fz_ BK151 0; have hfz37_1 := fz_ BK151 1; have hfz37_2 := fz_ BK151 2; have hfz37_3 := fz_ BK151 3; have hfz37_4 := fz_ BK151 4; have hfz37_5 := fz_ BK151 5; have hfz37_6 := fz_ BK151 6; have hfz37_7 := fz_ BK151 7; have hfz37_8 := fz_ BK151 8) | ((with_reducible refine gate_callee (f := 22) rfl ?_); refine goesL_ (some 17) rfl rfl Try.func22 (by kernel_rfl) rfl #[.agg #[.slice A1_0 l1_0.length c1_0, .int .i64 a1_1, .slice A1_2 l1_2.length c1_2, .int .i64 a1_3, .int .i64 a1_4, .int .i64 a1_5, .int .i64 a1_6, .int .i64 a1_7, .slice A1_8 l1_8.length c1_8], .int .i64 t152] rfl gl_ ?_; (with_reducible refine (laws_szTask.calls _ _ l1_0 a1_1 _ _ l1_2 a1_3 a1_4 a1_5 a1_6 a1_7 _ _ l1_8 t152 t153 _ ?side1 ?side2 ?side3 ?side4 ?side5 ?side6 A10.out).mono ?_); (case side1 => exact ca_ (Kd.C_below HR1_0.out HB.out)); (case side2 => exact HC1_0.out); (case side3 => exact ca_ (Kd.C_below HR1_2.out HB.out)); (case side4 => exact HC1_2.out); (case side5 => exact ca_ (Kd.C_below HR1_8.out HB.out)); (case side6 => exact HC1_8.out); rintro e w38 ⟨rfl, hb⟩; refine ⟨_, rfl, ?_⟩; have n0_ := Aside0.mk (blk_below (bk_ BK150) hb); have n1_ := Aside0.mk (blk_below (bk_ BK151) hb); have n2_ := Aside0.mk (below_step bl_ hb); clear BK150; clear BK151; clear HB; have BK150 := n0_; have BK151 := n1_; have HB := n2_; clear n0_ n1_ n2_; (try clear hb); (try clear hb2); (try clear hk); (try clear hi)))
            have n0_ := Aside0.mk (blk_drew BK150.out)
            have n1_ := Aside0.mk (blk_drew BK151.out)
            have n2_ := Aside0.mk (below_drew1 HB.out)
            clear BK150
            clear BK151
            clear HB
            have BK150 := n0_
            have BK151 := n1_
            have HB := n2_
            clear n0_ n1_ n2_
            refine start_ (n := 6) (S := fun w' => w'.cell? ⟨gb150, 0, none⟩ = some (.slice A0_0 l0_0.length c0_0) ∧ w'.cell? ⟨gb150, 1, none⟩ = some (.int .i64 a0_1) ∧ w'.cell? ⟨gb150, 2, none⟩ = some (.slice A0_2 l0_2.length c0_2) ∧ w'.cell? ⟨gb150, 3, none⟩ = some (.int .i64 a0_3) ∧ w'.cell? ⟨gb150, 4, none⟩ = some (.int .i64 a0_4) ∧ w'.cell? ⟨gb150, 5, none⟩ = some (.int .i64 a0_5) ∧ w'.cell? ⟨gb150, 6, none⟩ = some (.int .i64 a0_6) ∧ w'.cell? ⟨gb150, 7, none⟩ = some (.int .i64 a0_7) ∧ w'.cell? ⟨gb150, 8, none⟩ = some (.slice A0_8 l0_8.length c0_8) ∧ w'.cell? ⟨gb151, 0, none⟩ = some (.slice A1_0 l1_0.length c1_0) ∧ w'.cell? ⟨gb151, 1, none⟩ = some (.int .i64 a1_1) ∧ w'.cell? ⟨gb151, 2, none⟩ = some (.slice A1_2 l1_2.length c1_2) ∧ w'.cell? ⟨gb151, 3, none⟩ = some (.int .i64 a1_3) ∧ w'.cell? ⟨gb151, 4, none⟩ = some (.int .i64 a1_4) ∧ w'.cell? ⟨gb151, 5, none⟩ = some (.int .i64 a1_5) ∧ w'.cell? ⟨gb151, 6, none⟩ = some (.int .i64 a1_6) ∧ w'.cell? ⟨gb151, 7, none⟩ = some (.int .i64 a1_7) ∧ w'.cell? ⟨gb151, 8, none⟩ = some (.slice A1_8 l1_8.length c1_8)) (ds := []) #[false, false, false, false, false, false] (by kernel_rfl) rfl rfl ⟨(blk_cell BK150.out 0).trans rfl, (blk_cell BK150.out 1).trans rfl, (blk_cell BK150.out 2).trans rfl, (blk_cell BK150.out 3).trans rfl, (blk_cell BK150.out 4).trans rfl, (blk_cell BK150.out 5).trans rfl, (blk_cell BK150.out 6).trans rfl, (blk_cell BK150.out 7).trans rfl, (blk_cell BK150.out 8).trans rfl, (blk_cell BK151.out 0).trans rfl, (blk_cell BK151.out 1).trans rfl, (blk_cell BK151.out 2).trans rfl, (blk_cell BK151.out 3).trans rfl, (blk_cell BK151.out 4).trans rfl, (blk_cell BK151.out 5).trans rfl, (blk_cell BK151.out 6).trans rfl, (blk_cell BK151.out 7).trans rfl, (blk_cell BK151.out 8).trans rfl⟩ (fun hHeld => ?_)
            generalize w38.drew = w39 at BK150 BK151 HB hHeld ⊢
            refine take_ (i := 0) (N := some 20) (v := ?_) (a' := ?_) #[true, false, false, false, false, false] rfl rfl (by kernel_rfl) (fun _ _ _ h => h) (Or.inl ⟨by rfl, ?_⟩) hHeld ?_ ?_
            rotate_left
            · rintro w' ⟨s0, s1, s2, s3, s4, s5, s6, s7, s8, s9, s10, s11, s12, s13, s14, s15, s16, s17⟩
              go_simp
              with_reducible rfl
            rotate_left
            · simp only [Act.put, List.setIfInBounds_toArray, List.set_cons_zero, List.set_cons_succ, i64_w, i32_w]
              rfl
            refine take_ (i := 2) (N := some 22) (v := ?_) (a' := ?_) #[true, false, true, false, false, false] rfl rfl (by kernel_rfl) (fun _ _ _ h => h) (Or.inl ⟨by rfl, ?_⟩) hHeld ?_ ?_
            rotate_left
            · rintro w' ⟨s0, s1, s2, s3, s4, s5, s6, s7, s8, s9, s10, s11, s12, s13, s14, s15, s16, s17⟩
              go_simp
              with_reducible rfl
            rotate_left
            · simp only [Act.put, List.setIfInBounds_toArray, List.set_cons_zero, List.set_cons_succ, i64_w, i32_w]
              rfl
            refine one_ (i := 1) (N := some 21) #[true, true, true, false, false, false] rfl rfl (by kernel_rfl) (by decide) (fun K hK => ?_)
            refine goes_ Try.func24 (by kernel_rfl) rfl #[.agg #[.slice A0_0 l0_0.length c0_0, .int .i64 a0_1, .slice A0_2 l0_2.length c0_2, .int .i64 a0_3, .int .i64 a0_4, .int .i64 a0_5, .int .i64 a0_6, .int .i64 a0_7, .slice A0_8 l0_8.length c0_8]] (by rfl) rfl rfl gl_ ?_
            with_reducible refine (laws_toTask.calls k _ _ l0_0 a0_1 _ _ l0_2 a0_3 a0_4 a0_5 a0_6 a0_7 _ _ l0_8 t154 t157 t158 t161 t162 t163 t164 t165 t166 _ ?side1 ?side2 ?side3 ?side4 ?side5 ?side6 A19.out).mono ?_
            (case side1 => exact ca_ (Kd.C_below HR0_0.out HB.out))
            (case side2 => exact HC0_0.out)
            (case side3 => exact ca_ (Kd.C_below HR0_2.out HB.out))
            (case side4 => exact HC0_2.out)
            (case side5 => exact ca_ (Kd.C_below HR0_8.out HB.out))
            (case side6 => exact HC0_8.out)
            rintro e w40 ⟨v155, v159, v167, rfl, ho0, ho1, ho2, hb⟩
            refine ⟨_, rfl, ?_⟩
            have n0_ := Aside0.mk (Kd.R_lower ho0 (below_size bl_))
            have n1_ := Aside0.mk (Kd.R_lower ho1 (below_size bl_))
            have n2_ := Aside0.mk (Kd.R_lower ho2 (below_size bl_))
            have n3_ := Aside0.mk (blk_below (bk_ BK150) hb)
            have n4_ := Aside0.mk (blk_below (bk_ BK151) hb)
            have n5_ := Aside0.mk (below_step bl_ hb)
            clear BK150
            clear BK151
            clear HB
            have HO156 := n0_
            have HO160 := n1_
            have HO168 := n2_
            have BK150 := n3_
            have BK151 := n4_
            have HB := n5_
            clear n0_ n1_ n2_ n3_ n4_ n5_
            (try clear hb)
            (try clear hb2)
            (try clear hk)
            (try clear hi)
            (try clear ho0)
            (try clear ho1)
            (try clear ho2)
            refine hK.out _ _ ⟨(blk_cell BK150.out 0).trans rfl, (blk_cell BK150.out 1).trans rfl, (blk_cell BK150.out 2).trans rfl, (blk_cell BK150.out 3).trans rfl, (blk_cell BK150.out 4).trans rfl, (blk_cell BK150.out 5).trans rfl, (blk_cell BK150.out 6).trans rfl, (blk_cell BK150.out 7).trans rfl, (blk_cell BK150.out 8).trans rfl, (blk_cell BK151.out 0).trans rfl, (blk_cell BK151.out 1).trans rfl, (blk_cell BK151.out 2).trans rfl, (blk_cell BK151.out 3).trans rfl, (blk_cell BK151.out 4).trans rfl, (blk_cell BK151.out 5).trans rfl, (blk_cell BK151.out 6).trans rfl, (blk_cell BK151.out 7).trans rfl, (blk_cell BK151.out 8).trans rfl⟩ (fun hHeld => ?_)
            clear hK K
            refine norm_ (a' := ?_) ?_ ?_
            rotate_left
            · show Act.put _ (some 21) _ = _
              simp only [Act.put, List.setIfInBounds_toArray, List.set_cons_zero, List.set_cons_succ, i64_w, i32_w]
              rfl
            refine one_ (i := 3) (N := some 23) #[true, true, true, true, false, false] rfl rfl (by kernel_rfl) (by decide) (fun K hK => ?_)
            refine goes_ Try.func24 (by kernel_rfl) rfl #[.agg #[.slice A1_0 l1_0.length c1_0, .int .i64 a1_1, .slice A1_2 l1_2.length c1_2, .int .i64 a1_3, .int .i64 a1_4, .int .i64 a1_5, .int .i64 a1_6, .int .i64 a1_7, .slice A1_8 l1_8.length c1_8]] (by rfl) rfl rfl gl_ ?_
            with_reducible refine (laws_toTask.calls k _ _ l1_0 a1_1 _ _ l1_2 a1_3 a1_4 a1_5 a1_6 a1_7 _ _ l1_8 t169 t172 t173 t176 t177 t178 t179 t180 t181 _ ?side1 ?side2 ?side3 ?side4 ?side5 ?side6 A20.out).mono ?_
            (case side1 => exact ca_ (Kd.C_below HR1_0.out HB.out))
            (case side2 => exact HC1_0.out)
            (case side3 => exact ca_ (Kd.C_below HR1_2.out HB.out))
            (case side4 => exact HC1_2.out)
            (case side5 => exact ca_ (Kd.C_below HR1_8.out HB.out))
            (case side6 => exact HC1_8.out)
            rintro e w41 ⟨v170, v174, v182, rfl, ho0, ho1, ho2, hb⟩
            refine ⟨_, rfl, ?_⟩
            have n0_ := Aside0.mk (Kd.R_mono (Kd.R_told (Kd.R_told (Kd.R_old (ra_ HO156) hb) (Kd.R_base ho0)) (Kd.R_base ho2)) (fun _ h_ => h_.1))
            have n1_ := Aside0.mk (Kd.R_elder' (ra_ HO160) (Kd.R_base ho1) hb)
            have n2_ := Aside0.mk (Kd.R_mono (Kd.R_told (Kd.R_told (Kd.R_old (ra_ HO168) hb) (Kd.R_base ho0)) (Kd.R_base ho2)) (fun _ h_ => h_.1))
            have n3_ := Aside0.mk (Kd.R_lower (Kd.R_new' (Kd.R_new' ho0 (Kd.R_lt (ra_ HO156))) (Kd.R_lt (ra_ HO168))) (below_size bl_))
            have n4_ := Aside0.mk (Kd.R_lower (Kd.R_new' ho1 (Kd.R_lt (ra_ HO160))) (below_size bl_))
            have n5_ := Aside0.mk (Kd.R_lower (Kd.R_new' (Kd.R_new' ho2 (Kd.R_lt (ra_ HO156))) (Kd.R_lt (ra_ HO168))) (below_size bl_))
            have n6_ := Aside0.mk (blk_below (bk_ BK150) hb)
            have n7_ := Aside0.mk (blk_below (bk_ BK151) hb)
            have n8_ := Aside0.mk (below_step bl_ hb)
            clear HO156
            clear HO160
            clear HO168
            clear BK150
            clear BK151
            clear HB
            have HO156 := n0_
            have HO160 := n1_
            have HO168 := n2_
            have HO171 := n3_
            have HO175 := n4_
            have HO183 := n5_
            have BK150 := n6_
            have BK151 := n7_
            have HB := n8_
            clear n0_ n1_ n2_ n3_ n4_ n5_ n6_ n7_ n8_
            (try clear hb)
            (try clear hb2)
            (try clear hk)
            (try clear hi)
            (try clear ho0)
            (try clear ho1)
            (try clear ho2)
            obtain ⟨Ao42, co42, eo42⟩ := Kd.R_slice HO156.out
            (first | subst eo42 | (injection eo42 with f1_ f2_ f3_; have f4_ := f1_.symm; have f5_ := f3_.symm; clear f1_ f2_ f3_; subst f4_; subst f5_))
            obtain ⟨Ao43, co43, eo43⟩ := Kd.R_slice HO160.out
            (first | subst eo43 | (injection eo43 with f1_ f2_ f3_; have f4_ := f1_.symm; have f5_ := f3_.symm; clear f1_ f2_ f3_; subst f4_; subst f5_))
            obtain ⟨Ao44, co44, eo44⟩ := Kd.R_slice HO168.out
            (first | subst eo44 | (injection eo44 with f1_ f2_ f3_; have f4_ := f1_.symm; have f5_ := f3_.symm; clear f1_ f2_ f3_; subst f4_; subst f5_))
            obtain ⟨Ao45, co45, eo45⟩ := Kd.R_slice HO171.out
            (first | subst eo45 | (injection eo45 with f1_ f2_ f3_; have f4_ := f1_.symm; have f5_ := f3_.symm; clear f1_ f2_ f3_; subst f4_; subst f5_))
            obtain ⟨Ao46, co46, eo46⟩ := Kd.R_slice HO175.out
            (first | subst eo46 | (injection eo46 with f1_ f2_ f3_; have f4_ := f1_.symm; have f5_ := f3_.symm; clear f1_ f2_ f3_; subst f4_; subst f5_))
            obtain ⟨Ao47, co47, eo47⟩ := Kd.R_slice HO183.out
            (first | subst eo47 | (injection eo47 with f1_ f2_ f3_; have f4_ := f1_.symm; have f5_ := f3_.symm; clear f1_ f2_ f3_; subst f4_; subst f5_))
            refine hK.out _ _ ⟨(blk_cell BK150.out 0).trans rfl, (blk_cell BK150.out 1).trans rfl, (blk_cell BK150.out 2).trans rfl, (blk_cell BK150.out 3).trans rfl, (blk_cell BK150.out 4).trans rfl, (blk_cell BK150.out 5).trans rfl, (blk_cell BK150.out 6).trans rfl, (blk_cell BK150.out 7).trans rfl, (blk_cell BK150.out 8).trans rfl, (blk_cell BK151.out 0).trans rfl, (blk_cell BK151.out 1).trans rfl, (blk_cell BK151.out 2).trans rfl, (blk_cell BK151.out 3).trans rfl, (blk_cell BK151.out 4).trans rfl, (blk_cell BK151.out 5).trans rfl, (blk_cell BK151.out 6).trans rfl, (blk_cell BK151.out 7).trans rfl, (blk_cell BK151.out 8).trans rfl⟩ (fun hHeld => ?_)
            clear hK K
            refine norm_ (a' := ?_) ?_ ?_
            rotate_left
            · show Act.put _ (some 23) _ = _
              simp only [Act.put, List.setIfInBounds_toArray, List.set_cons_zero, List.set_cons_succ, i64_w, i32_w]
              rfl
            refine one_ (i := 4) (N := some 24) #[true, true, true, true, true, false] rfl rfl (by kernel_rfl) (by decide) (fun K hK => ?_)
            refine goes_ Try.func36 (by kernel_rfl) rfl #[.agg #[.slice Ao42 t154.length co42, .int .i64 t157, .slice Ao43 t158.length co43, .int .i64 t161, .int .i64 t162, .int .i64 t163, .int .i64 t164, .int .i64 t165, .slice Ao44 t166.length co44], .agg #[.slice Ao45 t169.length co45, .int .i64 t172, .slice Ao46 t173.length co46, .int .i64 t176, .int .i64 t177, .int .i64 t178, .int .i64 t179, .int .i64 t180, .slice Ao47 t181.length co47]] (by rfl) rfl rfl gl_ ?_
            with_reducible refine (spec_TaskSame.calls k _ _ t154 t157 _ _ t158 t161 t162 t163 t164 t165 _ _ t166 _ _ t169 t172 _ _ t173 t176 t177 t178 t179 t180 _ _ t181 t184 _ ?side1 ?side2 ?side3 ?side4 ?side5 ?side6 ?side7 ?side8 ?side9 ?side10 ?side11 ?side12 A21.out).mono ?_
            (case side1 => exact ca_ ((Kd.R_reads' HO156.out).2.2))
            (case side2 => exact (Kd.R_reads' HO156.out).2.1)
            (case side3 => exact ca_ ((Kd.R_reads' HO160.out).2.2))
            (case side4 => exact (Kd.R_reads' HO160.out).2.1)
            (case side5 => exact ca_ ((Kd.R_reads' HO168.out).2.2))
            (case side6 => exact (Kd.R_reads' HO168.out).2.1)
            (case side7 => exact ca_ ((Kd.R_reads' HO171.out).2.2))
            (case side8 => exact (Kd.R_reads' HO171.out).2.1)
            (case side9 => exact ca_ ((Kd.R_reads' HO175.out).2.2))
            (case side10 => exact (Kd.R_reads' HO175.out).2.1)
            (case side11 => exact ca_ ((Kd.R_reads' HO183.out).2.2))
            (case side12 => exact (Kd.R_reads' HO183.out).2.1)
            rintro e w48 ⟨rfl, hb⟩
            refine ⟨_, rfl, ?_⟩
            have n0_ := Aside0.mk (Kd.R_below (ra_ HO156) hb)
            have n1_ := Aside0.mk (Kd.R_below (ra_ HO160) hb)
            have n2_ := Aside0.mk (Kd.R_below (ra_ HO168) hb)
            have n3_ := Aside0.mk (Kd.R_below (ra_ HO171) hb)
            have n4_ := Aside0.mk (Kd.R_below (ra_ HO175) hb)
            have n5_ := Aside0.mk (Kd.R_below (ra_ HO183) hb)
            have n6_ := Aside0.mk (blk_below (bk_ BK150) hb)
            have n7_ := Aside0.mk (blk_below (bk_ BK151) hb)
            have n8_ := Aside0.mk (below_step bl_ hb)
            clear HO156
            clear HO160
            clear HO168
            clear HO171
            clear HO175
            clear HO183
            clear BK150
            clear BK151
            clear HB
            have HO156 := n0_
            have HO160 := n1_
            have HO168 := n2_
            have HO171 := n3_
            have HO175 := n4_
            have HO183 := n5_
            have BK150 := n6_
            have BK151 := n7_
            have HB := n8_
            clear n0_ n1_ n2_ n3_ n4_ n5_ n6_ n7_ n8_
            (try clear hb)
            (try clear hb2)
            (try clear hk)
            (try clear hi)
            refine hK.out _ _ ⟨(blk_cell BK150.out 0).trans rfl, (blk_cell BK150.out 1).trans rfl, (blk_cell BK150.out 2).trans rfl, (blk_cell BK150.out 3).trans rfl, (blk_cell BK150.out 4).trans rfl, (blk_cell BK150.out 5).trans rfl, (blk_cell BK150.out 6).trans rfl, (blk_cell BK150.out 7).trans rfl, (blk_cell BK150.out 8).trans rfl, (blk_cell BK151.out 0).trans rfl, (blk_cell BK151.out 1).trans rfl, (blk_cell BK151.out 2).trans rfl, (blk_cell BK151.out 3).trans rfl, (blk_cell BK151.out 4).trans rfl, (blk_cell BK151.out 5).trans rfl, (blk_cell BK151.out 6).trans rfl, (blk_cell BK151.out 7).trans rfl, (blk_cell BK151.out 8).trans rfl⟩ (fun hHeld => ?_)
            clear hK K
            refine norm_ (a' := ?_) ?_ ?_
            rotate_left
            · show Act.put _ (some 24) _ = _
              simp only [Act.put, List.setIfInBounds_toArray, List.set_cons_zero, List.set_cons_succ, i64_w, i32_w]
              rfl
            refine pure_ (i := 5) (N := some 6) (v := ?_) (a' := ?_) #[true, true, true, true, true, true] rfl rfl (by kernel_rfl) (fun _ _ _ h => h) (Or.inl ⟨by rfl, ?_⟩) ?_ ?_
            rotate_left
            · intro w'
              go_simp
              with_reducible rfl
            rotate_left
            · simp only [Act.put, List.setIfInBounds_toArray, List.set_cons_zero, List.set_cons_succ, i64_w, i32_w]
              rfl
            refine done_ (by kernel_rfl) ?_
            have hcz49_0 := cz_ BK150 0 (.slice A0_0 l0_0.length c0_0)
            have hcz49_1 := cz_ BK150 1 (.int .i64 a0_1)
            have hcz49_2 := cz_ BK150 2 (.slice A0_2 l0_2.length c0_2)
            have hcz49_3 := cz_ BK150 3 (.int .i64 a0_3)
            have hcz49_4 := cz_ BK150 4 (.int .i64 a0_4)
            have hcz49_5 := cz_ BK150 5 (.int .i64 a0_5)
            have hcz49_6 := cz_ BK150 6 (.int .i64 a0_6)
            have hcz49_7 := cz_ BK150 7 (.int .i64 a0_7)
            have hcz49_8 := cz_ BK150 8 (.slice A0_8 l0_8.length c0_8)
            have hfz49_0 := fz_ BK150 0
            have hfz49_1 := fz_ BK150 1
            have hfz49_2 := fz_ BK150 2
            have hfz49_3 := fz_ BK150 3
            have hfz49_4 := fz_ BK150 4
            have hfz49_5 := fz_ BK150 5
            have hfz49_6 := fz_ BK150 6
            have hfz49_7 := fz_ BK150 7
            have hfz49_8 := fz_ BK150 8
            try go_wp2_with (first | ((with_reducible refine gate_callee (f := 24) rfl ?_); refine goesL_ (some 26) rfl rfl Try.func24 (by kernel_rfl) rfl #[.agg #[.slice A0_0 l0_0.length c0_0, .int .i64 a0_1, .slice A0_2 l0_2.length c0_2, .int .i64 a0_3, .int .i64 a0_4, .int .i64 a0_5, .int .i64 a0_6, .int .i64 a0_7, .slice A0_8 l0_8.length c0_8]] rfl gl_ ?_; (with_reducible refine (laws_toTask.calls k _ _ l0_0 a0_1 _ _ l0_2 a0_3 a0_4 a0_5 a0_6 a0_7 _ _ l0_8 t185 t188 t189 t192 t193 t194 t195 t196 t197 _ ?side1 ?side2 ?side3 ?side4 ?side5 ?side6 A22.out).mono ?_); (case side1 => exact ca_ (Kd.C_below HR0_0.out HB.out)); (case side2 => exact HC0_0.out); (case side3 => exact ca_ (Kd.C_below HR0_2.out HB.out)); (case side4 => exact HC0_2.out); (case side5 => exact ca_ (Kd.C_below HR0_8.out HB.out)); (case side6 => exact HC0_8.out); rintro e w50 ⟨v186, v190, v198, rfl, ho0, ho1, ho2, hb⟩; refine ⟨_, rfl, ?_⟩; have n0_ := Aside0.mk (Kd.R_mono (Kd.R_told (Kd.R_told (Kd.R_old (ra_ HO156) hb) (Kd.R_base ho0)) (Kd.R_base ho2)) (fun _ h_ => h_.1)); have n1_ := Aside0.mk (Kd.R_elder' (ra_ HO160) (Kd.R_base ho1) hb); have n2_ := Aside0.mk (Kd.R_mono (Kd.R_told (Kd.R_told (Kd.R_old (ra_ HO168) hb) (Kd.R_base ho0)) (Kd.R_base ho2)) (fun _ h_ => h_.1)); have n3_ := Aside0.mk (Kd.R_mono (Kd.R_told (Kd.R_told (Kd.R_old (ra_ HO171) hb) (Kd.R_base ho0)) (Kd.R_base ho2)) (fun _ h_ => h_.1)); have n4_ := Aside0.mk (Kd.R_elder' (ra_ HO175) (Kd.R_base ho1) hb); have n5_ := Aside0.mk (Kd.R_mono (Kd.R_told (Kd.R_told (Kd.R_old (ra_ HO183) hb) (Kd.R_base ho0)) (Kd.R_base ho2)) (fun _ h_ => h_.1)); have n6_ := Aside0.mk (Kd.R_lower (Kd.R_new' (Kd.R_new' (Kd.R_new' (Kd.R_new' ho0 (Kd.R_lt (ra_ HO156))) (Kd.R_lt (ra_ HO168))) (Kd.R_lt (ra_ HO171))) (Kd.R_lt (ra_ HO183))) (below_size bl_)); have n7_ := Aside0.mk (Kd.R_lower (Kd.R_new' (Kd.R_new' ho1 (Kd.R_lt (ra_ HO160))) (Kd.R_lt (ra_ HO175))) (below_size bl_)); have n8_ := Aside0.mk (Kd.R_lower (Kd.R_new' (Kd.R_new' (Kd.R_new' (Kd.R_new' ho2 (Kd.R_lt (ra_ HO156))) (Kd.R_lt (ra_ HO168))) (Kd.R_lt (ra_ HO171))) (Kd.R_lt (ra_ HO183))) (below_size bl_)); have n9_ := Aside0.mk (blk_below (bk_ BK150) hb); have n10_ := Aside0.mk (blk_below (bk_ BK151) hb); have n11_ := Aside0.mk (below_step bl_ hb); clear HO156; clear HO160; clear HO168; clear HO171; clear HO175; clear HO183; clear BK150; clear BK151; clear HB; have HO156 := n0_; have HO160 := n1_; have HO168 := n2_; have HO171 := n3_; have HO175 := n4_; have HO183 := n5_; have HO187 := n6_; have HO191 := n7_; have HO199 := n8_; have BK150 := n9_; have BK151 := n10_; have HB := n11_; clear n0_ n1_ n2_ n3_ n4_ n5_ n6_ n7_ n8_ n9_ n10_ n11_; (try clear hb); (try clear hb2); (try clear hk); (try clear hi); (try clear ho0); (try clear ho1); (try clear ho2)) | ((with_reducible refine gate_dst (N := 7) rfl ?_); refine box_event ?hg (N := 7) ?hd (cs := #[.slice none 0 0, .int .i64 0, .slice none 0 0, .int .i64 0, .int .i64 0, .int .i64 0, .int .i64 0, .int .i64 0, .slice none 0 0]) (t := 36) ?hr ?_; (case hd => rfl); (case hg => rfl); (case hr => first | (go_simp; done) | (go_simp; rfl)); intro gb200 hg w51 hbox hb; have n0_ := Aside0.mk (Kd.R_below (ra_ HO156) hb); have n1_ := Aside0.mk (Kd.R_below (ra_ HO160) hb); have n2_ := Aside0.mk (Kd.R_below (ra_ HO168) hb); have n3_ := Aside0.mk (Kd.R_below (ra_ HO171) hb); have n4_ := Aside0.mk (Kd.R_below (ra_ HO175) hb); have n5_ := Aside0.mk (Kd.R_below (ra_ HO183) hb); have n6_ := Aside0.mk (Kd.R_below (ra_ HO187) hb); have n7_ := Aside0.mk (Kd.R_below (ra_ HO191) hb); have n8_ := Aside0.mk (Kd.R_below (ra_ HO199) hb); have n9_ := Aside0.mk (blk_below (bk_ BK150) hb); have n10_ := Aside0.mk (blk_below (bk_ BK151) hb); have n11_ := Aside0.mk (below_step bl_ hb); have n12_ := Aside0.mk (hbox); have n13_ := Aside0.mk ((by rw [hg]; exact (below_size bl_) : w.heap.size ≤ gb200)); have n14_ := Aside0.mk ((by rw [hg]; exact (below_size bl_) : w.heap.size ≤ gb200)); have n15_ := Aside0.mk ((by rw [hg]; exact Nat.ne_of_lt (blk_lt (bk_ BK150)) : gb150 ≠ gb200)); have n16_ := Aside0.mk ((by rw [hg]; exact Nat.ne_of_gt (blk_lt (bk_ BK150)) : gb200 ≠ gb150)); have n17_ := Aside0.mk ((by rw [hg]; exact Nat.ne_of_lt (blk_lt (bk_ BK151)) : gb151 ≠ gb200)); have n18_ := Aside0.mk ((by rw [hg]; exact Nat.ne_of_gt (blk_lt (bk_ BK151)) : gb200 ≠ gb151)); clear HO156; clear HO160; clear HO168; clear HO171; clear HO175; clear HO183; clear HO187; clear HO191; clear HO199; clear BK150; clear BK151; clear HB; have HO156 := n0_; have HO160 := n1_; have HO168 := n2_; have HO171 := n3_; have HO175 := n4_; have HO183 := n5_; have HO187 := n6_; have HO191 := n7_; have HO199 := n8_; have BK150 := n9_; have BK151 := n10_; have HB := n11_; have BK200 := n12_; have GW200 := n13_; have GE200 := n14_; have NB150_200 := n15_; have NB200_150 := n16_; have NB151_200 := n17_; have NB200_151 := n18_; clear n0_ n1_ n2_ n3_ n4_ n5_ n6_ n7_ n8_ n9_ n10_ n11_ n12_ n13_ n14_ n15_ n16_ n17_ n18_; clear hb hbox hg; obtain ⟨Ao52, co52, eo52⟩ := Kd.R_slice HO187.out; subst eo52; have hnb53 := NB200_150.out; have hnc53 := NB150_200.out; have hnb54 := NB200_151.out; have hnc54 := NB151_200.out; have hcz55_0 := cz_ BK200 0 (.slice none 0 0); have hcz55_1 := cz_ BK200 1 (.int .i64 0); have hcz55_2 := cz_ BK200 2 (.slice none 0 0); have hcz55_3 := cz_ BK200 3 (.int .i64 0); have hcz55_4 := cz_ BK200 4 (.int .i64 0); have hcz55_5 := cz_ BK200 5 (.int .i64 0); have hcz55_6 := cz_ BK200 6 (.int .i64 0); have hcz55_7 := cz_ BK200 7 (.int .i64 0); have hcz55_8 := cz_ BK200 8 (.slice none 0 0); have hfz55_0 := fz_ BK200 0; have hfz55_1 := fz_ BK200 1; have hfz55_2 := fz_ BK200 2; have hfz55_3 := fz_ BK200 3; have hfz55_4 := fz_ BK200 4; have hfz55_5 := fz_ BK200 5; have hfz55_6 := fz_ BK200 6; have hfz55_7 := fz_ BK200 7; have hfz55_8 := fz_ BK200 8; obtain ⟨Ao56, co56, eo56⟩ := Kd.R_slice HO191.out; subst eo56; obtain ⟨Ao57, co57, eo57⟩ := Kd.R_slice HO199.out; subst eo57; have hcz58_0 := cz_ BK151 0 (.slice A1_0 l1_0.length c1_0); have hcz58_1 := cz_ BK151 1 (.int .i64 a1_1); have hcz58_2 := cz_ BK151 2 (.slice A1_2 l1_2.length c1_2); have hcz58_3 := cz_ BK151 3 (.int .i64 a1_3); have hcz58_4 := cz_ BK151 4 (.int .i64 a1_4); have hcz58_5 := cz_ BK151 5 (.int .i64 a1_5); have hcz58_6 := cz_ BK151 6 (.int .i64 a1_6); have hcz58_7 := cz_ BK151 7 (.int .i64 a1_7); have hcz58_8 := cz_ BK151 8 (.slice A1_8 l1_8.length c1_8); have hfz58_0 := fz_ BK151 0; have hfz58_1 := fz_ BK151 1; have hfz58_2 := fz_ BK151 2; have hfz58_3 := fz_ BK151 3; have hfz58_4 := fz_ BK151 4; have hfz58_5 := fz_ BK151 5; have hfz58_6 := fz_ BK151 6; have hfz58_7 := fz_ BK151 7; have hfz58_8 := fz_ BK151 8) | ((with_reducible refine gate_callee (f := 24) rfl ?_); refine goesL_ (some 28) rfl rfl Try.func24 (by kernel_rfl) rfl #[.agg #[.slice A1_0 l1_0.length c1_0, .int .i64 a1_1, .slice A1_2 l1_2.length c1_2, .int .i64 a1_3, .int .i64 a1_4, .int .i64 a1_5, .int .i64 a1_6, .int .i64 a1_7, .slice A1_8 l1_8.length c1_8]] rfl gl_ ?_; (with_reducible refine (laws_toTask.calls k _ _ l1_0 a1_1 _ _ l1_2 a1_3 a1_4 a1_5 a1_6 a1_7 _ _ l1_8 t201 t204 t205 t208 t209 t210 t211 t212 t213 _ ?side1 ?side2 ?side3 ?side4 ?side5 ?side6 A23.out).mono ?_); (case side1 => exact Kd.C_below HR1_0.out bl_); (case side2 => exact HC1_0.out); (case side3 => exact Kd.C_below HR1_2.out bl_); (case side4 => exact HC1_2.out); (case side5 => exact Kd.C_below HR1_8.out bl_); (case side6 => exact HC1_8.out); rintro e w59 ⟨v202, v206, v214, rfl, ho0, ho1, ho2, hb⟩; refine ⟨_, rfl, ?_⟩; have n0_ := Aside0.mk (Kd.R_mono (Kd.R_told (Kd.R_told (Kd.R_old (by (with_reducible repeat (first | apply Kd.R_alloc | apply Kd.R_drewN | apply Kd.R_drew)); exact (Kd.R_mono (Kd.R_far (p := ⟨gb200, 8, none⟩) (Kd.R_far (p := ⟨gb200, 7, none⟩) (Kd.R_far (p := ⟨gb200, 6, none⟩) (Kd.R_far (p := ⟨gb200, 5, none⟩) (Kd.R_far (p := ⟨gb200, 4, none⟩) (Kd.R_far (p := ⟨gb200, 3, none⟩) (Kd.R_far (p := ⟨gb200, 2, none⟩) (Kd.R_far (p := ⟨gb200, 1, none⟩) (Kd.R_far (p := ⟨gb200, 0, none⟩) (Kd.R_types HO156.out BK200.out (by decide)) (fun _ hk => hk.2) (.slice Ao52 t185.length co52)) (fun _ hk => hk.2) (.int .i64 t188)) (fun _ hk => hk.2) (.slice Ao56 t189.length co56)) (fun _ hk => hk.2) (.int .i64 t192)) (fun _ hk => hk.2) (.int .i64 t193)) (fun _ hk => hk.2) (.int .i64 t194)) (fun _ hk => hk.2) (.int .i64 t195)) (fun _ hk => hk.2) (.int .i64 t196)) (fun _ hk => hk.2) (.slice Ao57 t197.length co57)) (fun _ h_ => h_.1))) hb) (Kd.R_base ho0)) (Kd.R_base ho2)) (fun _ h_ => h_.1)); have n1_ := Aside0.mk (Kd.R_elder' (by (with_reducible repeat (first | apply Kd.R_alloc | apply Kd.R_drewN | apply Kd.R_drew)); exact (Kd.R_mono (Kd.R_far (p := ⟨gb200, 8, none⟩) (Kd.R_far (p := ⟨gb200, 7, none⟩) (Kd.R_far (p := ⟨gb200, 6, none⟩) (Kd.R_far (p := ⟨gb200, 5, none⟩) (Kd.R_far (p := ⟨gb200, 4, none⟩) (Kd.R_far (p := ⟨gb200, 3, none⟩) (Kd.R_far (p := ⟨gb200, 2, none⟩) (Kd.R_far (p := ⟨gb200, 1, none⟩) (Kd.R_far (p := ⟨gb200, 0, none⟩) (Kd.R_types HO160.out BK200.out (by decide)) (fun _ hk => hk.2) (.slice Ao52 t185.length co52)) (fun _ hk => hk.2) (.int .i64 t188)) (fun _ hk => hk.2) (.slice Ao56 t189.length co56)) (fun _ hk => hk.2) (.int .i64 t192)) (fun _ hk => hk.2) (.int .i64 t193)) (fun _ hk => hk.2) (.int .i64 t194)) (fun _ hk => hk.2) (.int .i64 t195)) (fun _ hk => hk.2) (.int .i64 t196)) (fun _ hk => hk.2) (.slice Ao57 t197.length co57)) (fun _ h_ => h_.1))) (Kd.R_base ho1) hb); have n2_ := Aside0.mk (Kd.R_mono (Kd.R_told (Kd.R_told (Kd.R_old (by (with_reducible repeat (first | apply Kd.R_alloc | apply Kd.R_drewN | apply Kd.R_drew)); exact (Kd.R_mono (Kd.R_far (p := ⟨gb200, 8, none⟩) (Kd.R_far (p := ⟨gb200, 7, none⟩) (Kd.R_far (p := ⟨gb200, 6, none⟩) (Kd.R_far (p := ⟨gb200, 5, none⟩) (Kd.R_far (p := ⟨gb200, 4, none⟩) (Kd.R_far (p := ⟨gb200, 3, none⟩) (Kd.R_far (p := ⟨gb200, 2, none⟩) (Kd.R_far (p := ⟨gb200, 1, none⟩) (Kd.R_far (p := ⟨gb200, 0, none⟩) (Kd.R_types HO168.out BK200.out (by decide)) (fun _ hk => hk.2) (.slice Ao52 t185.length co52)) (fun _ hk => hk.2) (.int .i64 t188)) (fun _ hk => hk.2) (.slice Ao56 t189.length co56)) (fun _ hk => hk.2) (.int .i64 t192)) (fun _ hk => hk.2) (.int .i64 t193)) (fun _ hk => hk.2) (.int .i64 t194)) (fun _ hk => hk.2) (.int .i64 t195)) (fun _ hk => hk.2) (.int .i64 t196)) (fun _ hk => hk.2) (.slice Ao57 t197.length co57)) (fun _ h_ => h_.1))) hb) (Kd.R_base ho0)) (Kd.R_base ho2)) (fun _ h_ => h_.1)); have n3_ := Aside0.mk (Kd.R_mono (Kd.R_told (Kd.R_told (Kd.R_old (by (with_reducible repeat (first | apply Kd.R_alloc | apply Kd.R_drewN | apply Kd.R_drew)); exact (Kd.R_mono (Kd.R_far (p := ⟨gb200, 8, none⟩) (Kd.R_far (p := ⟨gb200, 7, none⟩) (Kd.R_far (p := ⟨gb200, 6, none⟩) (Kd.R_far (p := ⟨gb200, 5, none⟩) (Kd.R_far (p := ⟨gb200, 4, none⟩) (Kd.R_far (p := ⟨gb200, 3, none⟩) (Kd.R_far (p := ⟨gb200, 2, none⟩) (Kd.R_far (p := ⟨gb200, 1, none⟩) (Kd.R_far (p := ⟨gb200, 0, none⟩) (Kd.R_types HO171.out BK200.out (by decide)) (fun _ hk => hk.2) (.slice Ao52 t185.length co52)) (fun _ hk => hk.2) (.int .i64 t188)) (fun _ hk => hk.2) (.slice Ao56 t189.length co56)) (fun _ hk => hk.2) (.int .i64 t192)) (fun _ hk => hk.2) (.int .i64 t193)) (fun _ hk => hk.2) (.int .i64 t194)) (fun _ hk => hk.2) (.int .i64 t195)) (fun _ hk => hk.2) (.int .i64 t196)) (fun _ hk => hk.2) (.slice Ao57 t197.length co57)) (fun _ h_ => h_.1))) hb) (Kd.R_base ho0)) (Kd.R_base ho2)) (fun _ h_ => h_.1)); have n4_ := Aside0.mk (Kd.R_elder' (by (with_reducible repeat (first | apply Kd.R_alloc | apply Kd.R_drewN | apply Kd.R_drew)); exact (Kd.R_mono (Kd.R_far (p := ⟨gb200, 8, none⟩) (Kd.R_far (p := ⟨gb200, 7, none⟩) (Kd.R_far (p := ⟨gb200, 6, none⟩) (Kd.R_far (p := ⟨gb200, 5, none⟩) (Kd.R_far (p := ⟨gb200, 4, none⟩) (Kd.R_far (p := ⟨gb200, 3, none⟩) (Kd.R_far (p := ⟨gb200, 2, none⟩) (Kd.R_far (p := ⟨gb200, 1, none⟩) (Kd.R_far (p := ⟨gb200, 0, none⟩) (Kd.R_types HO175.out BK200.out (by decide)) (fun _ hk => hk.2) (.slice Ao52 t185.length co52)) (fun _ hk => hk.2) (.int .i64 t188)) (fun _ hk => hk.2) (.slice Ao56 t189.length co56)) (fun _ hk => hk.2) (.int .i64 t192)) (fun _ hk => hk.2) (.int .i64 t193)) (fun _ hk => hk.2) (.int .i64 t194)) (fun _ hk => hk.2) (.int .i64 t195)) (fun _ hk => hk.2) (.int .i64 t196)) (fun _ hk => hk.2) (.slice Ao57 t197.length co57)) (fun _ h_ => h_.1))) (Kd.R_base ho1) hb); have n5_ := Aside0.mk (Kd.R_mono (Kd.R_told (Kd.R_told (Kd.R_old (by (with_reducible repeat (first | apply Kd.R_alloc | apply Kd.R_drewN | apply Kd.R_drew)); exact (Kd.R_mono (Kd.R_far (p := ⟨gb200, 8, none⟩) (Kd.R_far (p := ⟨gb200, 7, none⟩) (Kd.R_far (p := ⟨gb200, 6, none⟩) (Kd.R_far (p := ⟨gb200, 5, none⟩) (Kd.R_far (p := ⟨gb200, 4, none⟩) (Kd.R_far (p := ⟨gb200, 3, none⟩) (Kd.R_far (p := ⟨gb200, 2, none⟩) (Kd.R_far (p := ⟨gb200, 1, none⟩) (Kd.R_far (p := ⟨gb200, 0, none⟩) (Kd.R_types HO183.out BK200.out (by decide)) (fun _ hk => hk.2) (.slice Ao52 t185.length co52)) (fun _ hk => hk.2) (.int .i64 t188)) (fun _ hk => hk.2) (.slice Ao56 t189.length co56)) (fun _ hk => hk.2) (.int .i64 t192)) (fun _ hk => hk.2) (.int .i64 t193)) (fun _ hk => hk.2) (.int .i64 t194)) (fun _ hk => hk.2) (.int .i64 t195)) (fun _ hk => hk.2) (.int .i64 t196)) (fun _ hk => hk.2) (.slice Ao57 t197.length co57)) (fun _ h_ => h_.1))) hb) (Kd.R_base ho0)) (Kd.R_base ho2)) (fun _ h_ => h_.1)); have n6_ := Aside0.mk (Kd.R_mono (Kd.R_told (Kd.R_told (Kd.R_old (by (with_reducible repeat (first | apply Kd.R_alloc | apply Kd.R_drewN | apply Kd.R_drew)); exact (Kd.R_mono (Kd.R_far (p := ⟨gb200, 8, none⟩) (Kd.R_far (p := ⟨gb200, 7, none⟩) (Kd.R_far (p := ⟨gb200, 6, none⟩) (Kd.R_far (p := ⟨gb200, 5, none⟩) (Kd.R_far (p := ⟨gb200, 4, none⟩) (Kd.R_far (p := ⟨gb200, 3, none⟩) (Kd.R_far (p := ⟨gb200, 2, none⟩) (Kd.R_far (p := ⟨gb200, 1, none⟩) (Kd.R_far (p := ⟨gb200, 0, none⟩) (Kd.R_types HO187.out BK200.out (by decide)) (fun _ hk => hk.2) (.slice Ao52 t185.length co52)) (fun _ hk => hk.2) (.int .i64 t188)) (fun _ hk => hk.2) (.slice Ao56 t189.length co56)) (fun _ hk => hk.2) (.int .i64 t192)) (fun _ hk => hk.2) (.int .i64 t193)) (fun _ hk => hk.2) (.int .i64 t194)) (fun _ hk => hk.2) (.int .i64 t195)) (fun _ hk => hk.2) (.int .i64 t196)) (fun _ hk => hk.2) (.slice Ao57 t197.length co57)) (fun _ h_ => h_.1))) hb) (Kd.R_base ho0)) (Kd.R_base ho2)) (fun _ h_ => h_.1)); have n7_ := Aside0.mk (Kd.R_elder' (by (with_reducible repeat (first | apply Kd.R_alloc | apply Kd.R_drewN | apply Kd.R_drew)); exact (Kd.R_mono (Kd.R_far (p := ⟨gb200, 8, none⟩) (Kd.R_far (p := ⟨gb200, 7, none⟩) (Kd.R_far (p := ⟨gb200, 6, none⟩) (Kd.R_far (p := ⟨gb200, 5, none⟩) (Kd.R_far (p := ⟨gb200, 4, none⟩) (Kd.R_far (p := ⟨gb200, 3, none⟩) (Kd.R_far (p := ⟨gb200, 2, none⟩) (Kd.R_far (p := ⟨gb200, 1, none⟩) (Kd.R_far (p := ⟨gb200, 0, none⟩) (Kd.R_types HO191.out BK200.out (by decide)) (fun _ hk => hk.2) (.slice Ao52 t185.length co52)) (fun _ hk => hk.2) (.int .i64 t188)) (fun _ hk => hk.2) (.slice Ao56 t189.length co56)) (fun _ hk => hk.2) (.int .i64 t192)) (fun _ hk => hk.2) (.int .i64 t193)) (fun _ hk => hk.2) (.int .i64 t194)) (fun _ hk => hk.2) (.int .i64 t195)) (fun _ hk => hk.2) (.int .i64 t196)) (fun _ hk => hk.2) (.slice Ao57 t197.length co57)) (fun _ h_ => h_.1))) (Kd.R_base ho1) hb); have n8_ := Aside0.mk (Kd.R_mono (Kd.R_told (Kd.R_told (Kd.R_old (by (with_reducible repeat (first | apply Kd.R_alloc | apply Kd.R_drewN | apply Kd.R_drew)); exact (Kd.R_mono (Kd.R_far (p := ⟨gb200, 8, none⟩) (Kd.R_far (p := ⟨gb200, 7, none⟩) (Kd.R_far (p := ⟨gb200, 6, none⟩) (Kd.R_far (p := ⟨gb200, 5, none⟩) (Kd.R_far (p := ⟨gb200, 4, none⟩) (Kd.R_far (p := ⟨gb200, 3, none⟩) (Kd.R_far (p := ⟨gb200, 2, none⟩) (Kd.R_far (p := ⟨gb200, 1, none⟩) (Kd.R_far (p := ⟨gb200, 0, none⟩) (Kd.R_types HO199.out BK200.out (by decide)) (fun _ hk => hk.2) (.slice Ao52 t185.length co52)) (fun _ hk => hk.2) (.int .i64 t188)) (fun _ hk => hk.2) (.slice Ao56 t189.length co56)) (fun _ hk => hk.2) (.int .i64 t192)) (fun _ hk => hk.2) (.int .i64 t193)) (fun _ hk => hk.2) (.int .i64 t194)) (fun _ hk => hk.2) (.int .i64 t195)) (fun _ hk => hk.2) (.int .i64 t196)) (fun _ hk => hk.2) (.slice Ao57 t197.length co57)) (fun _ h_ => h_.1))) hb) (Kd.R_base ho0)) (Kd.R_base ho2)) (fun _ h_ => h_.1)); have n9_ := Aside0.mk (Kd.R_lower (Kd.R_new' (Kd.R_new' (Kd.R_new' (Kd.R_new' (Kd.R_new' (Kd.R_new' ho0 (Kd.R_lt (by (with_reducible repeat (first | apply Kd.R_alloc | apply Kd.R_drewN | apply Kd.R_drew)); exact (Kd.R_mono (Kd.R_far (p := ⟨gb200, 8, none⟩) (Kd.R_far (p := ⟨gb200, 7, none⟩) (Kd.R_far (p := ⟨gb200, 6, none⟩) (Kd.R_far (p := ⟨gb200, 5, none⟩) (Kd.R_far (p := ⟨gb200, 4, none⟩) (Kd.R_far (p := ⟨gb200, 3, none⟩) (Kd.R_far (p := ⟨gb200, 2, none⟩) (Kd.R_far (p := ⟨gb200, 1, none⟩) (Kd.R_far (p := ⟨gb200, 0, none⟩) (Kd.R_types HO156.out BK200.out (by decide)) (fun _ hk => hk.2) (.slice Ao52 t185.length co52)) (fun _ hk => hk.2) (.int .i64 t188)) (fun _ hk => hk.2) (.slice Ao56 t189.length co56)) (fun _ hk => hk.2) (.int .i64 t192)) (fun _ hk => hk.2) (.int .i64 t193)) (fun _ hk => hk.2) (.int .i64 t194)) (fun _ hk => hk.2) (.int .i64 t195)) (fun _ hk => hk.2) (.int .i64 t196)) (fun _ hk => hk.2) (.slice Ao57 t197.length co57)) (fun _ h_ => h_.1))))) (Kd.R_lt (by (with_reducible repeat (first | apply Kd.R_alloc | apply Kd.R_drewN | apply Kd.R_drew)); exact (Kd.R_mono (Kd.R_far (p := ⟨gb200, 8, none⟩) (Kd.R_far (p := ⟨gb200, 7, none⟩) (Kd.R_far (p := ⟨gb200, 6, none⟩) (Kd.R_far (p := ⟨gb200, 5, none⟩) (Kd.R_far (p := ⟨gb200, 4, none⟩) (Kd.R_far (p := ⟨gb200, 3, none⟩) (Kd.R_far (p := ⟨gb200, 2, none⟩) (Kd.R_far (p := ⟨gb200, 1, none⟩) (Kd.R_far (p := ⟨gb200, 0, none⟩) (Kd.R_types HO168.out BK200.out (by decide)) (fun _ hk => hk.2) (.slice Ao52 t185.length co52)) (fun _ hk => hk.2) (.int .i64 t188)) (fun _ hk => hk.2) (.slice Ao56 t189.length co56)) (fun _ hk => hk.2) (.int .i64 t192)) (fun _ hk => hk.2) (.int .i64 t193)) (fun _ hk => hk.2) (.int .i64 t194)) (fun _ hk => hk.2) (.int .i64 t195)) (fun _ hk => hk.2) (.int .i64 t196)) (fun _ hk => hk.2) (.slice Ao57 t197.length co57)) (fun _ h_ => h_.1))))) (Kd.R_lt (by (with_reducible repeat (first | apply Kd.R_alloc | apply Kd.R_drewN | apply Kd.R_drew)); exact (Kd.R_mono (Kd.R_far (p := ⟨gb200, 8, none⟩) (Kd.R_far (p := ⟨gb200, 7, none⟩) (Kd.R_far (p := ⟨gb200, 6, none⟩) (Kd.R_far (p := ⟨gb200, 5, none⟩) (Kd.R_far (p := ⟨gb200, 4, none⟩) (Kd.R_far (p := ⟨gb200, 3, none⟩) (Kd.R_far (p := ⟨gb200, 2, none⟩) (Kd.R_far (p := ⟨gb200, 1, none⟩) (Kd.R_far (p := ⟨gb200, 0, none⟩) (Kd.R_types HO171.out BK200.out (by decide)) (fun _ hk => hk.2) (.slice Ao52 t185.length co52)) (fun _ hk => hk.2) (.int .i64 t188)) (fun _ hk => hk.2) (.slice Ao56 t189.length co56)) (fun _ hk => hk.2) (.int .i64 t192)) (fun _ hk => hk.2) (.int .i64 t193)) (fun _ hk => hk.2) (.int .i64 t194)) (fun _ hk => hk.2) (.int .i64 t195)) (fun _ hk => hk.2) (.int .i64 t196)) (fun _ hk => hk.2) (.slice Ao57 t197.length co57)) (fun _ h_ => h_.1))))) (Kd.R_lt (by (with_reducible repeat (first | apply Kd.R_alloc | apply Kd.R_drewN | apply Kd.R_drew)); exact (Kd.R_mono (Kd.R_far (p := ⟨gb200, 8, none⟩) (Kd.R_far (p := ⟨gb200, 7, none⟩) (Kd.R_far (p := ⟨gb200, 6, none⟩) (Kd.R_far (p := ⟨gb200, 5, none⟩) (Kd.R_far (p := ⟨gb200, 4, none⟩) (Kd.R_far (p := ⟨gb200, 3, none⟩) (Kd.R_far (p := ⟨gb200, 2, none⟩) (Kd.R_far (p := ⟨gb200, 1, none⟩) (Kd.R_far (p := ⟨gb200, 0, none⟩) (Kd.R_types HO183.out BK200.out (by decide)) (fun _ hk => hk.2) (.slice Ao52 t185.length co52)) (fun _ hk => hk.2) (.int .i64 t188)) (fun _ hk => hk.2) (.slice Ao56 t189.length co56)) (fun _ hk => hk.2) (.int .i64 t192)) (fun _ hk => hk.2) (.int .i64 t193)) (fun _ hk => hk.2) (.int .i64 t194)) (fun _ hk => hk.2) (.int .i64 t195)) (fun _ hk => hk.2) (.int .i64 t196)) (fun _ hk => hk.2) (.slice Ao57 t197.length co57)) (fun _ h_ => h_.1))))) (Kd.R_lt (by (with_reducible repeat (first | apply Kd.R_alloc | apply Kd.R_drewN | apply Kd.R_drew)); exact (Kd.R_mono (Kd.R_far (p := ⟨gb200, 8, none⟩) (Kd.R_far (p := ⟨gb200, 7, none⟩) (Kd.R_far (p := ⟨gb200, 6, none⟩) (Kd.R_far (p := ⟨gb200, 5, none⟩) (Kd.R_far (p := ⟨gb200, 4, none⟩) (Kd.R_far (p := ⟨gb200, 3, none⟩) (Kd.R_far (p := ⟨gb200, 2, none⟩) (Kd.R_far (p := ⟨gb200, 1, none⟩) (Kd.R_far (p := ⟨gb200, 0, none⟩) (Kd.R_types HO187.out BK200.out (by decide)) (fun _ hk => hk.2) (.slice Ao52 t185.length co52)) (fun _ hk => hk.2) (.int .i64 t188)) (fun _ hk => hk.2) (.slice Ao56 t189.length co56)) (fun _ hk => hk.2) (.int .i64 t192)) (fun _ hk => hk.2) (.int .i64 t193)) (fun _ hk => hk.2) (.int .i64 t194)) (fun _ hk => hk.2) (.int .i64 t195)) (fun _ hk => hk.2) (.int .i64 t196)) (fun _ hk => hk.2) (.slice Ao57 t197.length co57)) (fun _ h_ => h_.1))))) (Kd.R_lt (by (with_reducible repeat (first | apply Kd.R_alloc | apply Kd.R_drewN | apply Kd.R_drew)); exact (Kd.R_mono (Kd.R_far (p := ⟨gb200, 8, none⟩) (Kd.R_far (p := ⟨gb200, 7, none⟩) (Kd.R_far (p := ⟨gb200, 6, none⟩) (Kd.R_far (p := ⟨gb200, 5, none⟩) (Kd.R_far (p := ⟨gb200, 4, none⟩) (Kd.R_far (p := ⟨gb200, 3, none⟩) (Kd.R_far (p := ⟨gb200, 2, none⟩) (Kd.R_far (p := ⟨gb200, 1, none⟩) (Kd.R_far (p := ⟨gb200, 0, none⟩) (Kd.R_types HO199.out BK200.out (by decide)) (fun _ hk => hk.2) (.slice Ao52 t185.length co52)) (fun _ hk => hk.2) (.int .i64 t188)) (fun _ hk => hk.2) (.slice Ao56 t189.length co56)) (fun _ hk => hk.2) (.int .i64 t192)) (fun _ hk => hk.2) (.int .i64 t193)) (fun _ hk => hk.2) (.int .i64 t194)) (fun _ hk => hk.2) (.int .i64 t195)) (fun _ hk => hk.2) (.int .i64 t196)) (fun _ hk => hk.2) (.slice Ao57 t197.length co57)) (fun _ h_ => h_.1))))) (below_size bl_)); have n10_ := Aside0.mk (Kd.R_lower (Kd.R_new' (Kd.R_new' (Kd.R_new' ho1 (Kd.R_lt (by (with_reducible repeat (first | apply Kd.R_alloc | apply Kd.R_drewN | apply Kd.R_drew)); exact (Kd.R_mono (Kd.R_far (p := ⟨gb200, 8, none⟩) (Kd.R_far (p := ⟨gb200, 7, none⟩) (Kd.R_far (p := ⟨gb200, 6, none⟩) (Kd.R_far (p := ⟨gb200, 5, none⟩) (Kd.R_far (p := ⟨gb200, 4, none⟩) (Kd.R_far (p := ⟨gb200, 3, none⟩) (Kd.R_far (p := ⟨gb200, 2, none⟩) (Kd.R_far (p := ⟨gb200, 1, none⟩) (Kd.R_far (p := ⟨gb200, 0, none⟩) (Kd.R_types HO160.out BK200.out (by decide)) (fun _ hk => hk.2) (.slice Ao52 t185.length co52)) (fun _ hk => hk.2) (.int .i64 t188)) (fun _ hk => hk.2) (.slice Ao56 t189.length co56)) (fun _ hk => hk.2) (.int .i64 t192)) (fun _ hk => hk.2) (.int .i64 t193)) (fun _ hk => hk.2) (.int .i64 t194)) (fun _ hk => hk.2) (.int .i64 t195)) (fun _ hk => hk.2) (.int .i64 t196)) (fun _ hk => hk.2) (.slice Ao57 t197.length co57)) (fun _ h_ => h_.1))))) (Kd.R_lt (by (with_reducible repeat (first | apply Kd.R_alloc | apply Kd.R_drewN | apply Kd.R_drew)); exact (Kd.R_mono (Kd.R_far (p := ⟨gb200, 8, none⟩) (Kd.R_far (p := ⟨gb200, 7, none⟩) (Kd.R_far (p := ⟨gb200, 6, none⟩) (Kd.R_far (p := ⟨gb200, 5, none⟩) (Kd.R_far (p := ⟨gb200, 4, none⟩) (Kd.R_far (p := ⟨gb200, 3, none⟩) (Kd.R_far (p := ⟨gb200, 2, none⟩) (Kd.R_far (p := ⟨gb200, 1, none⟩) (Kd.R_far (p := ⟨gb200, 0, none⟩) (Kd.R_types HO175.out BK200.out (by decide)) (fun _ hk => hk.2) (.slice Ao52 t185.length co52)) (fun _ hk => hk.2) (.int .i64 t188)) (fun _ hk => hk.2) (.slice Ao56 t189.length co56)) (fun _ hk => hk.2) (.int .i64 t192)) (fun _ hk => hk.2) (.int .i64 t193)) (fun _ hk => hk.2) (.int .i64 t194)) (fun _ hk => hk.2) (.int .i64 t195)) (fun _ hk => hk.2) (.int .i64 t196)) (fun _ hk => hk.2) (.slice Ao57 t197.length co57)) (fun _ h_ => h_.1))))) (Kd.R_lt (by (with_reducible repeat (first | apply Kd.R_alloc | apply Kd.R_drewN | apply Kd.R_drew)); exact (Kd.R_mono (Kd.R_far (p := ⟨gb200, 8, none⟩) (Kd.R_far (p := ⟨gb200, 7, none⟩) (Kd.R_far (p := ⟨gb200, 6, none⟩) (Kd.R_far (p := ⟨gb200, 5, none⟩) (Kd.R_far (p := ⟨gb200, 4, none⟩) (Kd.R_far (p := ⟨gb200, 3, none⟩) (Kd.R_far (p := ⟨gb200, 2, none⟩) (Kd.R_far (p := ⟨gb200, 1, none⟩) (Kd.R_far (p := ⟨gb200, 0, none⟩) (Kd.R_types HO191.out BK200.out (by decide)) (fun _ hk => hk.2) (.slice Ao52 t185.length co52)) (fun _ hk => hk.2) (.int .i64 t188)) (fun _ hk => hk.2) (.slice Ao56 t189.length co56)) (fun _ hk => hk.2) (.int .i64 t192)) (fun _ hk => hk.2) (.int .i64 t193)) (fun _ hk => hk.2) (.int .i64 t194)) (fun _ hk => hk.2) (.int .i64 t195)) (fun _ hk => hk.2) (.int .i64 t196)) (fun _ hk => hk.2) (.slice Ao57 t197.length co57)) (fun _ h_ => h_.1))))) (below_size bl_)); have n11_ := Aside0.mk (Kd.R_lower (Kd.R_new' (Kd.R_new' (Kd.R_new' (Kd.R_new' (Kd.R_new' (Kd.R_new' ho2 (Kd.R_lt (by (with_reducible repeat (first | apply Kd.R_alloc | apply Kd.R_drewN | apply Kd.R_drew)); exact (Kd.R_mono (Kd.R_far (p := ⟨gb200, 8, none⟩) (Kd.R_far (p := ⟨gb200, 7, none⟩) (Kd.R_far (p := ⟨gb200, 6, none⟩) (Kd.R_far (p := ⟨gb200, 5, none⟩) (Kd.R_far (p := ⟨gb200, 4, none⟩) (Kd.R_far (p := ⟨gb200, 3, none⟩) (Kd.R_far (p := ⟨gb200, 2, none⟩) (Kd.R_far (p := ⟨gb200, 1, none⟩) (Kd.R_far (p := ⟨gb200, 0, none⟩) (Kd.R_types HO156.out BK200.out (by decide)) (fun _ hk => hk.2) (.slice Ao52 t185.length co52)) (fun _ hk => hk.2) (.int .i64 t188)) (fun _ hk => hk.2) (.slice Ao56 t189.length co56)) (fun _ hk => hk.2) (.int .i64 t192)) (fun _ hk => hk.2) (.int .i64 t193)) (fun _ hk => hk.2) (.int .i64 t194)) (fun _ hk => hk.2) (.int .i64 t195)) (fun _ hk => hk.2) (.int .i64 t196)) (fun _ hk => hk.2) (.slice Ao57 t197.length co57)) (fun _ h_ => h_.1))))) (Kd.R_lt (by (with_reducible repeat (first | apply Kd.R_alloc | apply Kd.R_drewN | apply Kd.R_drew)); exact (Kd.R_mono (Kd.R_far (p := ⟨gb200, 8, none⟩) (Kd.R_far (p := ⟨gb200, 7, none⟩) (Kd.R_far (p := ⟨gb200, 6, none⟩) (Kd.R_far (p := ⟨gb200, 5, none⟩) (Kd.R_far (p := ⟨gb200, 4, none⟩) (Kd.R_far (p := ⟨gb200, 3, none⟩) (Kd.R_far (p := ⟨gb200, 2, none⟩) (Kd.R_far (p := ⟨gb200, 1, none⟩) (Kd.R_far (p := ⟨gb200, 0, none⟩) (Kd.R_types HO168.out BK200.out (by decide)) (fun _ hk => hk.2) (.slice Ao52 t185.length co52)) (fun _ hk => hk.2) (.int .i64 t188)) (fun _ hk => hk.2) (.slice Ao56 t189.length co56)) (fun _ hk => hk.2) (.int .i64 t192)) (fun _ hk => hk.2) (.int .i64 t193)) (fun _ hk => hk.2) (.int .i64 t194)) (fun _ hk => hk.2) (.int .i64 t195)) (fun _ hk => hk.2) (.int .i64 t196)) (fun _ hk => hk.2) (.slice Ao57 t197.length co57)) (fun _ h_ => h_.1))))) (Kd.R_lt (by (with_reducible repeat (first | apply Kd.R_alloc | apply Kd.R_drewN | apply Kd.R_drew)); exact (Kd.R_mono (Kd.R_far (p := ⟨gb200, 8, none⟩) (Kd.R_far (p := ⟨gb200, 7, none⟩) (Kd.R_far (p := ⟨gb200, 6, none⟩) (Kd.R_far (p := ⟨gb200, 5, none⟩) (Kd.R_far (p := ⟨gb200, 4, none⟩) (Kd.R_far (p := ⟨gb200, 3, none⟩) (Kd.R_far (p := ⟨gb200, 2, none⟩) (Kd.R_far (p := ⟨gb200, 1, none⟩) (Kd.R_far (p := ⟨gb200, 0, none⟩) (Kd.R_types HO171.out BK200.out (by decide)) (fun _ hk => hk.2) (.slice Ao52 t185.length co52)) (fun _ hk => hk.2) (.int .i64 t188)) (fun _ hk => hk.2) (.slice Ao56 t189.length co56)) (fun _ hk => hk.2) (.int .i64 t192)) (fun _ hk => hk.2) (.int .i64 t193)) (fun _ hk => hk.2) (.int .i64 t194)) (fun _ hk => hk.2) (.int .i64 t195)) (fun _ hk => hk.2) (.int .i64 t196)) (fun _ hk => hk.2) (.slice Ao57 t197.length co57)) (fun _ h_ => h_.1))))) (Kd.R_lt (by (with_reducible repeat (first | apply Kd.R_alloc | apply Kd.R_drewN | apply Kd.R_drew)); exact (Kd.R_mono (Kd.R_far (p := ⟨gb200, 8, none⟩) (Kd.R_far (p := ⟨gb200, 7, none⟩) (Kd.R_far (p := ⟨gb200, 6, none⟩) (Kd.R_far (p := ⟨gb200, 5, none⟩) (Kd.R_far (p := ⟨gb200, 4, none⟩) (Kd.R_far (p := ⟨gb200, 3, none⟩) (Kd.R_far (p := ⟨gb200, 2, none⟩) (Kd.R_far (p := ⟨gb200, 1, none⟩) (Kd.R_far (p := ⟨gb200, 0, none⟩) (Kd.R_types HO183.out BK200.out (by decide)) (fun _ hk => hk.2) (.slice Ao52 t185.length co52)) (fun _ hk => hk.2) (.int .i64 t188)) (fun _ hk => hk.2) (.slice Ao56 t189.length co56)) (fun _ hk => hk.2) (.int .i64 t192)) (fun _ hk => hk.2) (.int .i64 t193)) (fun _ hk => hk.2) (.int .i64 t194)) (fun _ hk => hk.2) (.int .i64 t195)) (fun _ hk => hk.2) (.int .i64 t196)) (fun _ hk => hk.2) (.slice Ao57 t197.length co57)) (fun _ h_ => h_.1))))) (Kd.R_lt (by (with_reducible repeat (first | apply Kd.R_alloc | apply Kd.R_drewN | apply Kd.R_drew)); exact (Kd.R_mono (Kd.R_far (p := ⟨gb200, 8, none⟩) (Kd.R_far (p := ⟨gb200, 7, none⟩) (Kd.R_far (p := ⟨gb200, 6, none⟩) (Kd.R_far (p := ⟨gb200, 5, none⟩) (Kd.R_far (p := ⟨gb200, 4, none⟩) (Kd.R_far (p := ⟨gb200, 3, none⟩) (Kd.R_far (p := ⟨gb200, 2, none⟩) (Kd.R_far (p := ⟨gb200, 1, none⟩) (Kd.R_far (p := ⟨gb200, 0, none⟩) (Kd.R_types HO187.out BK200.out (by decide)) (fun _ hk => hk.2) (.slice Ao52 t185.length co52)) (fun _ hk => hk.2) (.int .i64 t188)) (fun _ hk => hk.2) (.slice Ao56 t189.length co56)) (fun _ hk => hk.2) (.int .i64 t192)) (fun _ hk => hk.2) (.int .i64 t193)) (fun _ hk => hk.2) (.int .i64 t194)) (fun _ hk => hk.2) (.int .i64 t195)) (fun _ hk => hk.2) (.int .i64 t196)) (fun _ hk => hk.2) (.slice Ao57 t197.length co57)) (fun _ h_ => h_.1))))) (Kd.R_lt (by (with_reducible repeat (first | apply Kd.R_alloc | apply Kd.R_drewN | apply Kd.R_drew)); exact (Kd.R_mono (Kd.R_far (p := ⟨gb200, 8, none⟩) (Kd.R_far (p := ⟨gb200, 7, none⟩) (Kd.R_far (p := ⟨gb200, 6, none⟩) (Kd.R_far (p := ⟨gb200, 5, none⟩) (Kd.R_far (p := ⟨gb200, 4, none⟩) (Kd.R_far (p := ⟨gb200, 3, none⟩) (Kd.R_far (p := ⟨gb200, 2, none⟩) (Kd.R_far (p := ⟨gb200, 1, none⟩) (Kd.R_far (p := ⟨gb200, 0, none⟩) (Kd.R_types HO199.out BK200.out (by decide)) (fun _ hk => hk.2) (.slice Ao52 t185.length co52)) (fun _ hk => hk.2) (.int .i64 t188)) (fun _ hk => hk.2) (.slice Ao56 t189.length co56)) (fun _ hk => hk.2) (.int .i64 t192)) (fun _ hk => hk.2) (.int .i64 t193)) (fun _ hk => hk.2) (.int .i64 t194)) (fun _ hk => hk.2) (.int .i64 t195)) (fun _ hk => hk.2) (.int .i64 t196)) (fun _ hk => hk.2) (.slice Ao57 t197.length co57)) (fun _ h_ => h_.1))))) (below_size bl_)); have n12_ := Aside0.mk (blk_below (g := gb150) (o := .cells #[.slice A0_0 l0_0.length c0_0, .int .i64 a0_1, .slice A0_2 l0_2.length c0_2, .int .i64 a0_3, .int .i64 a0_4, .int .i64 a0_5, .int .i64 a0_6, .int .i64 a0_7, .slice A0_8 l0_8.length c0_8] 33 (0, 0)) (by (with_reducible repeat (first | refine blk_drewN ?_ _ | refine blk_drew ?_ | refine blk_alloc ?_ _)); refine blk_far ?_ NB150_200.out _; (with_reducible repeat (first | refine blk_drewN ?_ _ | refine blk_drew ?_ | refine blk_alloc ?_ _)); refine blk_far ?_ NB150_200.out _; (with_reducible repeat (first | refine blk_drewN ?_ _ | refine blk_drew ?_ | refine blk_alloc ?_ _)); refine blk_far ?_ NB150_200.out _; (with_reducible repeat (first | refine blk_drewN ?_ _ | refine blk_drew ?_ | refine blk_alloc ?_ _)); refine blk_far ?_ NB150_200.out _; (with_reducible repeat (first | refine blk_drewN ?_ _ | refine blk_drew ?_ | refine blk_alloc ?_ _)); refine blk_far ?_ NB150_200.out _; (with_reducible repeat (first | refine blk_drewN ?_ _ | refine blk_drew ?_ | refine blk_alloc ?_ _)); refine blk_far ?_ NB150_200.out _; (with_reducible repeat (first | refine blk_drewN ?_ _ | refine blk_drew ?_ | refine blk_alloc ?_ _)); refine blk_far ?_ NB150_200.out _; (with_reducible repeat (first | refine blk_drewN ?_ _ | refine blk_drew ?_ | refine blk_alloc ?_ _)); refine blk_far ?_ NB150_200.out _; (with_reducible repeat (first | refine blk_drewN ?_ _ | refine blk_drew ?_ | refine blk_alloc ?_ _)); refine blk_far ?_ NB150_200.out _; (with_reducible repeat (first | refine blk_drewN ?_ _ | refine blk_drew ?_ | refine blk_alloc ?_ _)); exact BK150.out) hb); have n13_ := Aside0.mk (blk_below (g := gb151) (o := .cells #[.slice A1_0 l1_0.length c1_0, .int .i64 a1_1, .slice A1_2 l1_2.length c1_2, .int .i64 a1_3, .int .i64 a1_4, .int .i64 a1_5, .int .i64 a1_6, .int .i64 a1_7, .slice A1_8 l1_8.length c1_8] 33 (0, 0)) (by (with_reducible repeat (first | refine blk_drewN ?_ _ | refine blk_drew ?_ | refine blk_alloc ?_ _)); refine blk_far ?_ NB151_200.out _; (with_reducible repeat (first | refine blk_drewN ?_ _ | refine blk_drew ?_ | refine blk_alloc ?_ _)); refine blk_far ?_ NB151_200.out _; (with_reducible repeat (first | refine blk_drewN ?_ _ | refine blk_drew ?_ | refine blk_alloc ?_ _)); refine blk_far ?_ NB151_200.out _; (with_reducible repeat (first | refine blk_drewN ?_ _ | refine blk_drew ?_ | refine blk_alloc ?_ _)); refine blk_far ?_ NB151_200.out _; (with_reducible repeat (first | refine blk_drewN ?_ _ | refine blk_drew ?_ | refine blk_alloc ?_ _)); refine blk_far ?_ NB151_200.out _; (with_reducible repeat (first | refine blk_drewN ?_ _ | refine blk_drew ?_ | refine blk_alloc ?_ _)); refine blk_far ?_ NB151_200.out _; (with_reducible repeat (first | refine blk_drewN ?_ _ | refine blk_drew ?_ | refine blk_alloc ?_ _)); refine blk_far ?_ NB151_200.out _; (with_reducible repeat (first | refine blk_drewN ?_ _ | refine blk_drew ?_ | refine blk_alloc ?_ _)); refine blk_far ?_ NB151_200.out _; (with_reducible repeat (first | refine blk_drewN ?_ _ | refine blk_drew ?_ | refine blk_alloc ?_ _)); refine blk_far ?_ NB151_200.out _; (with_reducible repeat (first | refine blk_drewN ?_ _ | refine blk_drew ?_ | refine blk_alloc ?_ _)); exact BK151.out) hb); have n14_ := Aside0.mk (blk_below (g := gb200) (o := .cells #[.slice Ao52 t185.length co52, .int .i64 t188, .slice Ao56 t189.length co56, .int .i64 t192, .int .i64 t193, .int .i64 t194, .int .i64 t195, .int .i64 t196, .slice Ao57 t197.length co57] 36 (0, 0)) (by (with_reducible repeat (first | refine blk_drewN ?_ _ | refine blk_drew ?_ | refine blk_alloc ?_ _)); refine blk_put (cs := #[.slice Ao52 t185.length co52, .int .i64 t188, .slice Ao56 t189.length co56, .int .i64 t192, .int .i64 t193, .int .i64 t194, .int .i64 t195, .int .i64 t196, .slice none 0 0]) ?_ 8 _ rfl; (with_reducible repeat (first | refine blk_drewN ?_ _ | refine blk_drew ?_ | refine blk_alloc ?_ _)); refine blk_put (cs := #[.slice Ao52 t185.length co52, .int .i64 t188, .slice Ao56 t189.length co56, .int .i64 t192, .int .i64 t193, .int .i64 t194, .int .i64 t195, .int .i64 0, .slice none 0 0]) ?_ 7 _ rfl; (with_reducible repeat (first | refine blk_drewN ?_ _ | refine blk_drew ?_ | refine blk_alloc ?_ _)); refine blk_put (cs := #[.slice Ao52 t185.length co52, .int .i64 t188, .slice Ao56 t189.length co56, .int .i64 t192, .int .i64 t193, .int .i64 t194, .int .i64 0, .int .i64 0, .slice none 0 0]) ?_ 6 _ rfl; (with_reducible repeat (first | refine blk_drewN ?_ _ | refine blk_drew ?_ | refine blk_alloc ?_ _)); refine blk_put (cs := #[.slice Ao52 t185.length co52, .int .i64 t188, .slice Ao56 t189.length co56, .int .i64 t192, .int .i64 t193, .int .i64 0, .int .i64 0, .int .i64 0, .slice none 0 0]) ?_ 5 _ rfl; (with_reducible repeat (first | refine blk_drewN ?_ _ | refine blk_drew ?_ | refine blk_alloc ?_ _)); refine blk_put (cs := #[.slice Ao52 t185.length co52, .int .i64 t188, .slice Ao56 t189.length co56, .int .i64 t192, .int .i64 0, .int .i64 0, .int .i64 0, .int .i64 0, .slice none 0 0]) ?_ 4 _ rfl; (with_reducible repeat (first | refine blk_drewN ?_ _ | refine blk_drew ?_ | refine blk_alloc ?_ _)); refine blk_put (cs := #[.slice Ao52 t185.length co52, .int .i64 t188, .slice Ao56 t189.length co56, .int .i64 0, .int .i64 0, .int .i64 0, .int .i64 0, .int .i64 0, .slice none 0 0]) ?_ 3 _ rfl; (with_reducible repeat (first | refine blk_drewN ?_ _ | refine blk_drew ?_ | refine blk_alloc ?_ _)); refine blk_put (cs := #[.slice Ao52 t185.length co52, .int .i64 t188, .slice none 0 0, .int .i64 0, .int .i64 0, .int .i64 0, .int .i64 0, .int .i64 0, .slice none 0 0]) ?_ 2 _ rfl; (with_reducible repeat (first | refine blk_drewN ?_ _ | refine blk_drew ?_ | refine blk_alloc ?_ _)); refine blk_put (cs := #[.slice Ao52 t185.length co52, .int .i64 0, .slice none 0 0, .int .i64 0, .int .i64 0, .int .i64 0, .int .i64 0, .int .i64 0, .slice none 0 0]) ?_ 1 _ rfl; (with_reducible repeat (first | refine blk_drewN ?_ _ | refine blk_drew ?_ | refine blk_alloc ?_ _)); refine blk_put (cs := #[.slice none 0 0, .int .i64 0, .slice none 0 0, .int .i64 0, .int .i64 0, .int .i64 0, .int .i64 0, .int .i64 0, .slice none 0 0]) ?_ 0 _ rfl; (with_reducible repeat (first | refine blk_drewN ?_ _ | refine blk_drew ?_ | refine blk_alloc ?_ _)); exact BK200.out) hb); have n15_ := Aside0.mk (below_step bl_ hb); clear HO156; clear HO160; clear HO168; clear HO171; clear HO175; clear HO183; clear HO187; clear HO191; clear HO199; clear BK150; clear BK151; clear BK200; clear HB; have HO156 := n0_; have HO160 := n1_; have HO168 := n2_; have HO171 := n3_; have HO175 := n4_; have HO183 := n5_; have HO187 := n6_; have HO191 := n7_; have HO199 := n8_; have HO203 := n9_; have HO207 := n10_; have HO215 := n11_; have BK150 := n12_; have BK151 := n13_; have BK200 := n14_; have HB := n15_; clear n0_ n1_ n2_ n3_ n4_ n5_ n6_ n7_ n8_ n9_ n10_ n11_ n12_ n13_ n14_ n15_; (try clear hb); (try clear hb2); (try clear hk); (try clear hi); (try clear ho0); (try clear ho1); (try clear ho2)) | ((with_reducible refine gate_dst (N := 8) rfl ?_); refine box_event ?hg (N := 8) ?hd (cs := #[.slice none 0 0, .int .i64 0, .slice none 0 0, .int .i64 0, .int .i64 0, .int .i64 0, .int .i64 0, .int .i64 0, .slice none 0 0]) (t := 36) ?hr ?_; (case hd => rfl); (case hg => rfl); (case hr => first | (go_simp; done) | (go_simp; rfl)); intro gb216 hg w60 hbox hb; have n0_ := Aside0.mk (Kd.R_below (ra_ HO156) hb); have n1_ := Aside0.mk (Kd.R_below (ra_ HO160) hb); have n2_ := Aside0.mk (Kd.R_below (ra_ HO168) hb); have n3_ := Aside0.mk (Kd.R_below (ra_ HO171) hb); have n4_ := Aside0.mk (Kd.R_below (ra_ HO175) hb); have n5_ := Aside0.mk (Kd.R_below (ra_ HO183) hb); have n6_ := Aside0.mk (Kd.R_below (ra_ HO187) hb); have n7_ := Aside0.mk (Kd.R_below (ra_ HO191) hb); have n8_ := Aside0.mk (Kd.R_below (ra_ HO199) hb); have n9_ := Aside0.mk (Kd.R_below (ra_ HO203) hb); have n10_ := Aside0.mk (Kd.R_below (ra_ HO207) hb); have n11_ := Aside0.mk (Kd.R_below (ra_ HO215) hb); have n12_ := Aside0.mk (blk_below (bk_ BK150) hb); have n13_ := Aside0.mk (blk_below (bk_ BK151) hb); have n14_ := Aside0.mk (blk_below (bk_ BK200) hb); have n15_ := Aside0.mk (below_step bl_ hb); have n16_ := Aside0.mk (hbox); have n17_ := Aside0.mk ((by rw [hg]; exact (below_size bl_) : w.heap.size ≤ gb216)); have n18_ := Aside0.mk ((by rw [hg]; exact (below_size bl_) : w.heap.size ≤ gb216)); have n19_ := Aside0.mk ((by rw [hg]; exact Nat.ne_of_lt (blk_lt (bk_ BK150)) : gb150 ≠ gb216)); have n20_ := Aside0.mk ((by rw [hg]; exact Nat.ne_of_gt (blk_lt (bk_ BK150)) : gb216 ≠ gb150)); have n21_ := Aside0.mk ((by rw [hg]; exact Nat.ne_of_lt (blk_lt (bk_ BK151)) : gb151 ≠ gb216)); have n22_ := Aside0.mk ((by rw [hg]; exact Nat.ne_of_gt (blk_lt (bk_ BK151)) : gb216 ≠ gb151)); have n23_ := Aside0.mk ((by rw [hg]; exact Nat.ne_of_lt (blk_lt (bk_ BK200)) : gb200 ≠ gb216)); have n24_ := Aside0.mk ((by rw [hg]; exact Nat.ne_of_gt (blk_lt (bk_ BK200)) : gb216 ≠ gb200)); clear HO156; clear HO160; clear HO168; clear HO171; clear HO175; clear HO183; clear HO187; clear HO191; clear HO199; clear HO203; clear HO207; clear HO215; clear BK150; clear BK151; clear BK200; clear HB; have HO156 := n0_; have HO160 := n1_; have HO168 := n2_; have HO171 := n3_; have HO175 := n4_; have HO183 := n5_; have HO187 := n6_; have HO191 := n7_; have HO199 := n8_; have HO203 := n9_; have HO207 := n10_; have HO215 := n11_; have BK150 := n12_; have BK151 := n13_; have BK200 := n14_; have HB := n15_; have BK216 := n16_; have GW216 := n17_; have GE216 := n18_; have NB150_216 := n19_; have NB216_150 := n20_; have NB151_216 := n21_; have NB216_151 := n22_; have NB200_216 := n23_; have NB216_200 := n24_; clear n0_ n1_ n2_ n3_ n4_ n5_ n6_ n7_ n8_ n9_ n10_ n11_ n12_ n13_ n14_ n15_ n16_ n17_ n18_ n19_ n20_ n21_ n22_ n23_ n24_; clear hb hbox hg; obtain ⟨Ao61, co61, eo61⟩ := Kd.R_slice HO203.out; subst eo61; have hnb62 := NB216_150.out; have hnc62 := NB150_216.out; have hnb63 := NB216_151.out; have hnc63 := NB151_216.out; have hnb64 := NB216_200.out; have hnc64 := NB200_216.out; have hcz65_0 := cz_ BK216 0 (.slice none 0 0); have hcz65_1 := cz_ BK216 1 (.int .i64 0); have hcz65_2 := cz_ BK216 2 (.slice none 0 0); have hcz65_3 := cz_ BK216 3 (.int .i64 0); have hcz65_4 := cz_ BK216 4 (.int .i64 0); have hcz65_5 := cz_ BK216 5 (.int .i64 0); have hcz65_6 := cz_ BK216 6 (.int .i64 0); have hcz65_7 := cz_ BK216 7 (.int .i64 0); have hcz65_8 := cz_ BK216 8 (.slice none 0 0); have hfz65_0 := fz_ BK216 0; have hfz65_1 := fz_ BK216 1; have hfz65_2 := fz_ BK216 2; have hfz65_3 := fz_ BK216 3; have hfz65_4 := fz_ BK216 4; have hfz65_5 := fz_ BK216 5; have hfz65_6 := fz_ BK216 6; have hfz65_7 := fz_ BK216 7; have hfz65_8 := fz_ BK216 8; obtain ⟨Ao66, co66, eo66⟩ := Kd.R_slice HO207.out; subst eo66; obtain ⟨Ao67, co67, eo67⟩ := Kd.R_slice HO215.out; subst eo67; have hcz68_0 := cz_ BK200 0 (.slice Ao52 t185.length co52); have hcz68_1 := cz_ BK200 1 (.int .i64 t188); have hcz68_2 := cz_ BK200 2 (.slice Ao56 t189.length co56); have hcz68_3 := cz_ BK200 3 (.int .i64 t192); have hcz68_4 := cz_ BK200 4 (.int .i64 t193); have hcz68_5 := cz_ BK200 5 (.int .i64 t194); have hcz68_6 := cz_ BK200 6 (.int .i64 t195); have hcz68_7 := cz_ BK200 7 (.int .i64 t196); have hcz68_8 := cz_ BK200 8 (.slice Ao57 t197.length co57); have hfz68_0 := fz_ BK200 0; have hfz68_1 := fz_ BK200 1; have hfz68_2 := fz_ BK200 2; have hfz68_3 := fz_ BK200 3; have hfz68_4 := fz_ BK200 4; have hfz68_5 := fz_ BK200 5; have hfz68_6 := fz_ BK200 6; have hfz68_7 := fz_ BK200 7; have hfz68_8 := fz_ BK200 8) | ((with_reducible refine gate_callee (f := 37) rfl ?_); refine goesL_ (some 31) rfl rfl Try.func37 (by kernel_rfl) rfl #[.agg #[.slice Ao52 t185.length co52, .int .i64 t188, .slice Ao56 t189.length co56, .int .i64 t192, .int .i64 t193, .int .i64 t194, .int .i64 t195, .int .i64 t196, .slice Ao57 t197.length co57], .agg #[.slice Ao61 t201.length co61, .int .i64 t204, .slice Ao66 t205.length co66, .int .i64 t208, .int .i64 t209, .int .i64 t210, .int .i64 t211, .int .i64 t212, .slice Ao67 t213.length co67]] rfl gl_ ?_; (with_reducible refine (impl_TaskSame.calls k _ _ t185 t188 _ _ t189 t192 t193 t194 t195 t196 _ _ t197 _ _ t201 t204 _ _ t205 t208 t209 t210 t211 t212 _ _ t213 t217 _ ?side1 ?side2 ?side3 ?side4 ?side5 ?side6 ?side7 ?side8 ?side9 ?side10 ?side11 ?side12 A24.out).mono ?_); (case side1 => refine (Kd.R_reads' (e := 5) (base := w.heap.size) (ok := fun k_ => ((((((some k_ ≠ (.slice Ao57 t197.length co57 : Value).ownBlock ∧ some k_ ≠ (.slice Ao42 t154.length co42 : Value).ownBlock) ∧ some k_ ≠ (.slice Ao44 t166.length co44 : Value).ownBlock) ∧ some k_ ≠ (.slice Ao45 t169.length co45 : Value).ownBlock) ∧ some k_ ≠ (.slice Ao47 t181.length co47 : Value).ownBlock) ∧ some k_ ≠ (.slice Ao61 t201.length co61 : Value).ownBlock) ∧ some k_ ≠ (.slice Ao67 t213.length co67 : Value).ownBlock)) (n := t185.length) (c := co52) ?_).2.2; exact (by (with_reducible repeat (first | apply Kd.R_alloc | apply Kd.R_drewN | apply Kd.R_drew)); exact (Kd.R_mono (Kd.R_far (p := ⟨gb216, 8, none⟩) (Kd.R_far (p := ⟨gb216, 7, none⟩) (Kd.R_far (p := ⟨gb216, 6, none⟩) (Kd.R_far (p := ⟨gb216, 5, none⟩) (Kd.R_far (p := ⟨gb216, 4, none⟩) (Kd.R_far (p := ⟨gb216, 3, none⟩) (Kd.R_far (p := ⟨gb216, 2, none⟩) (Kd.R_far (p := ⟨gb216, 1, none⟩) (Kd.R_far (p := ⟨gb216, 0, none⟩) (Kd.R_types HO187.out BK216.out (by decide)) (fun _ hk => hk.2) (.slice Ao61 t201.length co61)) (fun _ hk => hk.2) (.int .i64 t204)) (fun _ hk => hk.2) (.slice Ao66 t205.length co66)) (fun _ hk => hk.2) (.int .i64 t208)) (fun _ hk => hk.2) (.int .i64 t209)) (fun _ hk => hk.2) (.int .i64 t210)) (fun _ hk => hk.2) (.int .i64 t211)) (fun _ hk => hk.2) (.int .i64 t212)) (fun _ hk => hk.2) (.slice Ao67 t213.length co67)) (fun _ h_ => h_.1)))); (case side2 => exact (Kd.R_reads' HO187.out).2.1); (case side3 => refine (Kd.R_reads' (e := 3) (base := w.heap.size) (ok := fun k_ => (((True ∧ some k_ ≠ (.slice Ao43 t158.length co43 : Value).ownBlock) ∧ some k_ ≠ (.slice Ao46 t173.length co46 : Value).ownBlock) ∧ some k_ ≠ (.slice Ao66 t205.length co66 : Value).ownBlock)) (n := t189.length) (c := co56) ?_).2.2; exact (by (with_reducible repeat (first | apply Kd.R_alloc | apply Kd.R_drewN | apply Kd.R_drew)); exact (Kd.R_mono (Kd.R_far (p := ⟨gb216, 8, none⟩) (Kd.R_far (p := ⟨gb216, 7, none⟩) (Kd.R_far (p := ⟨gb216, 6, none⟩) (Kd.R_far (p := ⟨gb216, 5, none⟩) (Kd.R_far (p := ⟨gb216, 4, none⟩) (Kd.R_far (p := ⟨gb216, 3, none⟩) (Kd.R_far (p := ⟨gb216, 2, none⟩) (Kd.R_far (p := ⟨gb216, 1, none⟩) (Kd.R_far (p := ⟨gb216, 0, none⟩) (Kd.R_types HO191.out BK216.out (by decide)) (fun _ hk => hk.2) (.slice Ao61 t201.length co61)) (fun _ hk => hk.2) (.int .i64 t204)) (fun _ hk => hk.2) (.slice Ao66 t205.length co66)) (fun _ hk => hk.2) (.int .i64 t208)) (fun _ hk => hk.2) (.int .i64 t209)) (fun _ hk => hk.2) (.int .i64 t210)) (fun _ hk => hk.2) (.int .i64 t211)) (fun _ hk => hk.2) (.int .i64 t212)) (fun _ hk => hk.2) (.slice Ao67 t213.length co67)) (fun _ h_ => h_.1)))); (case side4 => exact (Kd.R_reads' HO191.out).2.1); (case side5 => refine (Kd.R_reads' (e := 5) (base := w.heap.size) (ok := fun k_ => ((((((some k_ ≠ (.slice Ao52 t185.length co52 : Value).ownBlock ∧ some k_ ≠ (.slice Ao42 t154.length co42 : Value).ownBlock) ∧ some k_ ≠ (.slice Ao44 t166.length co44 : Value).ownBlock) ∧ some k_ ≠ (.slice Ao45 t169.length co45 : Value).ownBlock) ∧ some k_ ≠ (.slice Ao47 t181.length co47 : Value).ownBlock) ∧ some k_ ≠ (.slice Ao61 t201.length co61 : Value).ownBlock) ∧ some k_ ≠ (.slice Ao67 t213.length co67 : Value).ownBlock)) (n := t197.length) (c := co57) ?_).2.2; exact (by (with_reducible repeat (first | apply Kd.R_alloc | apply Kd.R_drewN | apply Kd.R_drew)); exact (Kd.R_mono (Kd.R_far (p := ⟨gb216, 8, none⟩) (Kd.R_far (p := ⟨gb216, 7, none⟩) (Kd.R_far (p := ⟨gb216, 6, none⟩) (Kd.R_far (p := ⟨gb216, 5, none⟩) (Kd.R_far (p := ⟨gb216, 4, none⟩) (Kd.R_far (p := ⟨gb216, 3, none⟩) (Kd.R_far (p := ⟨gb216, 2, none⟩) (Kd.R_far (p := ⟨gb216, 1, none⟩) (Kd.R_far (p := ⟨gb216, 0, none⟩) (Kd.R_types HO199.out BK216.out (by decide)) (fun _ hk => hk.2) (.slice Ao61 t201.length co61)) (fun _ hk => hk.2) (.int .i64 t204)) (fun _ hk => hk.2) (.slice Ao66 t205.length co66)) (fun _ hk => hk.2) (.int .i64 t208)) (fun _ hk => hk.2) (.int .i64 t209)) (fun _ hk => hk.2) (.int .i64 t210)) (fun _ hk => hk.2) (.int .i64 t211)) (fun _ hk => hk.2) (.int .i64 t212)) (fun _ hk => hk.2) (.slice Ao67 t213.length co67)) (fun _ h_ => h_.1)))); (case side6 => exact (Kd.R_reads' HO199.out).2.1); (case side7 => refine (Kd.R_reads' (e := 5) (base := w.heap.size) (ok := fun k_ => ((((((some k_ ≠ (.slice Ao67 t213.length co67 : Value).ownBlock ∧ some k_ ≠ (.slice Ao42 t154.length co42 : Value).ownBlock) ∧ some k_ ≠ (.slice Ao44 t166.length co44 : Value).ownBlock) ∧ some k_ ≠ (.slice Ao45 t169.length co45 : Value).ownBlock) ∧ some k_ ≠ (.slice Ao47 t181.length co47 : Value).ownBlock) ∧ some k_ ≠ (.slice Ao52 t185.length co52 : Value).ownBlock) ∧ some k_ ≠ (.slice Ao57 t197.length co57 : Value).ownBlock)) (n := t201.length) (c := co61) ?_).2.2; exact (by (with_reducible repeat (first | apply Kd.R_alloc | apply Kd.R_drewN | apply Kd.R_drew)); exact (Kd.R_mono (Kd.R_far (p := ⟨gb216, 8, none⟩) (Kd.R_far (p := ⟨gb216, 7, none⟩) (Kd.R_far (p := ⟨gb216, 6, none⟩) (Kd.R_far (p := ⟨gb216, 5, none⟩) (Kd.R_far (p := ⟨gb216, 4, none⟩) (Kd.R_far (p := ⟨gb216, 3, none⟩) (Kd.R_far (p := ⟨gb216, 2, none⟩) (Kd.R_far (p := ⟨gb216, 1, none⟩) (Kd.R_far (p := ⟨gb216, 0, none⟩) (Kd.R_types HO203.out BK216.out (by decide)) (fun _ hk => hk.2) (.slice Ao61 t201.length co61)) (fun _ hk => hk.2) (.int .i64 t204)) (fun _ hk => hk.2) (.slice Ao66 t205.length co66)) (fun _ hk => hk.2) (.int .i64 t208)) (fun _ hk => hk.2) (.int .i64 t209)) (fun _ hk => hk.2) (.int .i64 t210)) (fun _ hk => hk.2) (.int .i64 t211)) (fun _ hk => hk.2) (.int .i64 t212)) (fun _ hk => hk.2) (.slice Ao67 t213.length co67)) (fun _ h_ => h_.1)))); (case side8 => exact (Kd.R_reads' HO203.out).2.1); (case side9 => refine (Kd.R_reads' (e := 3) (base := w.heap.size) (ok := fun k_ => (((True ∧ some k_ ≠ (.slice Ao43 t158.length co43 : Value).ownBlock) ∧ some k_ ≠ (.slice Ao46 t173.length co46 : Value).ownBlock) ∧ some k_ ≠ (.slice Ao56 t189.length co56 : Value).ownBlock)) (n := t205.length) (c := co66) ?_).2.2; exact (by (with_reducible repeat (first | apply Kd.R_alloc | apply Kd.R_drewN | apply Kd.R_drew)); exact (Kd.R_mono (Kd.R_far (p := ⟨gb216, 8, none⟩) (Kd.R_far (p := ⟨gb216, 7, none⟩) (Kd.R_far (p := ⟨gb216, 6, none⟩) (Kd.R_far (p := ⟨gb216, 5, none⟩) (Kd.R_far (p := ⟨gb216, 4, none⟩) (Kd.R_far (p := ⟨gb216, 3, none⟩) (Kd.R_far (p := ⟨gb216, 2, none⟩) (Kd.R_far (p := ⟨gb216, 1, none⟩) (Kd.R_far (p := ⟨gb216, 0, none⟩) (Kd.R_types HO207.out BK216.out (by decide)) (fun _ hk => hk.2) (.slice Ao61 t201.length co61)) (fun _ hk => hk.2) (.int .i64 t204)) (fun _ hk => hk.2) (.slice Ao66 t205.length co66)) (fun _ hk => hk.2) (.int .i64 t208)) (fun _ hk => hk.2) (.int .i64 t209)) (fun _ hk => hk.2) (.int .i64 t210)) (fun _ hk => hk.2) (.int .i64 t211)) (fun _ hk => hk.2) (.int .i64 t212)) (fun _ hk => hk.2) (.slice Ao67 t213.length co67)) (fun _ h_ => h_.1)))); (case side10 => exact (Kd.R_reads' HO207.out).2.1); (case side11 => refine (Kd.R_reads' (e := 5) (base := w.heap.size) (ok := fun k_ => ((((((some k_ ≠ (.slice Ao61 t201.length co61 : Value).ownBlock ∧ some k_ ≠ (.slice Ao42 t154.length co42 : Value).ownBlock) ∧ some k_ ≠ (.slice Ao44 t166.length co44 : Value).ownBlock) ∧ some k_ ≠ (.slice Ao45 t169.length co45 : Value).ownBlock) ∧ some k_ ≠ (.slice Ao47 t181.length co47 : Value).ownBlock) ∧ some k_ ≠ (.slice Ao52 t185.length co52 : Value).ownBlock) ∧ some k_ ≠ (.slice Ao57 t197.length co57 : Value).ownBlock)) (n := t213.length) (c := co67) ?_).2.2; exact (by (with_reducible repeat (first | apply Kd.R_alloc | apply Kd.R_drewN | apply Kd.R_drew)); exact (Kd.R_mono (Kd.R_far (p := ⟨gb216, 8, none⟩) (Kd.R_far (p := ⟨gb216, 7, none⟩) (Kd.R_far (p := ⟨gb216, 6, none⟩) (Kd.R_far (p := ⟨gb216, 5, none⟩) (Kd.R_far (p := ⟨gb216, 4, none⟩) (Kd.R_far (p := ⟨gb216, 3, none⟩) (Kd.R_far (p := ⟨gb216, 2, none⟩) (Kd.R_far (p := ⟨gb216, 1, none⟩) (Kd.R_far (p := ⟨gb216, 0, none⟩) (Kd.R_types HO215.out BK216.out (by decide)) (fun _ hk => hk.2) (.slice Ao61 t201.length co61)) (fun _ hk => hk.2) (.int .i64 t204)) (fun _ hk => hk.2) (.slice Ao66 t205.length co66)) (fun _ hk => hk.2) (.int .i64 t208)) (fun _ hk => hk.2) (.int .i64 t209)) (fun _ hk => hk.2) (.int .i64 t210)) (fun _ hk => hk.2) (.int .i64 t211)) (fun _ hk => hk.2) (.int .i64 t212)) (fun _ hk => hk.2) (.slice Ao67 t213.length co67)) (fun _ h_ => h_.1)))); (case side12 => exact (Kd.R_reads' HO215.out).2.1); rintro e w69 ⟨rfl, hb⟩; refine ⟨_, rfl, ?_⟩; have n0_ := Aside0.mk (Kd.R_below (by (with_reducible repeat (first | apply Kd.R_alloc | apply Kd.R_drewN | apply Kd.R_drew)); exact (Kd.R_mono (Kd.R_far (p := ⟨gb216, 8, none⟩) (Kd.R_far (p := ⟨gb216, 7, none⟩) (Kd.R_far (p := ⟨gb216, 6, none⟩) (Kd.R_far (p := ⟨gb216, 5, none⟩) (Kd.R_far (p := ⟨gb216, 4, none⟩) (Kd.R_far (p := ⟨gb216, 3, none⟩) (Kd.R_far (p := ⟨gb216, 2, none⟩) (Kd.R_far (p := ⟨gb216, 1, none⟩) (Kd.R_far (p := ⟨gb216, 0, none⟩) (Kd.R_types HO156.out BK216.out (by decide)) (fun _ hk => hk.2) (.slice Ao61 t201.length co61)) (fun _ hk => hk.2) (.int .i64 t204)) (fun _ hk => hk.2) (.slice Ao66 t205.length co66)) (fun _ hk => hk.2) (.int .i64 t208)) (fun _ hk => hk.2) (.int .i64 t209)) (fun _ hk => hk.2) (.int .i64 t210)) (fun _ hk => hk.2) (.int .i64 t211)) (fun _ hk => hk.2) (.int .i64 t212)) (fun _ hk => hk.2) (.slice Ao67 t213.length co67)) (fun _ h_ => h_.1))) hb); have n1_ := Aside0.mk (Kd.R_below (by (with_reducible repeat (first | apply Kd.R_alloc | apply Kd.R_drewN | apply Kd.R_drew)); exact (Kd.R_mono (Kd.R_far (p := ⟨gb216, 8, none⟩) (Kd.R_far (p := ⟨gb216, 7, none⟩) (Kd.R_far (p := ⟨gb216, 6, none⟩) (Kd.R_far (p := ⟨gb216, 5, none⟩) (Kd.R_far (p := ⟨gb216, 4, none⟩) (Kd.R_far (p := ⟨gb216, 3, none⟩) (Kd.R_far (p := ⟨gb216, 2, none⟩) (Kd.R_far (p := ⟨gb216, 1, none⟩) (Kd.R_far (p := ⟨gb216, 0, none⟩) (Kd.R_types HO160.out BK216.out (by decide)) (fun _ hk => hk.2) (.slice Ao61 t201.length co61)) (fun _ hk => hk.2) (.int .i64 t204)) (fun _ hk => hk.2) (.slice Ao66 t205.length co66)) (fun _ hk => hk.2) (.int .i64 t208)) (fun _ hk => hk.2) (.int .i64 t209)) (fun _ hk => hk.2) (.int .i64 t210)) (fun _ hk => hk.2) (.int .i64 t211)) (fun _ hk => hk.2) (.int .i64 t212)) (fun _ hk => hk.2) (.slice Ao67 t213.length co67)) (fun _ h_ => h_.1))) hb); have n2_ := Aside0.mk (Kd.R_below (by (with_reducible repeat (first | apply Kd.R_alloc | apply Kd.R_drewN | apply Kd.R_drew)); exact (Kd.R_mono (Kd.R_far (p := ⟨gb216, 8, none⟩) (Kd.R_far (p := ⟨gb216, 7, none⟩) (Kd.R_far (p := ⟨gb216, 6, none⟩) (Kd.R_far (p := ⟨gb216, 5, none⟩) (Kd.R_far (p := ⟨gb216, 4, none⟩) (Kd.R_far (p := ⟨gb216, 3, none⟩) (Kd.R_far (p := ⟨gb216, 2, none⟩) (Kd.R_far (p := ⟨gb216, 1, none⟩) (Kd.R_far (p := ⟨gb216, 0, none⟩) (Kd.R_types HO168.out BK216.out (by decide)) (fun _ hk => hk.2) (.slice Ao61 t201.length co61)) (fun _ hk => hk.2) (.int .i64 t204)) (fun _ hk => hk.2) (.slice Ao66 t205.length co66)) (fun _ hk => hk.2) (.int .i64 t208)) (fun _ hk => hk.2) (.int .i64 t209)) (fun _ hk => hk.2) (.int .i64 t210)) (fun _ hk => hk.2) (.int .i64 t211)) (fun _ hk => hk.2) (.int .i64 t212)) (fun _ hk => hk.2) (.slice Ao67 t213.length co67)) (fun _ h_ => h_.1))) hb); have n3_ := Aside0.mk (Kd.R_below (by (with_reducible repeat (first | apply Kd.R_alloc | apply Kd.R_drewN | apply Kd.R_drew)); exact (Kd.R_mono (Kd.R_far (p := ⟨gb216, 8, none⟩) (Kd.R_far (p := ⟨gb216, 7, none⟩) (Kd.R_far (p := ⟨gb216, 6, none⟩) (Kd.R_far (p := ⟨gb216, 5, none⟩) (Kd.R_far (p := ⟨gb216, 4, none⟩) (Kd.R_far (p := ⟨gb216, 3, none⟩) (Kd.R_far (p := ⟨gb216, 2, none⟩) (Kd.R_far (p := ⟨gb216, 1, none⟩) (Kd.R_far (p := ⟨gb216, 0, none⟩) (Kd.R_types HO171.out BK216.out (by decide)) (fun _ hk => hk.2) (.slice Ao61 t201.length co61)) (fun _ hk => hk.2) (.int .i64 t204)) (fun _ hk => hk.2) (.slice Ao66 t205.length co66)) (fun _ hk => hk.2) (.int .i64 t208)) (fun _ hk => hk.2) (.int .i64 t209)) (fun _ hk => hk.2) (.int .i64 t210)) (fun _ hk => hk.2) (.int .i64 t211)) (fun _ hk => hk.2) (.int .i64 t212)) (fun _ hk => hk.2) (.slice Ao67 t213.length co67)) (fun _ h_ => h_.1))) hb); have n4_ := Aside0.mk (Kd.R_below (by (with_reducible repeat (first | apply Kd.R_alloc | apply Kd.R_drewN | apply Kd.R_drew)); exact (Kd.R_mono (Kd.R_far (p := ⟨gb216, 8, none⟩) (Kd.R_far (p := ⟨gb216, 7, none⟩) (Kd.R_far (p := ⟨gb216, 6, none⟩) (Kd.R_far (p := ⟨gb216, 5, none⟩) (Kd.R_far (p := ⟨gb216, 4, none⟩) (Kd.R_far (p := ⟨gb216, 3, none⟩) (Kd.R_far (p := ⟨gb216, 2, none⟩) (Kd.R_far (p := ⟨gb216, 1, none⟩) (Kd.R_far (p := ⟨gb216, 0, none⟩) (Kd.R_types HO175.out BK216.out (by decide)) (fun _ hk => hk.2) (.slice Ao61 t201.length co61)) (fun _ hk => hk.2) (.int .i64 t204)) (fun _ hk => hk.2) (.slice Ao66 t205.length co66)) (fun _ hk => hk.2) (.int .i64 t208)) (fun _ hk => hk.2) (.int .i64 t209)) (fun _ hk => hk.2) (.int .i64 t210)) (fun _ hk => hk.2) (.int .i64 t211)) (fun _ hk => hk.2) (.int .i64 t212)) (fun _ hk => hk.2) (.slice Ao67 t213.length co67)) (fun _ h_ => h_.1))) hb); have n5_ := Aside0.mk (Kd.R_below (by (with_reducible repeat (first | apply Kd.R_alloc | apply Kd.R_drewN | apply Kd.R_drew)); exact (Kd.R_mono (Kd.R_far (p := ⟨gb216, 8, none⟩) (Kd.R_far (p := ⟨gb216, 7, none⟩) (Kd.R_far (p := ⟨gb216, 6, none⟩) (Kd.R_far (p := ⟨gb216, 5, none⟩) (Kd.R_far (p := ⟨gb216, 4, none⟩) (Kd.R_far (p := ⟨gb216, 3, none⟩) (Kd.R_far (p := ⟨gb216, 2, none⟩) (Kd.R_far (p := ⟨gb216, 1, none⟩) (Kd.R_far (p := ⟨gb216, 0, none⟩) (Kd.R_types HO183.out BK216.out (by decide)) (fun _ hk => hk.2) (.slice Ao61 t201.length co61)) (fun _ hk => hk.2) (.int .i64 t204)) (fun _ hk => hk.2) (.slice Ao66 t205.length co66)) (fun _ hk => hk.2) (.int .i64 t208)) (fun _ hk => hk.2) (.int .i64 t209)) (fun _ hk => hk.2) (.int .i64 t210)) (fun _ hk => hk.2) (.int .i64 t211)) (fun _ hk => hk.2) (.int .i64 t212)) (fun _ hk => hk.2) (.slice Ao67 t213.length co67)) (fun _ h_ => h_.1))) hb); have n6_ := Aside0.mk (Kd.R_below (by (with_reducible repeat (first | apply Kd.R_alloc | apply Kd.R_drewN | apply Kd.R_drew)); exact (Kd.R_mono (Kd.R_far (p := ⟨gb216, 8, none⟩) (Kd.R_far (p := ⟨gb216, 7, none⟩) (Kd.R_far (p := ⟨gb216, 6, none⟩) (Kd.R_far (p := ⟨gb216, 5, none⟩) (Kd.R_far (p := ⟨gb216, 4, none⟩) (Kd.R_far (p := ⟨gb216, 3, none⟩) (Kd.R_far (p := ⟨gb216, 2, none⟩) (Kd.R_far (p := ⟨gb216, 1, none⟩) (Kd.R_far (p := ⟨gb216, 0, none⟩) (Kd.R_types HO187.out BK216.out (by decide)) (fun _ hk => hk.2) (.slice Ao61 t201.length co61)) (fun _ hk => hk.2) (.int .i64 t204)) (fun _ hk => hk.2) (.slice Ao66 t205.length co66)) (fun _ hk => hk.2) (.int .i64 t208)) (fun _ hk => hk.2) (.int .i64 t209)) (fun _ hk => hk.2) (.int .i64 t210)) (fun _ hk => hk.2) (.int .i64 t211)) (fun _ hk => hk.2) (.int .i64 t212)) (fun _ hk => hk.2) (.slice Ao67 t213.length co67)) (fun _ h_ => h_.1))) hb); have n7_ := Aside0.mk (Kd.R_below (by (with_reducible repeat (first | apply Kd.R_alloc | apply Kd.R_drewN | apply Kd.R_drew)); exact (Kd.R_mono (Kd.R_far (p := ⟨gb216, 8, none⟩) (Kd.R_far (p := ⟨gb216, 7, none⟩) (Kd.R_far (p := ⟨gb216, 6, none⟩) (Kd.R_far (p := ⟨gb216, 5, none⟩) (Kd.R_far (p := ⟨gb216, 4, none⟩) (Kd.R_far (p := ⟨gb216, 3, none⟩) (Kd.R_far (p := ⟨gb216, 2, none⟩) (Kd.R_far (p := ⟨gb216, 1, none⟩) (Kd.R_far (p := ⟨gb216, 0, none⟩) (Kd.R_types HO191.out BK216.out (by decide)) (fun _ hk => hk.2) (.slice Ao61 t201.length co61)) (fun _ hk => hk.2) (.int .i64 t204)) (fun _ hk => hk.2) (.slice Ao66 t205.length co66)) (fun _ hk => hk.2) (.int .i64 t208)) (fun _ hk => hk.2) (.int .i64 t209)) (fun _ hk => hk.2) (.int .i64 t210)) (fun _ hk => hk.2) (.int .i64 t211)) (fun _ hk => hk.2) (.int .i64 t212)) (fun _ hk => hk.2) (.slice Ao67 t213.length co67)) (fun _ h_ => h_.1))) hb); have n8_ := Aside0.mk (Kd.R_below (by (with_reducible repeat (first | apply Kd.R_alloc | apply Kd.R_drewN | apply Kd.R_drew)); exact (Kd.R_mono (Kd.R_far (p := ⟨gb216, 8, none⟩) (Kd.R_far (p := ⟨gb216, 7, none⟩) (Kd.R_far (p := ⟨gb216, 6, none⟩) (Kd.R_far (p := ⟨gb216, 5, none⟩) (Kd.R_far (p := ⟨gb216, 4, none⟩) (Kd.R_far (p := ⟨gb216, 3, none⟩) (Kd.R_far (p := ⟨gb216, 2, none⟩) (Kd.R_far (p := ⟨gb216, 1, none⟩) (Kd.R_far (p := ⟨gb216, 0, none⟩) (Kd.R_types HO199.out BK216.out (by decide)) (fun _ hk => hk.2) (.slice Ao61 t201.length co61)) (fun _ hk => hk.2) (.int .i64 t204)) (fun _ hk => hk.2) (.slice Ao66 t205.length co66)) (fun _ hk => hk.2) (.int .i64 t208)) (fun _ hk => hk.2) (.int .i64 t209)) (fun _ hk => hk.2) (.int .i64 t210)) (fun _ hk => hk.2) (.int .i64 t211)) (fun _ hk => hk.2) (.int .i64 t212)) (fun _ hk => hk.2) (.slice Ao67 t213.length co67)) (fun _ h_ => h_.1))) hb); have n9_ := Aside0.mk (Kd.R_below (by (with_reducible repeat (first | apply Kd.R_alloc | apply Kd.R_drewN | apply Kd.R_drew)); exact (Kd.R_mono (Kd.R_far (p := ⟨gb216, 8, none⟩) (Kd.R_far (p := ⟨gb216, 7, none⟩) (Kd.R_far (p := ⟨gb216, 6, none⟩) (Kd.R_far (p := ⟨gb216, 5, none⟩) (Kd.R_far (p := ⟨gb216, 4, none⟩) (Kd.R_far (p := ⟨gb216, 3, none⟩) (Kd.R_far (p := ⟨gb216, 2, none⟩) (Kd.R_far (p := ⟨gb216, 1, none⟩) (Kd.R_far (p := ⟨gb216, 0, none⟩) (Kd.R_types HO203.out BK216.out (by decide)) (fun _ hk => hk.2) (.slice Ao61 t201.length co61)) (fun _ hk => hk.2) (.int .i64 t204)) (fun _ hk => hk.2) (.slice Ao66 t205.length co66)) (fun _ hk => hk.2) (.int .i64 t208)) (fun _ hk => hk.2) (.int .i64 t209)) (fun _ hk => hk.2) (.int .i64 t210)) (fun _ hk => hk.2) (.int .i64 t211)) (fun _ hk => hk.2) (.int .i64 t212)) (fun _ hk => hk.2) (.slice Ao67 t213.length co67)) (fun _ h_ => h_.1))) hb); have n10_ := Aside0.mk (Kd.R_below (by (with_reducible repeat (first | apply Kd.R_alloc | apply Kd.R_drewN | apply Kd.R_drew)); exact (Kd.R_mono (Kd.R_far (p := ⟨gb216, 8, none⟩) (Kd.R_far (p := ⟨gb216, 7, none⟩) (Kd.R_far (p := ⟨gb216, 6, none⟩) (Kd.R_far (p := ⟨gb216, 5, none⟩) (Kd.R_far (p := ⟨gb216, 4, none⟩) (Kd.R_far (p := ⟨gb216, 3, none⟩) (Kd.R_far (p := ⟨gb216, 2, none⟩) (Kd.R_far (p := ⟨gb216, 1, none⟩) (Kd.R_far (p := ⟨gb216, 0, none⟩) (Kd.R_types HO207.out BK216.out (by decide)) (fun _ hk => hk.2) (.slice Ao61 t201.length co61)) (fun _ hk => hk.2) (.int .i64 t204)) (fun _ hk => hk.2) (.slice Ao66 t205.length co66)) (fun _ hk => hk.2) (.int .i64 t208)) (fun _ hk => hk.2) (.int .i64 t209)) (fun _ hk => hk.2) (.int .i64 t210)) (fun _ hk => hk.2) (.int .i64 t211)) (fun _ hk => hk.2) (.int .i64 t212)) (fun _ hk => hk.2) (.slice Ao67 t213.length co67)) (fun _ h_ => h_.1))) hb); have n11_ := Aside0.mk (Kd.R_below (by (with_reducible repeat (first | apply Kd.R_alloc | apply Kd.R_drewN | apply Kd.R_drew)); exact (Kd.R_mono (Kd.R_far (p := ⟨gb216, 8, none⟩) (Kd.R_far (p := ⟨gb216, 7, none⟩) (Kd.R_far (p := ⟨gb216, 6, none⟩) (Kd.R_far (p := ⟨gb216, 5, none⟩) (Kd.R_far (p := ⟨gb216, 4, none⟩) (Kd.R_far (p := ⟨gb216, 3, none⟩) (Kd.R_far (p := ⟨gb216, 2, none⟩) (Kd.R_far (p := ⟨gb216, 1, none⟩) (Kd.R_far (p := ⟨gb216, 0, none⟩) (Kd.R_types HO215.out BK216.out (by decide)) (fun _ hk => hk.2) (.slice Ao61 t201.length co61)) (fun _ hk => hk.2) (.int .i64 t204)) (fun _ hk => hk.2) (.slice Ao66 t205.length co66)) (fun _ hk => hk.2) (.int .i64 t208)) (fun _ hk => hk.2) (.int .i64 t209)) (fun _ hk => hk.2) (.int .i64 t210)) (fun _ hk => hk.2) (.int .i64 t211)) (fun _ hk => hk.2) (.int .i64 t212)) (fun _ hk => hk.2) (.slice Ao67 t213.length co67)) (fun _ h_ => h_.1))) hb); have n12_ := Aside0.mk (blk_below (g := gb150) (o := .cells #[.slice A0_0 l0_0.length c0_0, .int .i64 a0_1, .slice A0_2 l0_2.length c0_2, .int .i64 a0_3, .int .i64 a0_4, .int .i64 a0_5, .int .i64 a0_6, .int .i64 a0_7, .slice A0_8 l0_8.length c0_8] 33 (0, 0)) (by (with_reducible repeat (first | refine blk_drewN ?_ _ | refine blk_drew ?_ | refine blk_alloc ?_ _)); refine blk_far ?_ NB150_216.out _; (with_reducible repeat (first | refine blk_drewN ?_ _ | refine blk_drew ?_ | refine blk_alloc ?_ _)); refine blk_far ?_ NB150_216.out _; (with_reducible repeat (first | refine blk_drewN ?_ _ | refine blk_drew ?_ | refine blk_alloc ?_ _)); refine blk_far ?_ NB150_216.out _; (with_reducible repeat (first | refine blk_drewN ?_ _ | refine blk_drew ?_ | refine blk_alloc ?_ _)); refine blk_far ?_ NB150_216.out _; (with_reducible repeat (first | refine blk_drewN ?_ _ | refine blk_drew ?_ | refine blk_alloc ?_ _)); refine blk_far ?_ NB150_216.out _; (with_reducible repeat (first | refine blk_drewN ?_ _ | refine blk_drew ?_ | refine blk_alloc ?_ _)); refine blk_far ?_ NB150_216.out _; (with_reducible repeat (first | refine blk_drewN ?_ _ | refine blk_drew ?_ | refine blk_alloc ?_ _)); refine blk_far ?_ NB150_216.out _; (with_reducible repeat (first | refine blk_drewN ?_ _ | refine blk_drew ?_ | refine blk_alloc ?_ _)); refine blk_far ?_ NB150_216.out _; (with_reducible repeat (first | refine blk_drewN ?_ _ | refine blk_drew ?_ | refine blk_alloc ?_ _)); refine blk_far ?_ NB150_216.out _; (with_reducible repeat (first | refine blk_drewN ?_ _ | refine blk_drew ?_ | refine blk_alloc ?_ _)); exact BK150.out) hb); have n13_ := Aside0.mk (blk_below (g := gb151) (o := .cells #[.slice A1_0 l1_0.length c1_0, .int .i64 a1_1, .slice A1_2 l1_2.length c1_2, .int .i64 a1_3, .int .i64 a1_4, .int .i64 a1_5, .int .i64 a1_6, .int .i64 a1_7, .slice A1_8 l1_8.length c1_8] 33 (0, 0)) (by (with_reducible repeat (first | refine blk_drewN ?_ _ | refine blk_drew ?_ | refine blk_alloc ?_ _)); refine blk_far ?_ NB151_216.out _; (with_reducible repeat (first | refine blk_drewN ?_ _ | refine blk_drew ?_ | refine blk_alloc ?_ _)); refine blk_far ?_ NB151_216.out _; (with_reducible repeat (first | refine blk_drewN ?_ _ | refine blk_drew ?_ | refine blk_alloc ?_ _)); refine blk_far ?_ NB151_216.out _; (with_reducible repeat (first | refine blk_drewN ?_ _ | refine blk_drew ?_ | refine blk_alloc ?_ _)); refine blk_far ?_ NB151_216.out _; (with_reducible repeat (first | refine blk_drewN ?_ _ | refine blk_drew ?_ | refine blk_alloc ?_ _)); refine blk_far ?_ NB151_216.out _; (with_reducible repeat (first | refine blk_drewN ?_ _ | refine blk_drew ?_ | refine blk_alloc ?_ _)); refine blk_far ?_ NB151_216.out _; (with_reducible repeat (first | refine blk_drewN ?_ _ | refine blk_drew ?_ | refine blk_alloc ?_ _)); refine blk_far ?_ NB151_216.out _; (with_reducible repeat (first | refine blk_drewN ?_ _ | refine blk_drew ?_ | refine blk_alloc ?_ _)); refine blk_far ?_ NB151_216.out _; (with_reducible repeat (first | refine blk_drewN ?_ _ | refine blk_drew ?_ | refine blk_alloc ?_ _)); refine blk_far ?_ NB151_216.out _; (with_reducible repeat (first | refine blk_drewN ?_ _ | refine blk_drew ?_ | refine blk_alloc ?_ _)); exact BK151.out) hb); have n14_ := Aside0.mk (blk_below (g := gb200) (o := .cells #[.slice Ao52 t185.length co52, .int .i64 t188, .slice Ao56 t189.length co56, .int .i64 t192, .int .i64 t193, .int .i64 t194, .int .i64 t195, .int .i64 t196, .slice Ao57 t197.length co57] 36 (0, 0)) (by (with_reducible repeat (first | refine blk_drewN ?_ _ | refine blk_drew ?_ | refine blk_alloc ?_ _)); refine blk_far ?_ NB200_216.out _; (with_reducible repeat (first | refine blk_drewN ?_ _ | refine blk_drew ?_ | refine blk_alloc ?_ _)); refine blk_far ?_ NB200_216.out _; (with_reducible repeat (first | refine blk_drewN ?_ _ | refine blk_drew ?_ | refine blk_alloc ?_ _)); refine blk_far ?_ NB200_216.out _; (with_reducible repeat (first | refine blk_drewN ?_ _ | refine blk_drew ?_ | refine blk_alloc ?_ _)); refine blk_far ?_ NB200_216.out _; (with_reducible repeat (first | refine blk_drewN ?_ _ | refine blk_drew ?_ | refine blk_alloc ?_ _)); refine blk_far ?_ NB200_216.out _; (with_reducible repeat (first | refine blk_drewN ?_ _ | refine blk_drew ?_ | refine blk_alloc ?_ _)); refine blk_far ?_ NB200_216.out _; (with_reducible repeat (first | refine blk_drewN ?_ _ | refine blk_drew ?_ | refine blk_alloc ?_ _)); refine blk_far ?_ NB200_216.out _; (with_reducible repeat (first | refine blk_drewN ?_ _ | refine blk_drew ?_ | refine blk_alloc ?_ _)); refine blk_far ?_ NB200_216.out _; (with_reducible repeat (first | refine blk_drewN ?_ _ | refine blk_drew ?_ | refine blk_alloc ?_ _)); refine blk_far ?_ NB200_216.out _; (with_reducible repeat (first | refine blk_drewN ?_ _ | refine blk_drew ?_ | refine blk_alloc ?_ _)); exact BK200.out) hb); have n15_ := Aside0.mk (blk_below (g := gb216) (o := .cells #[.slice Ao61 t201.length co61, .int .i64 t204, .slice Ao66 t205.length co66, .int .i64 t208, .int .i64 t209, .int .i64 t210, .int .i64 t211, .int .i64 t212, .slice Ao67 t213.length co67] 36 (0, 0)) (by (with_reducible repeat (first | refine blk_drewN ?_ _ | refine blk_drew ?_ | refine blk_alloc ?_ _)); refine blk_put (cs := #[.slice Ao61 t201.length co61, .int .i64 t204, .slice Ao66 t205.length co66, .int .i64 t208, .int .i64 t209, .int .i64 t210, .int .i64 t211, .int .i64 t212, .slice none 0 0]) ?_ 8 _ rfl; (with_reducible repeat (first | refine blk_drewN ?_ _ | refine blk_drew ?_ | refine blk_alloc ?_ _)); refine blk_put (cs := #[.slice Ao61 t201.length co61, .int .i64 t204, .slice Ao66 t205.length co66, .int .i64 t208, .int .i64 t209, .int .i64 t210, .int .i64 t211, .int .i64 0, .slice none 0 0]) ?_ 7 _ rfl; (with_reducible repeat (first | refine blk_drewN ?_ _ | refine blk_drew ?_ | refine blk_alloc ?_ _)); refine blk_put (cs := #[.slice Ao61 t201.length co61, .int .i64 t204, .slice Ao66 t205.length co66, .int .i64 t208, .int .i64 t209, .int .i64 t210, .int .i64 0, .int .i64 0, .slice none 0 0]) ?_ 6 _ rfl; (with_reducible repeat (first | refine blk_drewN ?_ _ | refine blk_drew ?_ | refine blk_alloc ?_ _)); refine blk_put (cs := #[.slice Ao61 t201.length co61, .int .i64 t204, .slice Ao66 t205.length co66, .int .i64 t208, .int .i64 t209, .int .i64 0, .int .i64 0, .int .i64 0, .slice none 0 0]) ?_ 5 _ rfl; (with_reducible repeat (first | refine blk_drewN ?_ _ | refine blk_drew ?_ | refine blk_alloc ?_ _)); refine blk_put (cs := #[.slice Ao61 t201.length co61, .int .i64 t204, .slice Ao66 t205.length co66, .int .i64 t208, .int .i64 0, .int .i64 0, .int .i64 0, .int .i64 0, .slice none 0 0]) ?_ 4 _ rfl; (with_reducible repeat (first | refine blk_drewN ?_ _ | refine blk_drew ?_ | refine blk_alloc ?_ _)); refine blk_put (cs := #[.slice Ao61 t201.length co61, .int .i64 t204, .slice Ao66 t205.length co66, .int .i64 0, .int .i64 0, .int .i64 0, .int .i64 0, .int .i64 0, .slice none 0 0]) ?_ 3 _ rfl; (with_reducible repeat (first | refine blk_drewN ?_ _ | refine blk_drew ?_ | refine blk_alloc ?_ _)); refine blk_put (cs := #[.slice Ao61 t201.length co61, .int .i64 t204, .slice none 0 0, .int .i64 0, .int .i64 0, .int .i64 0, .int .i64 0, .int .i64 0, .slice none 0 0]) ?_ 2 _ rfl; (with_reducible repeat (first | refine blk_drewN ?_ _ | refine blk_drew ?_ | refine blk_alloc ?_ _)); refine blk_put (cs := #[.slice Ao61 t201.length co61, .int .i64 0, .slice none 0 0, .int .i64 0, .int .i64 0, .int .i64 0, .int .i64 0, .int .i64 0, .slice none 0 0]) ?_ 1 _ rfl; (with_reducible repeat (first | refine blk_drewN ?_ _ | refine blk_drew ?_ | refine blk_alloc ?_ _)); refine blk_put (cs := #[.slice none 0 0, .int .i64 0, .slice none 0 0, .int .i64 0, .int .i64 0, .int .i64 0, .int .i64 0, .int .i64 0, .slice none 0 0]) ?_ 0 _ rfl; (with_reducible repeat (first | refine blk_drewN ?_ _ | refine blk_drew ?_ | refine blk_alloc ?_ _)); exact BK216.out) hb); have n16_ := Aside0.mk (below_step bl_ hb); clear HO156; clear HO160; clear HO168; clear HO171; clear HO175; clear HO183; clear HO187; clear HO191; clear HO199; clear HO203; clear HO207; clear HO215; clear BK150; clear BK151; clear BK200; clear BK216; clear HB; have HO156 := n0_; have HO160 := n1_; have HO168 := n2_; have HO171 := n3_; have HO175 := n4_; have HO183 := n5_; have HO187 := n6_; have HO191 := n7_; have HO199 := n8_; have HO203 := n9_; have HO207 := n10_; have HO215 := n11_; have BK150 := n12_; have BK151 := n13_; have BK200 := n14_; have BK216 := n15_; have HB := n16_; clear n0_ n1_ n2_ n3_ n4_ n5_ n6_ n7_ n8_ n9_ n10_ n11_ n12_ n13_ n14_ n15_ n16_; (try clear hb); (try clear hb2); (try clear hk); (try clear hi)))
            have n0_ := Aside0.mk (Kd.R_drew HO156.out)
            have n1_ := Aside0.mk (Kd.R_drew HO160.out)
            have n2_ := Aside0.mk (Kd.R_drew HO168.out)
            have n3_ := Aside0.mk (Kd.R_drew HO171.out)
            have n4_ := Aside0.mk (Kd.R_drew HO175.out)
            have n5_ := Aside0.mk (Kd.R_drew HO183.out)
            have n6_ := Aside0.mk (Kd.R_drew HO187.out)
            have n7_ := Aside0.mk (Kd.R_drew HO191.out)
            have n8_ := Aside0.mk (Kd.R_drew HO199.out)
            have n9_ := Aside0.mk (Kd.R_drew HO203.out)
            have n10_ := Aside0.mk (Kd.R_drew HO207.out)
            have n11_ := Aside0.mk (Kd.R_drew HO215.out)
            have n12_ := Aside0.mk (blk_drew BK150.out)
            have n13_ := Aside0.mk (blk_drew BK151.out)
            have n14_ := Aside0.mk (blk_drew BK200.out)
            have n15_ := Aside0.mk (blk_drew BK216.out)
            have n16_ := Aside0.mk (below_drew1 HB.out)
            clear HO156
            clear HO160
            clear HO168
            clear HO171
            clear HO175
            clear HO183
            clear HO187
            clear HO191
            clear HO199
            clear HO203
            clear HO207
            clear HO215
            clear BK150
            clear BK151
            clear BK200
            clear BK216
            clear HB
            have HO156 := n0_
            have HO160 := n1_
            have HO168 := n2_
            have HO171 := n3_
            have HO175 := n4_
            have HO183 := n5_
            have HO187 := n6_
            have HO191 := n7_
            have HO199 := n8_
            have HO203 := n9_
            have HO207 := n10_
            have HO215 := n11_
            have BK150 := n12_
            have BK151 := n13_
            have BK200 := n14_
            have BK216 := n15_
            have HB := n16_
            clear n0_ n1_ n2_ n3_ n4_ n5_ n6_ n7_ n8_ n9_ n10_ n11_ n12_ n13_ n14_ n15_ n16_
            refine start_ (n := 5) (S := fun w' => w'.cell? ⟨gb200, 0, none⟩ = some (.slice Ao52 t185.length co52) ∧ w'.cell? ⟨gb200, 1, none⟩ = some (.int .i64 t188) ∧ w'.cell? ⟨gb200, 2, none⟩ = some (.slice Ao56 t189.length co56) ∧ w'.cell? ⟨gb200, 3, none⟩ = some (.int .i64 t192) ∧ w'.cell? ⟨gb200, 4, none⟩ = some (.int .i64 t193) ∧ w'.cell? ⟨gb200, 5, none⟩ = some (.int .i64 t194) ∧ w'.cell? ⟨gb200, 6, none⟩ = some (.int .i64 t195) ∧ w'.cell? ⟨gb200, 7, none⟩ = some (.int .i64 t196) ∧ w'.cell? ⟨gb200, 8, none⟩ = some (.slice Ao57 t197.length co57) ∧ w'.cell? ⟨gb150, 0, none⟩ = some (.slice A0_0 l0_0.length c0_0) ∧ w'.cell? ⟨gb150, 1, none⟩ = some (.int .i64 a0_1) ∧ w'.cell? ⟨gb150, 2, none⟩ = some (.slice A0_2 l0_2.length c0_2) ∧ w'.cell? ⟨gb150, 3, none⟩ = some (.int .i64 a0_3) ∧ w'.cell? ⟨gb150, 4, none⟩ = some (.int .i64 a0_4) ∧ w'.cell? ⟨gb150, 5, none⟩ = some (.int .i64 a0_5) ∧ w'.cell? ⟨gb150, 6, none⟩ = some (.int .i64 a0_6) ∧ w'.cell? ⟨gb150, 7, none⟩ = some (.int .i64 a0_7) ∧ w'.cell? ⟨gb150, 8, none⟩ = some (.slice A0_8 l0_8.length c0_8)) (ds := []) #[false, false, false, false, false] (by kernel_rfl) rfl rfl ⟨(blk_cell BK200.out 0).trans rfl, (blk_cell BK200.out 1).trans rfl, (blk_cell BK200.out 2).trans rfl, (blk_cell BK200.out 3).trans rfl, (blk_cell BK200.out 4).trans rfl, (blk_cell BK200.out 5).trans rfl, (blk_cell BK200.out 6).trans rfl, (blk_cell BK200.out 7).trans rfl, (blk_cell BK200.out 8).trans rfl, (blk_cell BK150.out 0).trans rfl, (blk_cell BK150.out 1).trans rfl, (blk_cell BK150.out 2).trans rfl, (blk_cell BK150.out 3).trans rfl, (blk_cell BK150.out 4).trans rfl, (blk_cell BK150.out 5).trans rfl, (blk_cell BK150.out 6).trans rfl, (blk_cell BK150.out 7).trans rfl, (blk_cell BK150.out 8).trans rfl⟩ (fun hHeld => ?_)
            generalize w69.drew = w70 at HO156 HO160 HO168 HO171 HO175 HO183 HO187 HO191 HO199 HO203 HO207 HO215 BK150 BK151 BK200 BK216 HB hHeld ⊢
            refine take_ (i := 0) (N := some 35) (v := ?_) (a' := ?_) #[true, false, false, false, false] rfl rfl (by kernel_rfl) (fun _ _ _ h => h) (Or.inl ⟨by rfl, ?_⟩) hHeld ?_ ?_
            rotate_left
            · rintro w' ⟨s0, s1, s2, s3, s4, s5, s6, s7, s8, s9, s10, s11, s12, s13, s14, s15, s16, s17⟩
              go_simp
              with_reducible rfl
            rotate_left
            · simp only [Act.put, List.setIfInBounds_toArray, List.set_cons_zero, List.set_cons_succ, i64_w, i32_w]
              rfl
            refine take_ (i := 1) (N := some 36) (v := ?_) (a' := ?_) #[true, true, false, false, false] rfl rfl (by kernel_rfl) (fun _ _ _ h => h) (Or.inl ⟨by rfl, ?_⟩) hHeld ?_ ?_
            rotate_left
            · rintro w' ⟨s0, s1, s2, s3, s4, s5, s6, s7, s8, s9, s10, s11, s12, s13, s14, s15, s16, s17⟩
              go_simp
              with_reducible rfl
            rotate_left
            · simp only [Act.put, List.setIfInBounds_toArray, List.set_cons_zero, List.set_cons_succ, i64_w, i32_w]
              rfl
            refine one_ (i := 2) (N := some 37) #[true, true, true, false, false] rfl rfl (by kernel_rfl) (by decide) (fun K hK => ?_)
            refine goes_ Try.func24 (by kernel_rfl) rfl #[.agg #[.slice A0_0 l0_0.length c0_0, .int .i64 a0_1, .slice A0_2 l0_2.length c0_2, .int .i64 a0_3, .int .i64 a0_4, .int .i64 a0_5, .int .i64 a0_6, .int .i64 a0_7, .slice A0_8 l0_8.length c0_8]] (by rfl) rfl rfl gl_ ?_
            with_reducible refine (laws_toTask.calls k _ _ l0_0 a0_1 _ _ l0_2 a0_3 a0_4 a0_5 a0_6 a0_7 _ _ l0_8 t218 t221 t222 t225 t226 t227 t228 t229 t230 _ ?side1 ?side2 ?side3 ?side4 ?side5 ?side6 A26.out).mono ?_
            (case side1 => exact ca_ (Kd.C_below HR0_0.out HB.out))
            (case side2 => exact HC0_0.out)
            (case side3 => exact ca_ (Kd.C_below HR0_2.out HB.out))
            (case side4 => exact HC0_2.out)
            (case side5 => exact ca_ (Kd.C_below HR0_8.out HB.out))
            (case side6 => exact HC0_8.out)
            rintro e w71 ⟨v219, v223, v231, rfl, ho0, ho1, ho2, hb⟩
            refine ⟨_, rfl, ?_⟩
            have n0_ := Aside0.mk (Kd.R_mono (Kd.R_told (Kd.R_told (Kd.R_old (ra_ HO156) hb) (Kd.R_base ho0)) (Kd.R_base ho2)) (fun _ h_ => h_.1))
            have n1_ := Aside0.mk (Kd.R_elder' (ra_ HO160) (Kd.R_base ho1) hb)
            have n2_ := Aside0.mk (Kd.R_mono (Kd.R_told (Kd.R_told (Kd.R_old (ra_ HO168) hb) (Kd.R_base ho0)) (Kd.R_base ho2)) (fun _ h_ => h_.1))
            have n3_ := Aside0.mk (Kd.R_mono (Kd.R_told (Kd.R_told (Kd.R_old (ra_ HO171) hb) (Kd.R_base ho0)) (Kd.R_base ho2)) (fun _ h_ => h_.1))
            have n4_ := Aside0.mk (Kd.R_elder' (ra_ HO175) (Kd.R_base ho1) hb)
            have n5_ := Aside0.mk (Kd.R_mono (Kd.R_told (Kd.R_told (Kd.R_old (ra_ HO183) hb) (Kd.R_base ho0)) (Kd.R_base ho2)) (fun _ h_ => h_.1))
            have n6_ := Aside0.mk (Kd.R_mono (Kd.R_told (Kd.R_told (Kd.R_old (ra_ HO187) hb) (Kd.R_base ho0)) (Kd.R_base ho2)) (fun _ h_ => h_.1))
            have n7_ := Aside0.mk (Kd.R_elder' (ra_ HO191) (Kd.R_base ho1) hb)
            have n8_ := Aside0.mk (Kd.R_mono (Kd.R_told (Kd.R_told (Kd.R_old (ra_ HO199) hb) (Kd.R_base ho0)) (Kd.R_base ho2)) (fun _ h_ => h_.1))
            have n9_ := Aside0.mk (Kd.R_mono (Kd.R_told (Kd.R_told (Kd.R_old (ra_ HO203) hb) (Kd.R_base ho0)) (Kd.R_base ho2)) (fun _ h_ => h_.1))
            have n10_ := Aside0.mk (Kd.R_elder' (ra_ HO207) (Kd.R_base ho1) hb)
            have n11_ := Aside0.mk (Kd.R_mono (Kd.R_told (Kd.R_told (Kd.R_old (ra_ HO215) hb) (Kd.R_base ho0)) (Kd.R_base ho2)) (fun _ h_ => h_.1))
            have n12_ := Aside0.mk (Kd.R_lower (Kd.R_new' (Kd.R_new' (Kd.R_new' (Kd.R_new' (Kd.R_new' (Kd.R_new' (Kd.R_new' (Kd.R_new' ho0 (Kd.R_lt (ra_ HO156))) (Kd.R_lt (ra_ HO168))) (Kd.R_lt (ra_ HO171))) (Kd.R_lt (ra_ HO183))) (Kd.R_lt (ra_ HO187))) (Kd.R_lt (ra_ HO199))) (Kd.R_lt (ra_ HO203))) (Kd.R_lt (ra_ HO215))) (below_size bl_))
            have n13_ := Aside0.mk (Kd.R_lower (Kd.R_new' (Kd.R_new' (Kd.R_new' (Kd.R_new' ho1 (Kd.R_lt (ra_ HO160))) (Kd.R_lt (ra_ HO175))) (Kd.R_lt (ra_ HO191))) (Kd.R_lt (ra_ HO207))) (below_size bl_))
            have n14_ := Aside0.mk (Kd.R_lower (Kd.R_new' (Kd.R_new' (Kd.R_new' (Kd.R_new' (Kd.R_new' (Kd.R_new' (Kd.R_new' (Kd.R_new' ho2 (Kd.R_lt (ra_ HO156))) (Kd.R_lt (ra_ HO168))) (Kd.R_lt (ra_ HO171))) (Kd.R_lt (ra_ HO183))) (Kd.R_lt (ra_ HO187))) (Kd.R_lt (ra_ HO199))) (Kd.R_lt (ra_ HO203))) (Kd.R_lt (ra_ HO215))) (below_size bl_))
            have n15_ := Aside0.mk (blk_below (bk_ BK150) hb)
            have n16_ := Aside0.mk (blk_below (bk_ BK151) hb)
            have n17_ := Aside0.mk (blk_below (bk_ BK200) hb)
            have n18_ := Aside0.mk (blk_below (bk_ BK216) hb)
            have n19_ := Aside0.mk (below_step bl_ hb)
            clear HO156
            clear HO160
            clear HO168
            clear HO171
            clear HO175
            clear HO183
            clear HO187
            clear HO191
            clear HO199
            clear HO203
            clear HO207
            clear HO215
            clear BK150
            clear BK151
            clear BK200
            clear BK216
            clear HB
            have HO156 := n0_
            have HO160 := n1_
            have HO168 := n2_
            have HO171 := n3_
            have HO175 := n4_
            have HO183 := n5_
            have HO187 := n6_
            have HO191 := n7_
            have HO199 := n8_
            have HO203 := n9_
            have HO207 := n10_
            have HO215 := n11_
            have HO220 := n12_
            have HO224 := n13_
            have HO232 := n14_
            have BK150 := n15_
            have BK151 := n16_
            have BK200 := n17_
            have BK216 := n18_
            have HB := n19_
            clear n0_ n1_ n2_ n3_ n4_ n5_ n6_ n7_ n8_ n9_ n10_ n11_ n12_ n13_ n14_ n15_ n16_ n17_ n18_ n19_
            (try clear hb)
            (try clear hb2)
            (try clear hk)
            (try clear hi)
            (try clear ho0)
            (try clear ho1)
            (try clear ho2)
            obtain ⟨Ao72, co72, eo72⟩ := Kd.R_slice HO220.out
            (first | subst eo72 | (injection eo72 with f1_ f2_ f3_; have f4_ := f1_.symm; have f5_ := f3_.symm; clear f1_ f2_ f3_; subst f4_; subst f5_))
            obtain ⟨Ao73, co73, eo73⟩ := Kd.R_slice HO224.out
            (first | subst eo73 | (injection eo73 with f1_ f2_ f3_; have f4_ := f1_.symm; have f5_ := f3_.symm; clear f1_ f2_ f3_; subst f4_; subst f5_))
            obtain ⟨Ao74, co74, eo74⟩ := Kd.R_slice HO232.out
            (first | subst eo74 | (injection eo74 with f1_ f2_ f3_; have f4_ := f1_.symm; have f5_ := f3_.symm; clear f1_ f2_ f3_; subst f4_; subst f5_))
            refine hK.out _ _ ⟨(blk_cell BK200.out 0).trans rfl, (blk_cell BK200.out 1).trans rfl, (blk_cell BK200.out 2).trans rfl, (blk_cell BK200.out 3).trans rfl, (blk_cell BK200.out 4).trans rfl, (blk_cell BK200.out 5).trans rfl, (blk_cell BK200.out 6).trans rfl, (blk_cell BK200.out 7).trans rfl, (blk_cell BK200.out 8).trans rfl, (blk_cell BK150.out 0).trans rfl, (blk_cell BK150.out 1).trans rfl, (blk_cell BK150.out 2).trans rfl, (blk_cell BK150.out 3).trans rfl, (blk_cell BK150.out 4).trans rfl, (blk_cell BK150.out 5).trans rfl, (blk_cell BK150.out 6).trans rfl, (blk_cell BK150.out 7).trans rfl, (blk_cell BK150.out 8).trans rfl⟩ (fun hHeld => ?_)
            clear hK K
            refine norm_ (a' := ?_) ?_ ?_
            rotate_left
            · show Act.put _ (some 37) _ = _
              simp only [Act.put, List.setIfInBounds_toArray, List.set_cons_zero, List.set_cons_succ, i64_w, i32_w]
              rfl
            refine one_ (i := 3) (N := some 38) #[true, true, true, true, false] rfl rfl (by kernel_rfl) (by decide) (fun K hK => ?_)
            refine goes_ Try.func26 (by kernel_rfl) rfl #[.agg #[.slice Ao52 t185.length co52, .int .i64 t188, .slice Ao56 t189.length co56, .int .i64 t192, .int .i64 t193, .int .i64 t194, .int .i64 t195, .int .i64 t196, .slice Ao57 t197.length co57], .agg #[.slice Ao72 t218.length co72, .int .i64 t221, .slice Ao73 t222.length co73, .int .i64 t225, .int .i64 t226, .int .i64 t227, .int .i64 t228, .int .i64 t229, .slice Ao74 t230.length co74]] (by rfl) rfl rfl gl_ ?_
            with_reducible refine (laws_eqTask.calls k _ _ t185 t188 _ _ t189 t192 t193 t194 t195 t196 _ _ t197 _ _ t218 t221 _ _ t222 t225 t226 t227 t228 t229 _ _ t230 true _ ?side1 ?side2 ?side3 ?side4 ?side5 ?side6 ?side7 ?side8 ?side9 ?side10 ?side11 ?side12 A27.out).mono ?_
            (case side1 => exact ca_ ((Kd.R_reads' HO187.out).2.2))
            (case side2 => exact (Kd.R_reads' HO187.out).2.1)
            (case side3 => exact ca_ ((Kd.R_reads' HO191.out).2.2))
            (case side4 => exact (Kd.R_reads' HO191.out).2.1)
            (case side5 => exact ca_ ((Kd.R_reads' HO199.out).2.2))
            (case side6 => exact (Kd.R_reads' HO199.out).2.1)
            (case side7 => exact ca_ ((Kd.R_reads' HO220.out).2.2))
            (case side8 => exact (Kd.R_reads' HO220.out).2.1)
            (case side9 => exact ca_ ((Kd.R_reads' HO224.out).2.2))
            (case side10 => exact (Kd.R_reads' HO224.out).2.1)
            (case side11 => exact ca_ ((Kd.R_reads' HO232.out).2.2))
            (case side12 => exact (Kd.R_reads' HO232.out).2.1)
            rintro e w75 ⟨rfl, hb⟩
            refine ⟨_, rfl, ?_⟩
            have n0_ := Aside0.mk (Kd.R_below (ra_ HO156) hb)
            have n1_ := Aside0.mk (Kd.R_below (ra_ HO160) hb)
            have n2_ := Aside0.mk (Kd.R_below (ra_ HO168) hb)
            have n3_ := Aside0.mk (Kd.R_below (ra_ HO171) hb)
            have n4_ := Aside0.mk (Kd.R_below (ra_ HO175) hb)
            have n5_ := Aside0.mk (Kd.R_below (ra_ HO183) hb)
            have n6_ := Aside0.mk (Kd.R_below (ra_ HO187) hb)
            have n7_ := Aside0.mk (Kd.R_below (ra_ HO191) hb)
            have n8_ := Aside0.mk (Kd.R_below (ra_ HO199) hb)
            have n9_ := Aside0.mk (Kd.R_below (ra_ HO203) hb)
            have n10_ := Aside0.mk (Kd.R_below (ra_ HO207) hb)
            have n11_ := Aside0.mk (Kd.R_below (ra_ HO215) hb)
            have n12_ := Aside0.mk (Kd.R_below (ra_ HO220) hb)
            have n13_ := Aside0.mk (Kd.R_below (ra_ HO224) hb)
            have n14_ := Aside0.mk (Kd.R_below (ra_ HO232) hb)
            have n15_ := Aside0.mk (blk_below (bk_ BK150) hb)
            have n16_ := Aside0.mk (blk_below (bk_ BK151) hb)
            have n17_ := Aside0.mk (blk_below (bk_ BK200) hb)
            have n18_ := Aside0.mk (blk_below (bk_ BK216) hb)
            have n19_ := Aside0.mk (below_step bl_ hb)
            clear HO156
            clear HO160
            clear HO168
            clear HO171
            clear HO175
            clear HO183
            clear HO187
            clear HO191
            clear HO199
            clear HO203
            clear HO207
            clear HO215
            clear HO220
            clear HO224
            clear HO232
            clear BK150
            clear BK151
            clear BK200
            clear BK216
            clear HB
            have HO156 := n0_
            have HO160 := n1_
            have HO168 := n2_
            have HO171 := n3_
            have HO175 := n4_
            have HO183 := n5_
            have HO187 := n6_
            have HO191 := n7_
            have HO199 := n8_
            have HO203 := n9_
            have HO207 := n10_
            have HO215 := n11_
            have HO220 := n12_
            have HO224 := n13_
            have HO232 := n14_
            have BK150 := n15_
            have BK151 := n16_
            have BK200 := n17_
            have BK216 := n18_
            have HB := n19_
            clear n0_ n1_ n2_ n3_ n4_ n5_ n6_ n7_ n8_ n9_ n10_ n11_ n12_ n13_ n14_ n15_ n16_ n17_ n18_ n19_
            (try clear hb)
            (try clear hb2)
            (try clear hk)
            (try clear hi)
            refine hK.out _ _ ⟨(blk_cell BK200.out 0).trans rfl, (blk_cell BK200.out 1).trans rfl, (blk_cell BK200.out 2).trans rfl, (blk_cell BK200.out 3).trans rfl, (blk_cell BK200.out 4).trans rfl, (blk_cell BK200.out 5).trans rfl, (blk_cell BK200.out 6).trans rfl, (blk_cell BK200.out 7).trans rfl, (blk_cell BK200.out 8).trans rfl, (blk_cell BK150.out 0).trans rfl, (blk_cell BK150.out 1).trans rfl, (blk_cell BK150.out 2).trans rfl, (blk_cell BK150.out 3).trans rfl, (blk_cell BK150.out 4).trans rfl, (blk_cell BK150.out 5).trans rfl, (blk_cell BK150.out 6).trans rfl, (blk_cell BK150.out 7).trans rfl, (blk_cell BK150.out 8).trans rfl⟩ (fun hHeld => ?_)
            clear hK K
            refine norm_ (a' := ?_) ?_ ?_
            rotate_left
            · show Act.put _ (some 38) _ = _
              simp only [Act.put, List.setIfInBounds_toArray, List.set_cons_zero, List.set_cons_succ, i64_w, i32_w]
              rfl
            refine pure_ (i := 4) (N := some 39) (v := ?_) (a' := ?_) #[true, true, true, true, true] rfl rfl (by kernel_rfl) (fun _ _ _ h => h) (Or.inl ⟨by rfl, ?_⟩) ?_ ?_
            rotate_left
            · intro w'
              go_simp
              with_reducible rfl
            rotate_left
            · simp only [Act.put, List.setIfInBounds_toArray, List.set_cons_zero, List.set_cons_succ, i64_w, i32_w]
              rfl
            refine done_ (by kernel_rfl) ?_
            try go_wp2
            have n0_ := Aside0.mk (Kd.R_drew HO156.out)
            have n1_ := Aside0.mk (Kd.R_drew HO160.out)
            have n2_ := Aside0.mk (Kd.R_drew HO168.out)
            have n3_ := Aside0.mk (Kd.R_drew HO171.out)
            have n4_ := Aside0.mk (Kd.R_drew HO175.out)
            have n5_ := Aside0.mk (Kd.R_drew HO183.out)
            have n6_ := Aside0.mk (Kd.R_drew HO187.out)
            have n7_ := Aside0.mk (Kd.R_drew HO191.out)
            have n8_ := Aside0.mk (Kd.R_drew HO199.out)
            have n9_ := Aside0.mk (Kd.R_drew HO203.out)
            have n10_ := Aside0.mk (Kd.R_drew HO207.out)
            have n11_ := Aside0.mk (Kd.R_drew HO215.out)
            have n12_ := Aside0.mk (Kd.R_drew HO220.out)
            have n13_ := Aside0.mk (Kd.R_drew HO224.out)
            have n14_ := Aside0.mk (Kd.R_drew HO232.out)
            have n15_ := Aside0.mk (blk_drew BK150.out)
            have n16_ := Aside0.mk (blk_drew BK151.out)
            have n17_ := Aside0.mk (blk_drew BK200.out)
            have n18_ := Aside0.mk (blk_drew BK216.out)
            have n19_ := Aside0.mk (below_drew1 HB.out)
            clear HO156
            clear HO160
            clear HO168
            clear HO171
            clear HO175
            clear HO183
            clear HO187
            clear HO191
            clear HO199
            clear HO203
            clear HO207
            clear HO215
            clear HO220
            clear HO224
            clear HO232
            clear BK150
            clear BK151
            clear BK200
            clear BK216
            clear HB
            have HO156 := n0_
            have HO160 := n1_
            have HO168 := n2_
            have HO171 := n3_
            have HO175 := n4_
            have HO183 := n5_
            have HO187 := n6_
            have HO191 := n7_
            have HO199 := n8_
            have HO203 := n9_
            have HO207 := n10_
            have HO215 := n11_
            have HO220 := n12_
            have HO224 := n13_
            have HO232 := n14_
            have BK150 := n15_
            have BK151 := n16_
            have BK200 := n17_
            have BK216 := n18_
            have HB := n19_
            clear n0_ n1_ n2_ n3_ n4_ n5_ n6_ n7_ n8_ n9_ n10_ n11_ n12_ n13_ n14_ n15_ n16_ n17_ n18_ n19_
            refine start_ (n := 5) (S := fun w' => w'.cell? ⟨gb216, 0, none⟩ = some (.slice Ao61 t201.length co61) ∧ w'.cell? ⟨gb216, 1, none⟩ = some (.int .i64 t204) ∧ w'.cell? ⟨gb216, 2, none⟩ = some (.slice Ao66 t205.length co66) ∧ w'.cell? ⟨gb216, 3, none⟩ = some (.int .i64 t208) ∧ w'.cell? ⟨gb216, 4, none⟩ = some (.int .i64 t209) ∧ w'.cell? ⟨gb216, 5, none⟩ = some (.int .i64 t210) ∧ w'.cell? ⟨gb216, 6, none⟩ = some (.int .i64 t211) ∧ w'.cell? ⟨gb216, 7, none⟩ = some (.int .i64 t212) ∧ w'.cell? ⟨gb216, 8, none⟩ = some (.slice Ao67 t213.length co67) ∧ w'.cell? ⟨gb151, 0, none⟩ = some (.slice A1_0 l1_0.length c1_0) ∧ w'.cell? ⟨gb151, 1, none⟩ = some (.int .i64 a1_1) ∧ w'.cell? ⟨gb151, 2, none⟩ = some (.slice A1_2 l1_2.length c1_2) ∧ w'.cell? ⟨gb151, 3, none⟩ = some (.int .i64 a1_3) ∧ w'.cell? ⟨gb151, 4, none⟩ = some (.int .i64 a1_4) ∧ w'.cell? ⟨gb151, 5, none⟩ = some (.int .i64 a1_5) ∧ w'.cell? ⟨gb151, 6, none⟩ = some (.int .i64 a1_6) ∧ w'.cell? ⟨gb151, 7, none⟩ = some (.int .i64 a1_7) ∧ w'.cell? ⟨gb151, 8, none⟩ = some (.slice A1_8 l1_8.length c1_8)) (ds := []) #[false, false, false, false, false] (by kernel_rfl) rfl rfl ⟨(blk_cell BK216.out 0).trans rfl, (blk_cell BK216.out 1).trans rfl, (blk_cell BK216.out 2).trans rfl, (blk_cell BK216.out 3).trans rfl, (blk_cell BK216.out 4).trans rfl, (blk_cell BK216.out 5).trans rfl, (blk_cell BK216.out 6).trans rfl, (blk_cell BK216.out 7).trans rfl, (blk_cell BK216.out 8).trans rfl, (blk_cell BK151.out 0).trans rfl, (blk_cell BK151.out 1).trans rfl, (blk_cell BK151.out 2).trans rfl, (blk_cell BK151.out 3).trans rfl, (blk_cell BK151.out 4).trans rfl, (blk_cell BK151.out 5).trans rfl, (blk_cell BK151.out 6).trans rfl, (blk_cell BK151.out 7).trans rfl, (blk_cell BK151.out 8).trans rfl⟩ (fun hHeld => ?_)
            generalize w75.drew = w76 at HO156 HO160 HO168 HO171 HO175 HO183 HO187 HO191 HO199 HO203 HO207 HO215 HO220 HO224 HO232 BK150 BK151 BK200 BK216 HB hHeld ⊢
            refine take_ (i := 0) (N := some 40) (v := ?_) (a' := ?_) #[true, false, false, false, false] rfl rfl (by kernel_rfl) (fun _ _ _ h => h) (Or.inl ⟨by rfl, ?_⟩) hHeld ?_ ?_
            rotate_left
            · rintro w' ⟨s0, s1, s2, s3, s4, s5, s6, s7, s8, s9, s10, s11, s12, s13, s14, s15, s16, s17⟩
              go_simp
              with_reducible rfl
            rotate_left
            · simp only [Act.put, List.setIfInBounds_toArray, List.set_cons_zero, List.set_cons_succ, i64_w, i32_w]
              rfl
            refine take_ (i := 1) (N := some 41) (v := ?_) (a' := ?_) #[true, true, false, false, false] rfl rfl (by kernel_rfl) (fun _ _ _ h => h) (Or.inl ⟨by rfl, ?_⟩) hHeld ?_ ?_
            rotate_left
            · rintro w' ⟨s0, s1, s2, s3, s4, s5, s6, s7, s8, s9, s10, s11, s12, s13, s14, s15, s16, s17⟩
              go_simp
              with_reducible rfl
            rotate_left
            · simp only [Act.put, List.setIfInBounds_toArray, List.set_cons_zero, List.set_cons_succ, i64_w, i32_w]
              rfl
            refine one_ (i := 2) (N := some 42) #[true, true, true, false, false] rfl rfl (by kernel_rfl) (by decide) (fun K hK => ?_)
            refine goes_ Try.func24 (by kernel_rfl) rfl #[.agg #[.slice A1_0 l1_0.length c1_0, .int .i64 a1_1, .slice A1_2 l1_2.length c1_2, .int .i64 a1_3, .int .i64 a1_4, .int .i64 a1_5, .int .i64 a1_6, .int .i64 a1_7, .slice A1_8 l1_8.length c1_8]] (by rfl) rfl rfl gl_ ?_
            with_reducible refine (laws_toTask.calls k _ _ l1_0 a1_1 _ _ l1_2 a1_3 a1_4 a1_5 a1_6 a1_7 _ _ l1_8 t234 t237 t238 t241 t242 t243 t244 t245 t246 _ ?side1 ?side2 ?side3 ?side4 ?side5 ?side6 A29.out).mono ?_
            (case side1 => exact ca_ (Kd.C_below HR1_0.out HB.out))
            (case side2 => exact HC1_0.out)
            (case side3 => exact ca_ (Kd.C_below HR1_2.out HB.out))
            (case side4 => exact HC1_2.out)
            (case side5 => exact ca_ (Kd.C_below HR1_8.out HB.out))
            (case side6 => exact HC1_8.out)
            rintro e w77 ⟨v235, v239, v247, rfl, ho0, ho1, ho2, hb⟩
            refine ⟨_, rfl, ?_⟩
            have n0_ := Aside0.mk (Kd.R_mono (Kd.R_told (Kd.R_told (Kd.R_old (ra_ HO156) hb) (Kd.R_base ho0)) (Kd.R_base ho2)) (fun _ h_ => h_.1))
            have n1_ := Aside0.mk (Kd.R_elder' (ra_ HO160) (Kd.R_base ho1) hb)
            have n2_ := Aside0.mk (Kd.R_mono (Kd.R_told (Kd.R_told (Kd.R_old (ra_ HO168) hb) (Kd.R_base ho0)) (Kd.R_base ho2)) (fun _ h_ => h_.1))
            have n3_ := Aside0.mk (Kd.R_mono (Kd.R_told (Kd.R_told (Kd.R_old (ra_ HO171) hb) (Kd.R_base ho0)) (Kd.R_base ho2)) (fun _ h_ => h_.1))
            have n4_ := Aside0.mk (Kd.R_elder' (ra_ HO175) (Kd.R_base ho1) hb)
            have n5_ := Aside0.mk (Kd.R_mono (Kd.R_told (Kd.R_told (Kd.R_old (ra_ HO183) hb) (Kd.R_base ho0)) (Kd.R_base ho2)) (fun _ h_ => h_.1))
            have n6_ := Aside0.mk (Kd.R_mono (Kd.R_told (Kd.R_told (Kd.R_old (ra_ HO187) hb) (Kd.R_base ho0)) (Kd.R_base ho2)) (fun _ h_ => h_.1))
            have n7_ := Aside0.mk (Kd.R_elder' (ra_ HO191) (Kd.R_base ho1) hb)
            have n8_ := Aside0.mk (Kd.R_mono (Kd.R_told (Kd.R_told (Kd.R_old (ra_ HO199) hb) (Kd.R_base ho0)) (Kd.R_base ho2)) (fun _ h_ => h_.1))
            have n9_ := Aside0.mk (Kd.R_mono (Kd.R_told (Kd.R_told (Kd.R_old (ra_ HO203) hb) (Kd.R_base ho0)) (Kd.R_base ho2)) (fun _ h_ => h_.1))
            have n10_ := Aside0.mk (Kd.R_elder' (ra_ HO207) (Kd.R_base ho1) hb)
            have n11_ := Aside0.mk (Kd.R_mono (Kd.R_told (Kd.R_told (Kd.R_old (ra_ HO215) hb) (Kd.R_base ho0)) (Kd.R_base ho2)) (fun _ h_ => h_.1))
            have n12_ := Aside0.mk (Kd.R_mono (Kd.R_told (Kd.R_told (Kd.R_old (ra_ HO220) hb) (Kd.R_base ho0)) (Kd.R_base ho2)) (fun _ h_ => h_.1))
            have n13_ := Aside0.mk (Kd.R_elder' (ra_ HO224) (Kd.R_base ho1) hb)
            have n14_ := Aside0.mk (Kd.R_mono (Kd.R_told (Kd.R_told (Kd.R_old (ra_ HO232) hb) (Kd.R_base ho0)) (Kd.R_base ho2)) (fun _ h_ => h_.1))
            have n15_ := Aside0.mk (Kd.R_lower (Kd.R_new' (Kd.R_new' (Kd.R_new' (Kd.R_new' (Kd.R_new' (Kd.R_new' (Kd.R_new' (Kd.R_new' (Kd.R_new' (Kd.R_new' ho0 (Kd.R_lt (ra_ HO156))) (Kd.R_lt (ra_ HO168))) (Kd.R_lt (ra_ HO171))) (Kd.R_lt (ra_ HO183))) (Kd.R_lt (ra_ HO187))) (Kd.R_lt (ra_ HO199))) (Kd.R_lt (ra_ HO203))) (Kd.R_lt (ra_ HO215))) (Kd.R_lt (ra_ HO220))) (Kd.R_lt (ra_ HO232))) (below_size bl_))
            have n16_ := Aside0.mk (Kd.R_lower (Kd.R_new' (Kd.R_new' (Kd.R_new' (Kd.R_new' (Kd.R_new' ho1 (Kd.R_lt (ra_ HO160))) (Kd.R_lt (ra_ HO175))) (Kd.R_lt (ra_ HO191))) (Kd.R_lt (ra_ HO207))) (Kd.R_lt (ra_ HO224))) (below_size bl_))
            have n17_ := Aside0.mk (Kd.R_lower (Kd.R_new' (Kd.R_new' (Kd.R_new' (Kd.R_new' (Kd.R_new' (Kd.R_new' (Kd.R_new' (Kd.R_new' (Kd.R_new' (Kd.R_new' ho2 (Kd.R_lt (ra_ HO156))) (Kd.R_lt (ra_ HO168))) (Kd.R_lt (ra_ HO171))) (Kd.R_lt (ra_ HO183))) (Kd.R_lt (ra_ HO187))) (Kd.R_lt (ra_ HO199))) (Kd.R_lt (ra_ HO203))) (Kd.R_lt (ra_ HO215))) (Kd.R_lt (ra_ HO220))) (Kd.R_lt (ra_ HO232))) (below_size bl_))
            have n18_ := Aside0.mk (blk_below (bk_ BK150) hb)
            have n19_ := Aside0.mk (blk_below (bk_ BK151) hb)
            have n20_ := Aside0.mk (blk_below (bk_ BK200) hb)
            have n21_ := Aside0.mk (blk_below (bk_ BK216) hb)
            have n22_ := Aside0.mk (below_step bl_ hb)
            clear HO156
            clear HO160
            clear HO168
            clear HO171
            clear HO175
            clear HO183
            clear HO187
            clear HO191
            clear HO199
            clear HO203
            clear HO207
            clear HO215
            clear HO220
            clear HO224
            clear HO232
            clear BK150
            clear BK151
            clear BK200
            clear BK216
            clear HB
            have HO156 := n0_
            have HO160 := n1_
            have HO168 := n2_
            have HO171 := n3_
            have HO175 := n4_
            have HO183 := n5_
            have HO187 := n6_
            have HO191 := n7_
            have HO199 := n8_
            have HO203 := n9_
            have HO207 := n10_
            have HO215 := n11_
            have HO220 := n12_
            have HO224 := n13_
            have HO232 := n14_
            have HO236 := n15_
            have HO240 := n16_
            have HO248 := n17_
            have BK150 := n18_
            have BK151 := n19_
            have BK200 := n20_
            have BK216 := n21_
            have HB := n22_
            clear n0_ n1_ n2_ n3_ n4_ n5_ n6_ n7_ n8_ n9_ n10_ n11_ n12_ n13_ n14_ n15_ n16_ n17_ n18_ n19_ n20_ n21_ n22_
            (try clear hb)
            (try clear hb2)
            (try clear hk)
            (try clear hi)
            (try clear ho0)
            (try clear ho1)
            (try clear ho2)
            obtain ⟨Ao78, co78, eo78⟩ := Kd.R_slice HO236.out
            (first | subst eo78 | (injection eo78 with f1_ f2_ f3_; have f4_ := f1_.symm; have f5_ := f3_.symm; clear f1_ f2_ f3_; subst f4_; subst f5_))
            obtain ⟨Ao79, co79, eo79⟩ := Kd.R_slice HO240.out
            (first | subst eo79 | (injection eo79 with f1_ f2_ f3_; have f4_ := f1_.symm; have f5_ := f3_.symm; clear f1_ f2_ f3_; subst f4_; subst f5_))
            obtain ⟨Ao80, co80, eo80⟩ := Kd.R_slice HO248.out
            (first | subst eo80 | (injection eo80 with f1_ f2_ f3_; have f4_ := f1_.symm; have f5_ := f3_.symm; clear f1_ f2_ f3_; subst f4_; subst f5_))
            refine hK.out _ _ ⟨(blk_cell BK216.out 0).trans rfl, (blk_cell BK216.out 1).trans rfl, (blk_cell BK216.out 2).trans rfl, (blk_cell BK216.out 3).trans rfl, (blk_cell BK216.out 4).trans rfl, (blk_cell BK216.out 5).trans rfl, (blk_cell BK216.out 6).trans rfl, (blk_cell BK216.out 7).trans rfl, (blk_cell BK216.out 8).trans rfl, (blk_cell BK151.out 0).trans rfl, (blk_cell BK151.out 1).trans rfl, (blk_cell BK151.out 2).trans rfl, (blk_cell BK151.out 3).trans rfl, (blk_cell BK151.out 4).trans rfl, (blk_cell BK151.out 5).trans rfl, (blk_cell BK151.out 6).trans rfl, (blk_cell BK151.out 7).trans rfl, (blk_cell BK151.out 8).trans rfl⟩ (fun hHeld => ?_)
            clear hK K
            refine norm_ (a' := ?_) ?_ ?_
            rotate_left
            · show Act.put _ (some 42) _ = _
              simp only [Act.put, List.setIfInBounds_toArray, List.set_cons_zero, List.set_cons_succ, i64_w, i32_w]
              rfl
            refine one_ (i := 3) (N := some 43) #[true, true, true, true, false] rfl rfl (by kernel_rfl) (by decide) (fun K hK => ?_)
            refine goes_ Try.func26 (by kernel_rfl) rfl #[.agg #[.slice Ao61 t201.length co61, .int .i64 t204, .slice Ao66 t205.length co66, .int .i64 t208, .int .i64 t209, .int .i64 t210, .int .i64 t211, .int .i64 t212, .slice Ao67 t213.length co67], .agg #[.slice Ao78 t234.length co78, .int .i64 t237, .slice Ao79 t238.length co79, .int .i64 t241, .int .i64 t242, .int .i64 t243, .int .i64 t244, .int .i64 t245, .slice Ao80 t246.length co80]] (by rfl) rfl rfl gl_ ?_
            with_reducible refine (laws_eqTask.calls k _ _ t201 t204 _ _ t205 t208 t209 t210 t211 t212 _ _ t213 _ _ t234 t237 _ _ t238 t241 t242 t243 t244 t245 _ _ t246 true _ ?side1 ?side2 ?side3 ?side4 ?side5 ?side6 ?side7 ?side8 ?side9 ?side10 ?side11 ?side12 A30.out).mono ?_
            (case side1 => exact ca_ ((Kd.R_reads' HO203.out).2.2))
            (case side2 => exact (Kd.R_reads' HO203.out).2.1)
            (case side3 => exact ca_ ((Kd.R_reads' HO207.out).2.2))
            (case side4 => exact (Kd.R_reads' HO207.out).2.1)
            (case side5 => exact ca_ ((Kd.R_reads' HO215.out).2.2))
            (case side6 => exact (Kd.R_reads' HO215.out).2.1)
            (case side7 => exact ca_ ((Kd.R_reads' HO236.out).2.2))
            (case side8 => exact (Kd.R_reads' HO236.out).2.1)
            (case side9 => exact ca_ ((Kd.R_reads' HO240.out).2.2))
            (case side10 => exact (Kd.R_reads' HO240.out).2.1)
            (case side11 => exact ca_ ((Kd.R_reads' HO248.out).2.2))
            (case side12 => exact (Kd.R_reads' HO248.out).2.1)
            rintro e w81 ⟨rfl, hb⟩
            refine ⟨_, rfl, ?_⟩
            have n0_ := Aside0.mk (Kd.R_below (ra_ HO156) hb)
            have n1_ := Aside0.mk (Kd.R_below (ra_ HO160) hb)
            have n2_ := Aside0.mk (Kd.R_below (ra_ HO168) hb)
            have n3_ := Aside0.mk (Kd.R_below (ra_ HO171) hb)
            have n4_ := Aside0.mk (Kd.R_below (ra_ HO175) hb)
            have n5_ := Aside0.mk (Kd.R_below (ra_ HO183) hb)
            have n6_ := Aside0.mk (Kd.R_below (ra_ HO187) hb)
            have n7_ := Aside0.mk (Kd.R_below (ra_ HO191) hb)
            have n8_ := Aside0.mk (Kd.R_below (ra_ HO199) hb)
            have n9_ := Aside0.mk (Kd.R_below (ra_ HO203) hb)
            have n10_ := Aside0.mk (Kd.R_below (ra_ HO207) hb)
            have n11_ := Aside0.mk (Kd.R_below (ra_ HO215) hb)
            have n12_ := Aside0.mk (Kd.R_below (ra_ HO220) hb)
            have n13_ := Aside0.mk (Kd.R_below (ra_ HO224) hb)
            have n14_ := Aside0.mk (Kd.R_below (ra_ HO232) hb)
            have n15_ := Aside0.mk (Kd.R_below (ra_ HO236) hb)
            have n16_ := Aside0.mk (Kd.R_below (ra_ HO240) hb)
            have n17_ := Aside0.mk (Kd.R_below (ra_ HO248) hb)
            have n18_ := Aside0.mk (blk_below (bk_ BK150) hb)
            have n19_ := Aside0.mk (blk_below (bk_ BK151) hb)
            have n20_ := Aside0.mk (blk_below (bk_ BK200) hb)
            have n21_ := Aside0.mk (blk_below (bk_ BK216) hb)
            have n22_ := Aside0.mk (below_step bl_ hb)
            clear HO156
            clear HO160
            clear HO168
            clear HO171
            clear HO175
            clear HO183
            clear HO187
            clear HO191
            clear HO199
            clear HO203
            clear HO207
            clear HO215
            clear HO220
            clear HO224
            clear HO232
            clear HO236
            clear HO240
            clear HO248
            clear BK150
            clear BK151
            clear BK200
            clear BK216
            clear HB
            have HO156 := n0_
            have HO160 := n1_
            have HO168 := n2_
            have HO171 := n3_
            have HO175 := n4_
            have HO183 := n5_
            have HO187 := n6_
            have HO191 := n7_
            have HO199 := n8_
            have HO203 := n9_
            have HO207 := n10_
            have HO215 := n11_
            have HO220 := n12_
            have HO224 := n13_
            have HO232 := n14_
            have HO236 := n15_
            have HO240 := n16_
            have HO248 := n17_
            have BK150 := n18_
            have BK151 := n19_
            have BK200 := n20_
            have BK216 := n21_
            have HB := n22_
            clear n0_ n1_ n2_ n3_ n4_ n5_ n6_ n7_ n8_ n9_ n10_ n11_ n12_ n13_ n14_ n15_ n16_ n17_ n18_ n19_ n20_ n21_ n22_
            (try clear hb)
            (try clear hb2)
            (try clear hk)
            (try clear hi)
            refine hK.out _ _ ⟨(blk_cell BK216.out 0).trans rfl, (blk_cell BK216.out 1).trans rfl, (blk_cell BK216.out 2).trans rfl, (blk_cell BK216.out 3).trans rfl, (blk_cell BK216.out 4).trans rfl, (blk_cell BK216.out 5).trans rfl, (blk_cell BK216.out 6).trans rfl, (blk_cell BK216.out 7).trans rfl, (blk_cell BK216.out 8).trans rfl, (blk_cell BK151.out 0).trans rfl, (blk_cell BK151.out 1).trans rfl, (blk_cell BK151.out 2).trans rfl, (blk_cell BK151.out 3).trans rfl, (blk_cell BK151.out 4).trans rfl, (blk_cell BK151.out 5).trans rfl, (blk_cell BK151.out 6).trans rfl, (blk_cell BK151.out 7).trans rfl, (blk_cell BK151.out 8).trans rfl⟩ (fun hHeld => ?_)
            clear hK K
            refine norm_ (a' := ?_) ?_ ?_
            rotate_left
            · show Act.put _ (some 43) _ = _
              simp only [Act.put, List.setIfInBounds_toArray, List.set_cons_zero, List.set_cons_succ, i64_w, i32_w]
              rfl
            refine pure_ (i := 4) (N := some 44) (v := ?_) (a' := ?_) #[true, true, true, true, true] rfl rfl (by kernel_rfl) (fun _ _ _ h => h) (Or.inl ⟨by rfl, ?_⟩) ?_ ?_
            rotate_left
            · intro w'
              go_simp
              with_reducible rfl
            rotate_left
            · simp only [Act.put, List.setIfInBounds_toArray, List.set_cons_zero, List.set_cons_succ, i64_w, i32_w]
              rfl
            refine done_ (by kernel_rfl) ?_
            try go_wp2
            go_ret
            exact ⟨by first | rfl | (simp [errW_none, errW_some] <;> rfl) | (simp [*, errW_none, errW_some] <;> rfl), bl_⟩
          · replace c31 := Bool.eq_false_iff.mpr c31
            subst c31
            have H1 : (some false) = some true := by rw [if_neg (show ¬ (false = true) by decide)] at H; exact H
            clear H
            have H := H1
            clear H1
            exact absurd H (by simp)
        · replace c28 := Bool.eq_false_iff.mpr c28
          subst c28
          have H1 : (some false) = some true := by rw [if_neg (show ¬ (false = true) by decide)] at H; exact H
          clear H
          have H := H1
          clear H1
          exact absurd H (by simp)

def ok33 (x : S33) : Prop := (x.f0.length ≤ maxLen ∧ ∀ y0 ∈ x.f0, (Lit.int .u8 y0).wf = true) ∧ ((Lit.int .i64 x.f1).wf = true) ∧ (x.f2.length ≤ maxLen ∧ ∀ y0 ∈ x.f2, (Lit.int .i64 y0).wf = true) ∧ ((Lit.int .i64 x.f3).wf = true) ∧ ((Lit.int .i64 x.f4).wf = true) ∧ ((Lit.int .i64 x.f5).wf = true) ∧ ((Lit.int .i64 x.f6).wf = true) ∧ ((Lit.int .i64 x.f7).wf = true) ∧ (x.f8.length ≤ maxLen ∧ ∀ y0 ∈ x.f8, (Lit.int .u8 y0).wf = true)
/-- THE ONE PURE STATEMENT of laws_FnExactTaskSame. -/
def laws_FnExactTaskSame.Pure : Prop := ∀ (s0 : S33) (s1 : S33), (ok33 s0) → (ok33 s1) → ∃ k, laws_FnExactTaskSame.f k s0.f0 s0.f1 s0.f2 s0.f3 s0.f4 s0.f5 s0.f6 s0.f7 s0.f8 s1.f0 s1.f1 s1.f2 s1.f3 s1.f4 s1.f5 s1.f6 s1.f7 s1.f8 = some true

end Go.Proofs.Ytninpllnlhlclaa.QFnExactTaskSame
