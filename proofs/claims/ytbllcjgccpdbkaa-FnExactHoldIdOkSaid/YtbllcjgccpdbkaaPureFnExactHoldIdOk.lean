/- For every string the program's HoldIdOk returns what the reference's HoldIdOk returns. Conditions: none. -/
import Derived.Test.YtbllcjgccpdbkaaPFnExactHoldIdOkx0
import Derived.Test.YtbllcjgccpdbkaaPFnExactHoldIdOkx1
import Derived.Laws.BitsLemmas
namespace Go.Proofs.Ytbllcjgccpdbkaa.Pure
open Go.RowKit Go.Proofs.Ytbllcjgccpdbkaa.PFnExactHoldIdOk Go.Proofs.YtbllcjgccpdbkaaW.PrintWords Go.Proofs.YtbllcjgccpdbkaaW.PrintLast
set_option linter.unusedVariables false
set_option linter.unusedSimpArgs false

theorem w_id {x : Int} (h0 : -9223372036854775808 ≤ x) (h1 : x ≤ 9223372036854775807) : wrap64 x = x := by unfold wrap64; omega
theorem tl_eq (s : ByteArray) : s.toList = s.data.toList := Go.ByteArray.toList_eq s
theorem ba_eq {s t : ByteArray} (h : s.toList = t.toList) : s = t := by
  rw [tl_eq, tl_eq] at h
  cases s; cases t; simp only [Array.toList_inj] at h; subst h; rfl
theorem tl_len (s : ByteArray) : s.toList.length = s.size := by rw [tl_eq]; simp
theorem ne_nil_eq (s : ByteArray) : (s.toList != ([] : List UInt8)) = decide (0 < s.size) := by
  have := tl_len s
  by_cases h : s.size = 0
  · have e : s.toList = [] := List.eq_nil_of_length_eq_zero (by omega)
    rw [e]; simp [h]
  · have e : s.toList ≠ [] := fun e => h (by rw [← tl_len, e]; rfl)
    rw [bne_iff_ne.2 e]; simp; omega
/-- All bytes from i on are as p says. -/
def allFrom (p : Int → Bool) (s : ByteArray) (i : Nat) : Bool := ((List.range s.size).drop i).all fun j => p (bt s (j : Int))
theorem allFrom_end (p : Int → Bool) (s : ByteArray) {i : Nat} (h : s.size ≤ i) : allFrom p s i = true := by
  unfold allFrom; rw [List.drop_eq_nil_of_le (by simpa using h)]; rfl
theorem allFrom_step (p : Int → Bool) (s : ByteArray) {i : Nat} (h : i < s.size) : allFrom p s i = (p (bt s (i : Int)) && allFrom p s (i + 1)) := by
  unfold allFrom; rw [List.drop_eq_getElem_cons (by simpa using h)]; simp

theorem spec_In_f (a b c : Int) : spec_l01In.f a b c = some (decide (b ≤ a) && decide (a ≤ c)) := by
  unfold spec_l01In.f
  by_cases h : a ≥ b
  · rw [if_pos h]; have : b ≤ a := h
    simp [this]
  · rw [if_neg h]; have : ¬ b ≤ a := h
    simp [this]
theorem within_f (a b c : Int) : impl_within.f a b c = some (decide (b ≤ a) && decide (a ≤ c)) := by
  unfold impl_within.f
  by_cases h : b ≤ a
  · rw [if_pos h]; simp [h]
  · rw [if_neg h]; simp [h]

def idSign (c : Int) : Bool := (decide (48 ≤ c) && decide (c ≤ 57)) || (decide (97 ≤ c) && decide (c ≤ 122))
def holdIdOk (s : ByteArray) : Bool := allFrom idSign s 0 && (decide (1 ≤ (s.size : Int)) && decide ((s.size : Int) ≤ 6))
theorem idSign_ite {α : Type} (c : Int) (x y : α) :
    (if c < 48 then (if c < 97 then x else (if c > 122 then x else y)) else (if c > 57 then (if c < 97 then x else (if c > 122 then x else y)) else y)) = if idSign c = true then y else x := by
  by_cases h : idSign c = true
  · rw [if_pos h]
    unfold idSign at h
    simp only [Bool.or_eq_true, Bool.and_eq_true, decide_eq_true_eq] at h
    rcases h with h | h
    · rw [if_neg (by omega), if_neg (by omega)]
    · rw [if_neg (by omega), if_pos (by omega), if_neg (by omega), if_neg (by omega)]
  · rw [if_neg h]
    unfold idSign at h
    simp only [Bool.or_eq_true, Bool.and_eq_true, decide_eq_true_eq, not_or, not_and] at h
    obtain ⟨h1, h2⟩ := h
    by_cases a : c < 48
    · rw [if_pos a, if_pos (by omega)]
    · rw [if_neg a]
      by_cases b : c > 57
      · rw [if_pos b]
        by_cases d : c < 97
        · rw [if_pos d]
        · rw [if_neg d]; have := h2 (by omega); rw [if_pos (by omega)]
      · have := h1 (by omega); omega
theorem spec_HoldIdOk_l0 (s : ByteArray) (hs : s.size ≤ 140737488355328) (d : Nat) : ∀ (k i : Nat), i + d = s.size → d < k → spec_HoldIdOk.l0 k s (i : Int) = some (allFrom idSign s i && (decide (1 ≤ (s.size : Int)) && decide ((s.size : Int) ≤ 6))) := by
  induction d with
  | zero =>
    intro k i hi hk
    obtain ⟨k, rfl⟩ : ∃ m, k = m + 1 := ⟨k - 1, by omega⟩
    simp only [spec_HoldIdOk.l0]; rw [if_neg (by omega), allFrom_end _ _ (by omega), spec_In_f]; simp
  | succ d ih =>
    intro k i hi hk
    obtain ⟨k, rfl⟩ : ∃ m, k = m + 1 := ⟨k - 1, by omega⟩
    simp only [spec_HoldIdOk.l0]
    rw [if_pos (by omega), if_pos (by omega), w_id (by omega) (by omega), allFrom_step _ _ (by omega)]
    have e := ih k (i + 1) (by omega) (by omega)
    rw [show ((i : Int) + 1) = ((i + 1 : Nat) : Int) from by omega, e, idSign_ite]
    cases idSign (bt s (i : Int)) <;> simp
theorem spec_HoldIdOk_f (s : ByteArray) (hs : s.size ≤ 140737488355328) (k : Nat) (hk : s.size < k) : spec_HoldIdOk.f k s = some (holdIdOk s) :=
  spec_HoldIdOk_l0 s hs s.size k 0 (by omega) hk
theorem impl_HoldIdOk_l0 (s : ByteArray) (hs : s.size ≤ 140737488355328) (d : Nat) : ∀ (k i : Nat), i + d = s.size → d < k → impl_HoldIdOk.l0 k s (s.size : Int) (i : Int) = some (allFrom idSign s i && (decide (1 ≤ (s.size : Int)) && decide ((s.size : Int) ≤ 6))) := by
  induction d with
  | zero =>
    intro k i hi hk
    obtain ⟨k, rfl⟩ : ∃ m, k = m + 1 := ⟨k - 1, by omega⟩
    simp only [impl_HoldIdOk.l0]; rw [if_neg (by omega), allFrom_end _ _ (by omega), within_f]; simp
  | succ d ih =>
    intro k i hi hk
    obtain ⟨k, rfl⟩ : ∃ m, k = m + 1 := ⟨k - 1, by omega⟩
    simp only [impl_HoldIdOk.l0]
    rw [if_pos (by omega), if_pos (by omega), if_pos (by omega), w_id (by omega) (by omega), allFrom_step _ _ (by omega)]
    have e := ih k (i + 1) (by omega) (by omega)
    rw [show ((i : Int) + 1) = ((i + 1 : Nat) : Int) from by omega, e, idSign_ite]
    cases idSign (bt s (i : Int)) <;> simp
theorem impl_HoldIdOk_f (s : ByteArray) (hs : s.size ≤ 140737488355328) (k : Nat) (hk : s.size < k) : impl_HoldIdOk.f k s = some (holdIdOk s) :=
  impl_HoldIdOk_l0 s hs s.size k 0 (by omega) hk

theorem FnExactHoldIdOk : laws_FnExactHoldIdOk.Pure := by
  intro s hs
  refine ⟨s.size + 1, ?_⟩
  unfold laws_FnExactHoldIdOk.f
  by_cases h : (s.size : Int) > 1048576
  · rw [if_pos h]
  · rw [if_neg h, spec_HoldIdOk_f s (by omega) _ (by omega), impl_HoldIdOk_f s (by omega) _ (by omega)]
    simp

end Go.Proofs.Ytbllcjgccpdbkaa.Pure
