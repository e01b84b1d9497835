/- For every string the program's AcctIdOk returns what the reference's AcctIdOk returns. Conditions: none. -/
import Derived.Test.YtbllcjgccpdbkaaQFnExactAcctIdOkx0
import Derived.Test.YtbllcjgccpdbkaaQFnExactAcctIdOkx1
import Derived.Test.YtbllcjgccpdbkaaQFnExactAcctIdOkx2
import Derived.Laws.BitsLemmas
namespace Go.Proofs.Ytbllcjgccpdbkaa.Pure
open Go.RowKit Go.Proofs.Ytbllcjgccpdbkaa.QFnExactAcctIdOk Go.Proofs.YtbllcjgccpdbkaaW.PrintWords Go.Proofs.YtbllcjgccpdbkaaW.PrintLast
set_option linter.unusedVariables false
set_option linter.unusedSimpArgs false

theorem w_id {x : Int} (h0 : -9223372036854775808 ≤ x) (h1 : x ≤ 9223372036854775807) : wrap64 x = x := by unfold wrap64; omega
theorem tl_eq (s : ByteArray) : s.toList = s.data.toList := Go.ByteArray.toList_eq s
theorem ba_eq {s t : ByteArray} (h : s.toList = t.toList) : s = t := by
  rw [tl_eq, tl_eq] at h
  cases s; cases t; simp only [Array.toList_inj] at h; subst h; rfl
theorem tl_len (s : ByteArray) : s.toList.length = s.size := by rw [tl_eq]; simp
theorem ne_nil_eq (s : ByteArray) : (s.toList != ([] : List UInt8)) = decide (0 < s.size) := by
  have := tl_len s
  by_cases h : s.size = 0
  · have e : s.toList = [] := List.eq_nil_of_length_eq_zero (by omega)
    rw [e]; simp [h]
  · have e : s.toList ≠ [] := fun e => h (by rw [← tl_len, e]; rfl)
    rw [bne_iff_ne.2 e]; simp; omega
/-- All bytes from i on are as p says. -/
def allFrom (p : Int → Bool) (s : ByteArray) (i : Nat) : Bool := ((List.range s.size).drop i).all fun j => p (bt s (j : Int))
theorem allFrom_end (p : Int → Bool) (s : ByteArray) {i : Nat} (h : s.size ≤ i) : allFrom p s i = true := by
  unfold allFrom; rw [List.drop_eq_nil_of_le (by simpa using h)]; rfl
theorem allFrom_step (p : Int → Bool) (s : ByteArray) {i : Nat} (h : i < s.size) : allFrom p s i = (p (bt s (i : Int)) && allFrom p s (i + 1)) := by
  unfold allFrom; rw [List.drop_eq_getElem_cons (by simpa using h)]; simp

def isDig (c : Int) : Bool := decide (48 ≤ c) && decide (c ≤ 57)
def digits (s : ByteArray) : Bool := allFrom isDig s 0 && decide (0 < s.size)
theorem spec_Digits_l0 (s : ByteArray) (hs : s.size ≤ 140737488355328) (d : Nat) : ∀ (k i : Nat), i + d = s.size → d < k → spec_Digits.l0 k s (i : Int) = some (allFrom isDig s i && decide (0 < s.size)) := by
  induction d with
  | zero =>
    intro k i hi hk
    obtain ⟨k, rfl⟩ : ∃ m, k = m + 1 := ⟨k - 1, by omega⟩
    simp only [spec_Digits.l0]; rw [if_neg (by omega), allFrom_end _ _ (by omega)]; simp
  | succ d ih =>
    intro k i hi hk
    obtain ⟨k, rfl⟩ : ∃ m, k = m + 1 := ⟨k - 1, by omega⟩
    simp only [spec_Digits.l0]
    rw [if_pos (by omega), if_pos (by omega), w_id (by omega) (by omega), allFrom_step _ _ (by omega)]
    have e := ih k (i + 1) (by omega) (by omega)
    rw [show ((i : Int) + 1) = ((i + 1 : Nat) : Int) from by omega, e]
    unfold isDig
    by_cases h1 : bt s (i : Int) < 48
    · rw [if_pos h1]; have : ¬ 48 ≤ bt s (i : Int) := by omega
      simp [this]
    · rw [if_neg h1]; have h1' : 48 ≤ bt s (i : Int) := by omega
      by_cases h2 : bt s (i : Int) > 57
      · rw [if_pos h2]; have : ¬ bt s (i : Int) ≤ 57 := by omega
        simp [this]
      · rw [if_neg h2]; have h2' : bt s (i : Int) ≤ 57 := by omega
        simp [h1', h2']
theorem spec_Digits_f (s : ByteArray) (hs : s.size ≤ 140737488355328) (k : Nat) (hk : s.size < k) : spec_Digits.f k s = some (digits s) :=
  spec_Digits_l0 s hs s.size k 0 (by omega) hk
theorem impl_Digits_l0 (s : ByteArray) (hs : s.size ≤ 140737488355328) (d : Nat) : ∀ (k i : Nat), i + d = s.size → d < k → impl_Digits.l0 k s (s.size : Int) (i : Int) = some (allFrom isDig s i && decide (0 < s.size)) := by
  induction d with
  | zero =>
    intro k i hi hk
    obtain ⟨k, rfl⟩ : ∃ m, k = m + 1 := ⟨k - 1, by omega⟩
    simp only [impl_Digits.l0]; rw [if_neg (by omega), allFrom_end _ _ (by omega), ne_nil_eq]; simp
  | succ d ih =>
    intro k i hi hk
    obtain ⟨k, rfl⟩ : ∃ m, k = m + 1 := ⟨k - 1, by omega⟩
    simp only [impl_Digits.l0]
    rw [if_pos (by omega), if_pos (by omega), if_pos (by omega), w_id (by omega) (by omega), allFrom_step _ _ (by omega)]
    have e := ih k (i + 1) (by omega) (by omega)
    rw [show ((i : Int) + 1) = ((i + 1 : Nat) : Int) from by omega, e]
    unfold isDig
    by_cases h1 : bt s (i : Int) < 48
    · rw [if_pos h1]; have : ¬ 48 ≤ bt s (i : Int) := by omega
      simp [this]
    · rw [if_neg h1]; have h1' : 48 ≤ bt s (i : Int) := by omega
      by_cases h2 : bt s (i : Int) > 57
      · rw [if_pos h2]; have : ¬ bt s (i : Int) ≤ 57 := by omega
        simp [this]
      · rw [if_neg h2]; have h2' : bt s (i : Int) ≤ 57 := by omega
        simp [h1', h2']
theorem impl_Digits_f (s : ByteArray) (hs : s.size ≤ 140737488355328) (k : Nat) (hk : s.size < k) : impl_Digits.f k s = some (digits s) :=
  impl_Digits_l0 s hs s.size k 0 (by omega) hk

theorem allFrom_get (p : Int → Bool) (s : ByteArray) (h : allFrom p s 0 = true) (j : Nat) (hj : j < s.size) : p (bt s (j : Int)) = true := by
  unfold allFrom at h
  rw [List.drop_zero, List.all_eq_true] at h
  exact h j (List.mem_range.2 hj)
theorem digit_at (s : ByteArray) (h : digits s = true) (j : Nat) (hj : j < s.size) : 48 ≤ bt s (j : Int) ∧ bt s (j : Int) ≤ 57 := by
  unfold digits at h
  rw [Bool.and_eq_true] at h
  have := allFrom_get _ s h.1 j hj
  unfold isDig at this
  simpa using this
/-- The weight of a digit. -/
def luhnD (b : Bool) (d : Int) : Int := if b = true then (if 2 * d > 9 then 2 * d - 9 else 2 * d) else d
def luhnFrom (s : ByteArray) : Int → Bool → Nat → Int
  | sum, _, 0 => sum
  | sum, b, i + 1 => luhnFrom s (sum + luhnD b (bt s (i : Int) - 48)) (!b) i
theorem luhnD_range (b : Bool) (d : Int) (h0 : 0 ≤ d) (h1 : d ≤ 9) : 0 ≤ luhnD b d ∧ luhnD b d ≤ 9 := by
  unfold luhnD; cases b
  · rw [if_neg (by decide)]; omega
  · rw [if_pos rfl]; split <;> omega
theorem luhnFrom_nonneg (s : ByteArray) (hd : digits s = true) (i : Nat) : ∀ (sum : Int) (b : Bool), i ≤ s.size → 0 ≤ sum → 0 ≤ luhnFrom s sum b i := by
  induction i with
  | zero => intro sum b _ h; exact h
  | succ i ih =>
    intro sum b hi h
    have g := digit_at s hd i (by omega)
    have r := luhnD_range b (bt s (i : Int) - 48) (by omega) (by omega)
    exact ih _ _ (by omega) (by omega)
def luhn (s : ByteArray) : Int := if digits s = true then Int.tmod (10 - luhnFrom s 0 true s.size % 10) 10 else -1
theorem spec_Luhn_l0 (s : ByteArray) (hs : s.size ≤ 140737488355328) (hd : digits s = true) (i : Nat) : ∀ (k : Nat) (sum : Int) (b : Bool), i ≤ s.size → 0 ≤ sum → i < k →
    spec_Luhn.l0 k s (sum % 10) b ((i : Int) - 1) = some (Int.tmod (10 - luhnFrom s sum b i % 10) 10) := by
  induction i with
  | zero =>
    intro k sum b hi h0 hk
    obtain ⟨k, rfl⟩ : ∃ m, k = m + 1 := ⟨k - 1, by omega⟩
    simp only [spec_Luhn.l0]
    rw [if_neg (by omega), w_id (by omega) (by omega)]; rfl
  | succ i ih =>
    intro k sum b hi h0 hk
    obtain ⟨k, rfl⟩ : ∃ m, k = m + 1 := ⟨k - 1, by omega⟩
    have g := digit_at s hd i (by omega)
    have r := luhnD_range b (bt s (i : Int) - 48) (by omega) (by omega)
    rw [show (((i + 1 : Nat) : Int) - 1) = (i : Int) from by omega]
    simp only [spec_Luhn.l0]
    have ew : wrap64 (wrap64 (bt s (i : Int)) - 48) = bt s (i : Int) - 48 := by rw [w_id (x := bt s (i : Int)) (by omega) (by omega), w_id (by omega) (by omega)]
    rw [if_pos (by omega), if_pos (by omega), if_pos (by omega), ew, w_id (x := (i : Int) - 1) (by omega) (by omega)]
    have e2 : wrap64 (2 * (bt s (i : Int) - 48)) = 2 * (bt s (i : Int) - 48) := w_id (by omega) (by omega)
    have step : ∀ d : Int, 0 ≤ d → d ≤ 18 → Int.tmod (wrap64 (sum % 10 + d)) 10 = (sum + d) % 10 := fun d h1 h2 => by
      rw [w_id (by omega) (by omega), Int.tmod_eq_emod_of_nonneg (by omega)]; omega
    have e := ih k (sum + luhnD b (bt s (i : Int) - 48)) (!b) (by omega) (by omega) (by omega)
    unfold luhnFrom
    rw [← e]
    unfold luhnD at r ⊢
    cases b
    · rw [if_neg (by decide), if_neg (by decide), step _ (by omega) (by omega)]
    · rw [if_pos rfl, if_pos rfl, e2]
      by_cases h9 : 2 * (bt s (i : Int) - 48) > 9
      · rw [if_pos h9, if_pos h9, w_id (x := 2 * (bt s (i : Int) - 48) - 9) (by omega) (by omega), step _ (by omega) (by omega)]
      · rw [if_neg h9, if_neg h9, step _ (by omega) (by omega)]
theorem spec_Luhn_f (s : ByteArray) (hs : s.size ≤ 140737488355328) (k : Nat) (hk : s.size < k) : spec_Luhn.f k s = some (luhn s) := by
  unfold spec_Luhn.f luhn
  rw [spec_Digits_f s hs k hk, Option.bind_some]
  by_cases h : digits s = true
  · rw [if_pos h, if_pos h, w_id (by omega) (by omega)]
    have := spec_Luhn_l0 s hs h s.size k 0 true (Nat.le_refl _) (by omega) hk
    rw [show (0 : Int) % 10 = 0 from rfl] at this
    exact this
  · rw [if_neg h, if_neg h]
theorem impl_Luhn_l0 (s : ByteArray) (hs : s.size ≤ 140737488355328) (hd : digits s = true) (i : Nat) : ∀ (k : Nat) (sum : Int) (b : Bool), i ≤ s.size → 0 ≤ sum → sum + 9 * i ≤ 4611686018427387904 → i < k →
    impl_Luhn.l0 k s sum b ((i : Int) - 1) = some (Int.tmod (10 - luhnFrom s sum b i % 10) 10) := by
  induction i with
  | zero =>
    intro k sum b hi h0 hb hk
    obtain ⟨k, rfl⟩ : ∃ m, k = m + 1 := ⟨k - 1, by omega⟩
    simp only [impl_Luhn.l0]
    rw [if_neg (by omega), Int.tmod_eq_emod_of_nonneg (a := sum) h0, w_id (by omega) (by omega)]; rfl
  | succ i ih =>
    intro k sum b hi h0 hb hk
    obtain ⟨k, rfl⟩ : ∃ m, k = m + 1 := ⟨k - 1, by omega⟩
    have g := digit_at s hd i (by omega)
    have r := luhnD_range b (bt s (i : Int) - 48) (by omega) (by omega)
    rw [show (((i + 1 : Nat) : Int) - 1) = (i : Int) from by omega]
    simp only [impl_Luhn.l0]
    have ew : (bt s (i : Int) - 48) % 256 = bt s (i : Int) - 48 := by omega
    rw [if_pos (by omega), if_pos (by omega), if_pos (by omega), ew, w_id (x := (i : Int) - 1) (by omega) (by omega)]
    have e := ih k (sum + luhnD b (bt s (i : Int) - 48)) (!b) (by omega) (by omega) (by omega) (by omega)
    unfold luhnFrom
    rw [← e]
    unfold luhnD at r ⊢
    cases b
    · rw [if_neg (by decide), if_neg (by decide), w_id (by omega) (by omega)]
    · rw [if_pos rfl, if_pos rfl, show (bt s (i : Int) - 48) * 2 = 2 * (bt s (i : Int) - 48) from by omega]
      by_cases h9 : 2 * (bt s (i : Int) - 48) > 9
      · rw [if_pos h9, if_pos h9, w_id (by omega) (by omega)]
      · rw [if_neg h9, if_neg h9, w_id (by omega) (by omega)]
theorem impl_Luhn_f (s : ByteArray) (hs : s.size ≤ 140737488355328) (k : Nat) (hk : s.size < k) : impl_Luhn.f k s = some (luhn s) := by
  unfold impl_Luhn.f luhn
  rw [impl_Digits_f s hs k hk, Option.bind_some]
  by_cases h : digits s = true
  · rw [if_pos h, if_pos h, w_id (by omega) (by omega)]
    exact impl_Luhn_l0 s hs h s.size k 0 true (Nat.le_refl _) (by omega) (by omega) hk
  · rw [if_neg h, if_neg h]
def luhnOk (s : ByteArray) : Bool := digits s && (decide (2 ≤ s.size) && (luhn (s.extract 0 (s.size - 1)) == bt s ((s.size - 1 : Nat) : Int) - 48))
theorem size_cut (s : ByteArray) (n : Nat) (h : n ≤ s.size) : (s.extract 0 n).size = n := by
  rw [ByteArray.size_extract]; omega
theorem spec_LuhnOk_f (s : ByteArray) (hs : s.size ≤ 140737488355328) (k : Nat) (hk : s.size < k) : spec_LuhnOk.f k s = some (luhnOk s) := by
  unfold spec_LuhnOk.f luhnOk
  rw [spec_Digits_f s hs k hk, Option.bind_some]
  by_cases h : digits s = true
  · rw [if_pos h, h]
    by_cases h2 : (s.size : Int) < 2
    · rw [if_pos h2]; have : ¬ 2 ≤ s.size := by omega
      simp [this]
    · have e : wrap64 ((s.size : Int) - 1) = ((s.size - 1 : Nat) : Int) := by rw [w_id (by omega) (by omega)]; omega
      have g := digit_at s h (s.size - 1) (by omega)
      have h2' : 2 ≤ s.size := by omega
      rw [if_neg h2, e, if_pos (by omega), if_pos (by omega), Int.toNat_natCast,
        spec_Luhn_f _ (by rw [size_cut _ _ (by omega)]; omega) k (by rw [size_cut _ _ (by omega)]; omega), Option.bind_some, if_pos (by omega),
        w_id (x := bt s ((s.size - 1 : Nat) : Int)) (by omega) (by omega), w_id (by omega) (by omega)]
      simp [h2']
  · rw [if_neg h, Bool.eq_false_iff.mpr h]; rfl
theorem impl_LuhnOk_f (s : ByteArray) (hs : s.size ≤ 140737488355328) (k : Nat) (hk : s.size < k) : impl_LuhnOk.f k s = some (luhnOk s) := by
  unfold impl_LuhnOk.f luhnOk
  have e : wrap64 ((s.size : Int) - 1) = (s.size : Int) - 1 := w_id (by omega) (by omega)
  rw [e]
  by_cases h2 : (s.size : Int) - 1 ≥ 1
  · rw [if_pos h2, impl_Digits_f s hs k hk, Option.bind_some]
    by_cases h : digits s = true
    · have g := digit_at s h (s.size - 1) (by omega)
      have h2' : 2 ≤ s.size := by omega
      rw [if_pos h, h, show (s.size : Int) - 1 = ((s.size - 1 : Nat) : Int) from by omega, if_pos (by omega), if_pos (by omega), Int.toNat_natCast,
        impl_Luhn_f _ (by rw [size_cut _ _ (by omega)]; omega) k (by rw [size_cut _ _ (by omega)]; omega), Option.bind_some, if_pos (by omega),
        show (bt s ((s.size - 1 : Nat) : Int) - 48) % 256 = bt s ((s.size - 1 : Nat) : Int) - 48 from by omega]
      simp [h2']
    · rw [if_neg h, Bool.eq_false_iff.mpr h]; rfl
  · rw [if_neg h2]; have : ¬ 2 ≤ s.size := by omega
    simp [this]
def acctIdOk (s : ByteArray) : Bool := decide ((s.size : Int) ≤ 19) && luhnOk s
theorem spec_AcctIdOk_f (s : ByteArray) (hs : s.size ≤ 140737488355328) (k : Nat) (hk : s.size < k) : spec_AcctIdOk.f k s = some (acctIdOk s) := by
  unfold spec_AcctIdOk.f acctIdOk
  by_cases h : (s.size : Int) ≤ 19
  · rw [if_pos h, spec_LuhnOk_f s hs k hk]; simp [h]
  · rw [if_neg h]; simp [h]
theorem impl_AcctIdOk_f (s : ByteArray) (hs : s.size ≤ 140737488355328) (k : Nat) (hk : s.size < k) : impl_AcctIdOk.f k s = some (acctIdOk s) := by
  unfold impl_AcctIdOk.f acctIdOk
  by_cases h : (s.size : Int) ≤ 19
  · rw [if_pos h, impl_LuhnOk_f s hs k hk]; simp [h]
  · rw [if_neg h]; simp [h]

theorem FnExactAcctIdOk : laws_FnExactAcctIdOk.Pure := by
  intro s hs
  refine ⟨s.size + 1, ?_⟩
  unfold laws_FnExactAcctIdOk.f
  by_cases h : (s.size : Int) > 1048576
  · rw [if_pos h]
  · rw [if_neg h, spec_AcctIdOk_f s (by omega) _ (by omega), impl_AcctIdOk_f s (by omega) _ (by omega)]
    simp

end Go.Proofs.Ytbllcjgccpdbkaa.Pure
