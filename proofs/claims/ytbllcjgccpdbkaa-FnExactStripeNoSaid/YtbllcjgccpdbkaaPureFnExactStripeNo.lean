/- For every string and every number the program's StripeNo returns what the reference's StripeNo returns. Conditions: none. -/
import Derived.Test.YtbllcjgccpdbkaaPFnExactStripeNox0
import Derived.Test.YtbllcjgccpdbkaaPFnExactStripeNox1
import Derived.Laws.BitsLemmas
namespace Go.Proofs.Ytbllcjgccpdbkaa.Pure
open Go.RowKit Go.Proofs.Ytbllcjgccpdbkaa.PFnExactStripeNo Go.Proofs.YtbllcjgccpdbkaaW.PrintWords Go.Proofs.YtbllcjgccpdbkaaW.PrintLast
set_option linter.unusedVariables false
set_option linter.unusedSimpArgs false

theorem w_id {x : Int} (h0 : -9223372036854775808 ≤ x) (h1 : x ≤ 9223372036854775807) : wrap64 x = x := by unfold wrap64; omega
theorem tl_eq (s : ByteArray) : s.toList = s.data.toList := Go.ByteArray.toList_eq s
theorem ba_eq {s t : ByteArray} (h : s.toList = t.toList) : s = t := by
  rw [tl_eq, tl_eq] at h
  cases s; cases t; simp only [Array.toList_inj] at h; subst h; rfl
theorem tl_len (s : ByteArray) : s.toList.length = s.size := by rw [tl_eq]; simp
theorem ne_nil_eq (s : ByteArray) : (s.toList != ([] : List UInt8)) = decide (0 < s.size) := by
  have := tl_len s
  by_cases h : s.size = 0
  · have e : s.toList = [] := List.eq_nil_of_length_eq_zero (by omega)
    rw [e]; simp [h]
  · have e : s.toList ≠ [] := fun e => h (by rw [← tl_len, e]; rfl)
    rw [bne_iff_ne.2 e]; simp; omega
/-- All bytes from i on are as p says. -/
def allFrom (p : Int → Bool) (s : ByteArray) (i : Nat) : Bool := ((List.range s.size).drop i).all fun j => p (bt s (j : Int))
theorem allFrom_end (p : Int → Bool) (s : ByteArray) {i : Nat} (h : s.size ≤ i) : allFrom p s i = true := by
  unfold allFrom; rw [List.drop_eq_nil_of_le (by simpa using h)]; rfl
theorem allFrom_step (p : Int → Bool) (s : ByteArray) {i : Nat} (h : i < s.size) : allFrom p s i = (p (bt s (i : Int)) && allFrom p s (i + 1)) := by
  unfold allFrom; rw [List.drop_eq_getElem_cons (by simpa using h)]; simp

theorem xor_nat (k : IntKind) (hk : ∀ n : Int, 0 ≤ n → n < 2 ^ 32 → k.wrap n = n) (hj : 32 ≤ k.bits) (a b : Nat) (ha : a < 2 ^ 32) (hb : b < 2 ^ 32) :
    Go.bits .xor k (a : Int) (b : Int) = ((a ^^^ b : Nat) : Int) := by
  have hp : 2 ^ 32 ≤ 2 ^ k.bits := Nat.pow_le_pow_right (by decide) hj
  have ha' : a % 2 ^ k.bits = a := Nat.mod_eq_of_lt (Nat.lt_of_lt_of_le ha hp)
  have hb' : b % 2 ^ k.bits = b := Nat.mod_eq_of_lt (Nat.lt_of_lt_of_le hb hp)
  simp only [Go.bits, BitVec.ofInt_natCast, BitVec.toNat_xor, BitVec.toNat_ofNat, ha', hb']
  exact hk _ (Int.natCast_nonneg _) (by have := Nat.xor_lt_two_pow ha hb; omega)
theorem wraps_i64 (n : Int) (h₀ : 0 ≤ n) (h₁ : n < 2 ^ 63) : IntKind.i64.wrap n = n := by rw [Go.IntKind.wrap_i64]; omega
theorem wraps_u32 (n : Int) (h₀ : 0 ≤ n) (h₁ : n < 2 ^ 32) : IntKind.u32.wrap n = n := by rw [Go.IntKind.wrap_u32]; omega
/-- One byte more of the hash. -/
def fnvStep (h c : Int) : Int := (Go.bits .xor .u32 h c * 16777619) % 4294967296
theorem xor_same (h c : Int) (h0 : 0 ≤ h) (h1 : h < 4294967296) (c0 : 0 ≤ c) (c1 : c ≤ 255) : Go.bits .xor .i64 h c = Go.bits .xor .u32 h c ∧ 0 ≤ Go.bits .xor .u32 h c ∧ Go.bits .xor .u32 h c < 4294967296 := by
  obtain ⟨a, rfl⟩ := Int.eq_ofNat_of_zero_le h0
  obtain ⟨b, rfl⟩ := Int.eq_ofNat_of_zero_le c0
  have e1 := xor_nat .i64 (fun n a b => wraps_i64 n a (by omega)) (by decide) a b (by omega) (by omega)
  have e2 := xor_nat .u32 (fun n a b => wraps_u32 n a (by omega)) (by decide) a b (by omega) (by omega)
  have : a ^^^ b < 2 ^ 32 := Nat.xor_lt_two_pow (by omega) (by omega)
  rw [e1, e2]
  exact ⟨rfl, by omega, by omega⟩
theorem fnvStep_spec (h c : Int) (h0 : 0 ≤ h) (h1 : h < 4294967296) (c0 : 0 ≤ c) (c1 : c ≤ 255) : Go.bits .and .i64 (wrap64 ((Go.bits .xor .i64 h (wrap64 c)) * 16777619)) 4294967295 = fnvStep h c := by
  obtain ⟨e, l, u⟩ := xor_same h c h0 h1 c0 c1
  rw [w_id (x := c) (by omega) (by omega), e, w_id (by omega) (by omega)]
  have := Go.bits_mask .i64 63 (by decide) wraps_i64 32 (by decide) (Go.bits .xor .u32 h c * 16777619) (by omega) (by omega)
  rw [show ((2 : Int) ^ 32 - 1) = 4294967295 from by decide, show ((2 : Int) ^ 32) = 4294967296 from by decide] at this
  rw [this]; rfl
theorem fnvStep_range (h c : Int) : 0 ≤ fnvStep h c ∧ fnvStep h c < 4294967296 := by unfold fnvStep; omega
def fnvFrom (s : ByteArray) (h : Int) (i : Nat) : Int := ((List.range s.size).drop i).foldl (fun (h : Int) (j : Nat) => fnvStep h (bt s (j : Int))) h
theorem fnvFrom_end (s : ByteArray) (h : Int) {i : Nat} (hi : s.size ≤ i) : fnvFrom s h i = h := by
  unfold fnvFrom; rw [List.drop_eq_nil_of_le (by simpa using hi)]; rfl
theorem fnvFrom_step (s : ByteArray) (h : Int) {i : Nat} (hi : i < s.size) : fnvFrom s h i = fnvFrom s (fnvStep h (bt s (i : Int))) (i + 1) := by
  unfold fnvFrom; rw [List.drop_eq_getElem_cons (by simpa using hi)]; simp
def fnv (s : ByteArray) : Int := fnvFrom s 2166136261 0
theorem spec_Fnv_l0 (s : ByteArray) (hs : s.size ≤ 140737488355328) (d : Nat) : ∀ (k i : Nat) (h : Int), 0 ≤ h → h < 4294967296 → i + d = s.size → d < k → spec_Fnv.l0 k s h (i : Int) = some (fnvFrom s h i) := by
  induction d with
  | zero =>
    intro k i h h0 h1 hi hk
    obtain ⟨k, rfl⟩ : ∃ m, k = m + 1 := ⟨k - 1, by omega⟩
    simp only [spec_Fnv.l0]; rw [if_neg (by omega), fnvFrom_end _ _ (by omega)]
  | succ d ih =>
    intro k i h h0 h1 hi hk
    obtain ⟨k, rfl⟩ : ∃ m, k = m + 1 := ⟨k - 1, by omega⟩
    simp only [spec_Fnv.l0]
    have r := bt_range s (i : Int)
    rw [if_pos (by omega), if_pos (by omega), w_id (x := (i : Int) + 1) (by omega) (by omega), fnvStep_spec h _ h0 h1 r.1 r.2, fnvFrom_step _ _ (by omega)]
    have g := fnvStep_range h (bt s (i : Int))
    rw [show ((i : Int) + 1) = ((i + 1 : Nat) : Int) from by omega, ih k (i + 1) _ g.1 g.2 (by omega) (by omega)]
theorem spec_Fnv_f (s : ByteArray) (hs : s.size ≤ 140737488355328) (k : Nat) (hk : s.size < k) : spec_Fnv.f k s = some (fnv s) :=
  spec_Fnv_l0 s hs s.size k 0 _ (by omega) (by omega) (by omega) hk
theorem fnvFrom_range (s : ByteArray) (d : Nat) : ∀ (i : Nat) (h : Int), i + d = s.size → 0 ≤ h → h < 4294967296 → 0 ≤ fnvFrom s h i ∧ fnvFrom s h i < 4294967296 := by
  induction d with
  | zero => intro i h hi h0 h1; rw [fnvFrom_end _ _ (by omega)]; exact ⟨h0, h1⟩
  | succ d ih =>
    intro i h hi h0 h1
    rw [fnvFrom_step _ _ (by omega)]
    have g := fnvStep_range h (bt s (i : Int))
    exact ih (i + 1) _ (by omega) g.1 g.2
theorem fnv_range (s : ByteArray) : 0 ≤ fnv s ∧ fnv s < 4294967296 := fnvFrom_range s s.size 0 _ (by omega) (by omega) (by omega)
theorem impl_Fnv_l0 (s : ByteArray) (hs : s.size ≤ 140737488355328) (d : Nat) : ∀ (k i : Nat) (h : Int), 0 ≤ h → h < 4294967296 → i + d = s.size → d < k → impl_Fnv.l0 k s h (s.size : Int) (i : Int) = some (fnvFrom s h i) := by
  induction d with
  | zero =>
    intro k i h h0 h1 hi hk
    obtain ⟨k, rfl⟩ : ∃ m, k = m + 1 := ⟨k - 1, by omega⟩
    simp only [impl_Fnv.l0]; rw [if_neg (by omega), fnvFrom_end _ _ (by omega), w_id (by omega) (by omega)]
  | succ d ih =>
    intro k i h h0 h1 hi hk
    obtain ⟨k, rfl⟩ : ∃ m, k = m + 1 := ⟨k - 1, by omega⟩
    simp only [impl_Fnv.l0]
    have r := bt_range s (i : Int)
    rw [if_pos (by omega), if_pos (by omega), if_pos (by omega), w_id (x := (i : Int) + 1) (by omega) (by omega), fnvFrom_step _ _ (by omega)]
    have g := fnvStep_range h (bt s (i : Int))
    rw [show bt s (i : Int) % 4294967296 = bt s (i : Int) from by omega]
    rw [show ((i : Int) + 1) = ((i + 1 : Nat) : Int) from by omega]
    exact ih k (i + 1) _ g.1 g.2 (by omega) (by omega)
theorem impl_Fnv_f (s : ByteArray) (hs : s.size ≤ 140737488355328) (k : Nat) (hk : s.size < k) : impl_Fnv.f k s = some (fnv s) :=
  impl_Fnv_l0 s hs s.size k 0 _ (by omega) (by omega) (by omega) hk

def stripeNo (s : ByteArray) (n : Int) : Int := if n < 1 then 0 else Int.tmod (fnv s) n
theorem spec_StripeNo_f (s : ByteArray) (n : Int) (hs : s.size ≤ 140737488355328) (k : Nat) (hk : s.size < k) : spec_StripeNo.f k s n = some (stripeNo s n) := by
  unfold spec_StripeNo.f stripeNo
  by_cases h : n < 1
  · rw [if_pos h, if_pos h]
  · rw [if_neg h, if_neg h, spec_Fnv_f s hs k hk, Option.bind_some, if_neg (by omega)]
theorem impl_StripeNo_f (s : ByteArray) (n : Int) (hs : s.size ≤ 140737488355328) (k : Nat) (hk : s.size < k) : impl_StripeNo.f k s n = some (stripeNo s n) := by
  unfold impl_StripeNo.f stripeNo
  by_cases h : n < 1
  · rw [if_pos h, if_pos h]
  · rw [if_neg h, if_neg h, impl_Fnv_f s hs k hk, Option.bind_some, if_neg (by omega)]

theorem FnExactStripeNo : laws_FnExactStripeNo.Pure := by
  intro s n hs _
  refine ⟨s.size + 1, ?_⟩
  unfold laws_FnExactStripeNo.f
  by_cases h : (s.size : Int) > 1048576
  · rw [if_pos h]
  · rw [if_neg h, spec_StripeNo_f s n (by omega) _ (by omega), impl_StripeNo_f s n (by omega) _ (by omega)]
    simp

end Go.Proofs.Ytbllcjgccpdbkaa.Pure
