/- For every request the program's ReqMsg returns what the reference's ReqMsg returns, and what it hands back is its own. Conditions: none. -/
import Derived.Test.YtbjpfknmkpnhjaaDoorQFnExactReqMsgx0
import Derived.Test.YtbjpfknmkpnhjaaDoorQFnExactReqMsgx1
import Derived.Test.YtbjpfknmkpnhjaaDoorQFnExactReqMsgx10
import Derived.Test.YtbjpfknmkpnhjaaDoorQFnExactReqMsgx11
import Derived.Test.YtbjpfknmkpnhjaaDoorQFnExactReqMsgx12
import Derived.Test.YtbjpfknmkpnhjaaDoorQFnExactReqMsgx13
import Derived.Test.YtbjpfknmkpnhjaaDoorQFnExactReqMsgx14
import Derived.Test.YtbjpfknmkpnhjaaDoorQFnExactReqMsgx15
import Derived.Test.YtbjpfknmkpnhjaaDoorQFnExactReqMsgx16
import Derived.Test.YtbjpfknmkpnhjaaDoorQFnExactReqMsgx17
import Derived.Test.YtbjpfknmkpnhjaaDoorQFnExactReqMsgx2
import Derived.Test.YtbjpfknmkpnhjaaDoorQFnExactReqMsgx3
import Derived.Test.YtbjpfknmkpnhjaaDoorQFnExactReqMsgx4
import Derived.Test.YtbjpfknmkpnhjaaDoorQFnExactReqMsgx5
import Derived.Test.YtbjpfknmkpnhjaaDoorQFnExactReqMsgx6
import Derived.Test.YtbjpfknmkpnhjaaDoorQFnExactReqMsgx7
import Derived.Test.YtbjpfknmkpnhjaaDoorQFnExactReqMsgx8
import Derived.Test.YtbjpfknmkpnhjaaDoorQFnExactReqMsgx9
import Derived.Laws.BitsLemmas
namespace Go.Proofs.YtbjpfknmkpnhjaaDoor.Pure
open Go.RowKit Go.Proofs.YtbjpfknmkpnhjaaDoor.QFnExactReqMsg Go.Proofs.YtbjpfknmkpnhjaaDoorW.PrintWords Go.Proofs.YtbjpfknmkpnhjaaDoorW.PrintLast
set_option linter.unusedVariables false
set_option linter.unusedSimpArgs false

theorem w_id {x : Int} (h0 : -9223372036854775808 ≤ x) (h1 : x ≤ 9223372036854775807) : wrap64 x = x := by unfold wrap64; omega

theorem tl_eq (s : ByteArray) : s.toList = s.data.toList := Go.ByteArray.toList_eq s

theorem ba_eq {s t : ByteArray} (h : s.toList = t.toList) : s = t := by
 rw [tl_eq, tl_eq] at h
 cases s; cases t; simp only [Array.toList_inj] at h; subst h; rfl

theorem tl_len (s : ByteArray) : s.toList.length = s.size := by rw [tl_eq]; simp

theorem ne_nil_eq (s : ByteArray) : (s.toList != ([] : List UInt8)) = decide (0 < s.size) := by
 have := tl_len s
 by_cases h : s.size = 0
 ·have e : s.toList = [] := List.eq_nil_of_length_eq_zero (by omega)
  rw [e]; simp [h]
 ·have e : s.toList ≠ [] := fun e => h (by rw [← tl_len, e]; rfl)
  rw [bne_iff_ne.2 e]; simp; omega

theorem evC {α : Type} {x : Option α} {r : α} (h : x = some r) : Ev (fun _ => x) r := ⟨0, fun _ _ => h⟩

theorem evP {α : Type} {c : Prop} [Decidable c] {f g : Nat → Option α} {r : α} (h : c) (k : Ev f r) : Ev (fun n => if c then f n else g n) r := by
 obtain ⟨K, k⟩ := k
 exact ⟨K, fun n hn => by show (if c then f n else g n) = some r; rw [if_pos h]; exact k n hn⟩

theorem evN {α : Type} {c : Prop} [Decidable c] {f g : Nat → Option α} {r : α} (h : ¬ c) (k : Ev g r) : Ev (fun n => if c then f n else g n) r := by
 obtain ⟨K, k⟩ := k
 exact ⟨K, fun n hn => by show (if c then f n else g n) = some r; rw [if_neg h]; exact k n hn⟩

theorem evS {α : Type} {g : Nat → Option α} {r : α} (h : Ev (fun k => g (k + 1)) r) : Ev g r := by
 obtain ⟨K, h⟩ := h
 refine ⟨K + 1, fun n hn => ?_⟩
 obtain ⟨m, rfl⟩ : ∃ m, n = m + 1 := ⟨n - 1, by omega⟩
 exact h m (by omega)

theorem evB {α β : Type} {g : Nat → Option α} {f : Nat → α → Option β} {a : α} {r : β} (h : Ev g a) (k : Ev (fun n => f n a) r) : Ev (fun n => (g n).bind fun t => f n t) r := Ev.bind h k

theorem evK {α β : Type} {x : Option α} {f : Nat → α → Option β} {a : α} {r : β} (h : x = some a) (k : Ev (fun n => f n a) r) : Ev (fun n => x.bind fun t => f n t) r := Ev.bind (evC h) k

theorem evFrom {α : Type} {g : Nat → Option α} {r : α} (K : Nat) (h : ∀ k, K ≤ k → g k = some r) : Ev g r := ⟨K, h⟩

theorem ite_and (a b : Bool) : (if a = true then some b else some false) = some (a && b) := by cases a <;> rfl

def allFrom (p : Int → Bool) (s : ByteArray) (i : Nat) : Bool := ((List.range s.size).drop i).all fun j => p (bt s (j : Int))

theorem allFrom_end (p : Int → Bool) (s : ByteArray) {i : Nat} (h : s.size ≤ i) : allFrom p s i = true := by
 unfold allFrom; rw [List.drop_eq_nil_of_le (by simpa using h)]; rfl

theorem allFrom_step (p : Int → Bool) (s : ByteArray) {i : Nat} (h : i < s.size) : allFrom p s i = (p (bt s (i : Int)) && allFrom p s (i + 1)) := by
 unfold allFrom; rw [List.drop_eq_getElem_cons (by simpa using h)]; simp

def isDig (c : Int) : Bool := decide (48 ≤ c) && decide (c ≤ 57)

def digits (s : ByteArray) : Bool := allFrom isDig s 0 && decide (0 < s.size)

theorem spec_Digits_l0 (s : ByteArray) (hs : s.size ≤ 140737488355328) (d : Nat) : ∀ (k i : Nat), i + d = s.size → d < k → spec_Digits.l0 k s (i : Int) = some (allFrom isDig s i && decide (0 < s.size)) := by
 induction d with
 | zero =>
  intro k i hi hk
  obtain ⟨k, rfl⟩ : ∃ m, k = m + 1 := ⟨k - 1, by omega⟩
  simp only [spec_Digits.l0]; rw [if_neg (by omega), allFrom_end _ _ (by omega)]; simp
 | succ d ih =>
  intro k i hi hk
  obtain ⟨k, rfl⟩ : ∃ m, k = m + 1 := ⟨k - 1, by omega⟩
  simp only [spec_Digits.l0]
  rw [if_pos (by omega), if_pos (by omega), w_id (by omega) (by omega), allFrom_step _ _ (by omega)]
  have e := ih k (i + 1) (by omega) (by omega)
  rw [show ((i : Int) + 1) = ((i + 1 : Nat) : Int) from by omega, e]
  unfold isDig
  by_cases h1 : bt s (i : Int) < 48
  ·rw [if_pos h1]; have : ¬ 48 ≤ bt s (i : Int) := by omega
   simp [this]
  ·rw [if_neg h1]; have h1' : 48 ≤ bt s (i : Int) := by omega
   by_cases h2 : bt s (i : Int) > 57
   ·rw [if_pos h2]; have : ¬ bt s (i : Int) ≤ 57 := by omega
    simp [this]
   ·rw [if_neg h2]; have h2' : bt s (i : Int) ≤ 57 := by omega
    simp [h1', h2']

theorem spec_Digits_f (s : ByteArray) (hs : s.size ≤ 140737488355328) (k : Nat) (hk : s.size < k) : spec_Digits.f k s = some (digits s) :=
 spec_Digits_l0 s hs s.size k 0 (by omega) hk

theorem impl_Digits_l0 (s : ByteArray) (hs : s.size ≤ 140737488355328) (d : Nat) : ∀ (k i : Nat), i + d = s.size → d < k → impl_Digits.l0 k s (s.size : Int) (i : Int) = some (allFrom isDig s i && decide (0 < s.size)) := by
 induction d with
 | zero =>
  intro k i hi hk
  obtain ⟨k, rfl⟩ : ∃ m, k = m + 1 := ⟨k - 1, by omega⟩
  simp only [impl_Digits.l0]; rw [if_neg (by omega), allFrom_end _ _ (by omega), ne_nil_eq]; simp
 | succ d ih =>
  intro k i hi hk
  obtain ⟨k, rfl⟩ : ∃ m, k = m + 1 := ⟨k - 1, by omega⟩
  simp only [impl_Digits.l0]
  rw [if_pos (by omega), if_pos (by omega), if_pos (by omega), w_id (by omega) (by omega), allFrom_step _ _ (by omega)]
  have e := ih k (i + 1) (by omega) (by omega)
  rw [show ((i : Int) + 1) = ((i + 1 : Nat) : Int) from by omega, e]
  unfold isDig
  by_cases h1 : bt s (i : Int) < 48
  ·rw [if_pos h1]; have : ¬ 48 ≤ bt s (i : Int) := by omega
   simp [this]
  ·rw [if_neg h1]; have h1' : 48 ≤ bt s (i : Int) := by omega
   by_cases h2 : bt s (i : Int) > 57
   ·rw [if_pos h2]; have : ¬ bt s (i : Int) ≤ 57 := by omega
    simp [this]
   ·rw [if_neg h2]; have h2' : bt s (i : Int) ≤ 57 := by omega
    simp [h1', h2']

theorem impl_Digits_f (s : ByteArray) (hs : s.size ≤ 140737488355328) (k : Nat) (hk : s.size < k) : impl_Digits.f k s = some (digits s) :=
 impl_Digits_l0 s hs s.size k 0 (by omega) hk

/-! ### Texts as lists of bytes -/

theorem bt_nat (s : ByteArray) (i : Nat) (h : i < s.data.toList.length) : bt s (i : Int) = ((s.data.toList[i]).toNat : Int) := by
 have h' : (i : Int).toNat < s.size := by rw [Int.toNat_natCast]; simpa using h
 unfold bt
 rw [dif_pos h']
 simp only [Int.toNat_natCast, Array.getElem_toList]
 rfl

theorem allFrom_iff (p : Int → Bool) (s : ByteArray) : allFrom p s 0 = true ↔ ∀ b ∈ s.data.toList, p (b.toNat : Int) = true := by
 unfold allFrom
 rw [List.drop_zero, List.all_eq_true]
 constructor
 ·intro h b hb
  obtain ⟨i, hi, rfl⟩ := List.getElem_of_mem hb
  have e := h i (List.mem_range.2 (by simpa using hi))
  rw [bt_nat s i hi] at e
  exact e
 ·intro h j hj
  have hj' : j < s.data.toList.length := by have := List.mem_range.1 hj; simpa using this
  rw [bt_nat s j hj']
  exact h _ (List.getElem_mem hj')

theorem allFrom_mk (p : Int → Bool) (l : List UInt8) : allFrom p (⟨l.toArray⟩ : ByteArray) 0 = true ↔ ∀ b ∈ l, p (b.toNat : Int) = true := by
 rw [allFrom_iff]

theorem digits_mk (l : List UInt8) (h : ∀ b ∈ l, 48 ≤ b.toNat ∧ b.toNat ≤ 57) (h0 : 0 < l.length) : digits (⟨l.toArray⟩ : ByteArray) = true := by
 unfold digits
 rw [(allFrom_mk isDig l).2 (fun b hb => ?_)]
 ·show (true && decide (0 < l.toArray.size)) = true
  simpa using h0
 ·have := h b hb
  unfold isDig
  simp; omega

theorem mk_append (l m : List UInt8) : (⟨l.toArray⟩ : ByteArray) ++ (⟨m.toArray⟩ : ByteArray) = ⟨(l ++ m).toArray⟩ := by
 apply ba_eq
 rw [tl_eq, tl_eq]
 simp

theorem mk_size (l : List UInt8) : (⟨l.toArray⟩ : ByteArray).size = l.length := rfl

theorem app_empty (s : ByteArray) : s ++ (⟨#[]⟩ : ByteArray) = s := by
 apply ba_eq
 rw [tl_eq, tl_eq]
 simp

theorem spec_In_f (a b c : Int) : spec_l01In.f a b c = some (decide (b ≤ a) && decide (a ≤ c)) := by
 unfold spec_l01In.f
 by_cases h : a ≥ b
 ·rw [if_pos h]; have : b ≤ a := h
  simp [this]
 ·rw [if_neg h]; have : ¬ b ≤ a := h
  simp [this]

theorem within_f (a b c : Int) : impl_within.f a b c = some (decide (b ≤ a) && decide (a ≤ c)) := by
 unfold impl_within.f
 by_cases h : b ≤ a
 ·rw [if_pos h]; simp [h]
 ·rw [if_neg h]; simp [h]

/-! ### Numbers as texts -/

theorem nDigits_le : ∀ (k u : Nat), u < 10 ^ (k + 1) → Lib.nDigits u ≤ k + 1
 | 0, u, h => by rw [Lib.nDigits_small (by simpa using h)]; exact Nat.le_refl _
 | k + 1, u, h => by
  by_cases h1 : u < 10
  ·rw [Lib.nDigits_small h1]; omega
  ·rw [Lib.nDigits_big h1]
   have := nDigits_le k (u / 10) (by rw [Nat.pow_succ] at h; omega)
   omega

theorem dd_sign (u : Nat) : ∀ b ∈ Lib.decDigits u, 48 ≤ b.toNat ∧ b.toNat ≤ 57 := by
 induction u using Nat.strongRecOn with
 | _ u ih =>
  have one : ∀ d : Nat, d < 10 → 48 ≤ (UInt8.ofNat (48 + d)).toNat ∧ (UInt8.ofNat (48 + d)).toNat ≤ 57 := by
   intro d hd
   rw [UInt8.toNat_ofNat_of_lt' (by show 48 + d < 256; omega)]
   omega
  intro b hb
  rw [Lib.decDigits] at hb
  split at hb
  ·rename_i h
   rw [List.mem_singleton.1 hb]
   exact one u h
  ·rcases List.mem_append.1 hb with hb | hb
   ·exact ih (u / 10) (by omega) b hb
   ·rw [List.mem_singleton.1 hb]
    exact one _ (Nat.mod_lt _ (by omega))

theorem dd_ne (u : Nat) : 0 < (Lib.decDigits u).length := by rw [Lib.decDigits_length]; exact Lib.nDigits_pos u

theorem son_one (d : Nat) (h : d < 10) : strOfNums [(wrap64 (48 + (d : Int))) % 256] = (⟨[UInt8.ofNat (48 + d)].toArray⟩ : ByteArray) := by
 have e : wrap64 (48 + (d : Int)) % 256 = ((48 + d : Nat) : Int) := by unfold wrap64; omega
 rw [e]
 rfl

theorem spec_NumText_l0 : ∀ (f u : Nat) (s : ByteArray), u < 10 ^ (f + 1) → s.size + f ≤ 1000 → u ≤ 9223372036854775807 → Ev (fun k => spec_NumText.l0 k (u : Int) s) ((⟨(Lib.decDigits u).toArray⟩ : ByteArray) ++ s)
 | f, u, s, h1, h2, h3 => by
  refine evS ?_
  simp only [spec_NumText.l0, Option.bind_some]
  by_cases h : u < 10
  ·rw [Lib.decDigits, dif_pos h, son_one u h]
   exact evN (by omega) (evP (by rw [mk_size]; simp only [List.length_singleton]; omega) (evC rfl))
  ·cases f with
   | zero => exact absurd h1 (by simpa using h)
   | succ f =>
    have et : Int.tmod (u : Int) 10 = ((u % 10 : Nat) : Int) := by rw [Int.tmod_eq_emod_of_nonneg (by omega)]; omega
    have ed : wrap64 (Int.tdiv (u : Int) 10) = ((u / 10 : Nat) : Int) := by
     rw [Int.tdiv_eq_ediv_of_nonneg (by omega), w_id (by omega) (by omega)]; omega
    rw [et, ed, son_one _ (Nat.mod_lt _ (by omega))]
    refine evP (by omega) (evP (by rw [mk_size]; simp only [List.length_singleton]; omega) ?_)
    have e := spec_NumText_l0 f (u / 10) ((⟨[UInt8.ofNat (48 + u % 10)].toArray⟩ : ByteArray) ++ s) (by rw [Nat.pow_succ] at h1; omega) (by rw [ByteArray.size_append, mk_size]; simp only [List.length_singleton]; omega) (by omega)
    rw [Lib.decDigits, dif_neg h, ← mk_append, ByteArray.append_assoc]
    exact e

theorem spec_NumText_ev (u : Nat) (h : u ≤ 4611686018427387904) : Ev (fun k => spec_NumText.f k (u : Int)) (⟨(Lib.decDigits u).toArray⟩ : ByteArray) := by
 unfold spec_NumText.f spec_l01Money.f
 have e := spec_NumText_l0 18 u (⟨#[]⟩ : ByteArray) (by omega) (by decide) (by omega)
 rw [app_empty] at e
 refine evB (evP (by omega) (evC rfl)) (evP (by simp; omega) e)

def wideT (u w : Nat) : ByteArray := ⟨(List.replicate (w - (Lib.decDigits u).length) 48 ++ Lib.decDigits u).toArray⟩

theorem wideT_size (u w : Nat) (h : Lib.nDigits u ≤ w) : (wideT u w).size = w := by
 unfold wideT
 rw [mk_size, List.length_append, List.length_replicate, Lib.decDigits_length]
 omega

theorem wideT_digits (u w : Nat) : digits (wideT u w) = true := by
 refine digits_mk _ (fun b hb => ?_) ?_
 ·rcases List.mem_append.1 hb with hb | hb
  ·rw [(List.mem_replicate.1 hb).2]; decide
  ·exact dd_sign u b hb
 ·rw [List.length_append]; have := dd_ne u; omega

theorem spec_Wide_l0 (w : Nat) (hw : w ≤ 18) (d : Nat) : ∀ (l : List UInt8), l.length + d = w → Ev (fun k => spec_Wide.l0 k (w : Int) (⟨l.toArray⟩ : ByteArray)) (⟨(List.replicate d 48 ++ l).toArray⟩ : ByteArray) := by
 induction d with
 | zero =>
  intro l hl
  refine evS ?_
  simp only [spec_Wide.l0, mk_size]
  exact evN (by omega) (evC rfl)
 | succ d ih =>
  intro l hl
  refine evS ?_
  simp only [spec_Wide.l0, mk_size]
  have e := ih (48 :: l) (by simp only [List.length_cons]; omega)
  have e2 : (⟨#[48]⟩ : ByteArray) ++ (⟨l.toArray⟩ : ByteArray) = ⟨(48 :: l).toArray⟩ := mk_append [48] l
  have e3 : List.replicate d (48 : UInt8) ++ 48 :: l = List.replicate (d + 1) 48 ++ l := by rw [List.replicate_succ', List.append_assoc]; rfl
  rw [e2]
  rw [e3] at e
  exact evP (by omega) (evP (by omega) e)

theorem spec_Wide_ev (u w : Nat) (hu : u ≤ 4611686018427387904) (h1 : 1 ≤ w) (hw : w ≤ 18) (hn : Lib.nDigits u ≤ w) : Ev (fun k => spec_Wide.f k (u : Int) (w : Int)) (wideT u w) := by
 unfold spec_Wide.f
 have hne : ¬ (⟨(Lib.decDigits u).toArray⟩ : ByteArray).toList = ([] : List UInt8) := by
  intro e
  have h0 := dd_ne u
  have h2 := tl_len (⟨(Lib.decDigits u).toArray⟩ : ByteArray)
  rw [e, mk_size, List.length_nil] at h2
  omega
 have hl := Lib.decDigits_length u
 refine evB (spec_NumText_ev u hu) (evN hne (evN (by omega) (evN (by omega) (evS ?_))))
 simp only [spec_Wide.j0, mk_size]
 refine evN (by simp; omega) ?_
 exact spec_Wide_l0 w hw _ _ (by omega)

theorem impl_Wide_f (u w : Nat) (hu : u ≤ 4611686018427387904) (h1 : 1 ≤ w) (hw : w ≤ 18) (hn : Lib.nDigits u ≤ w) : impl_Wide.f (u : Int) (w : Int) = some (wideT u w) := by
 have hl := Lib.decDigits_length u
 have ei : Lib.itoa (u : Int) = Lib.decDigits u := by unfold Lib.itoa; rw [if_neg (by omega), Int.toNat_natCast]
 unfold impl_Wide.f strconv_Itoa_28.f
 rw [if_pos (by omega), Option.bind_some, if_neg (by omega), within_f, Option.bind_some, if_pos (by simp; omega), ei, mk_size, if_neg (by omega)]
 rw [w_id (by omega) (by omega), show (w : Int) - ((Lib.decDigits u).length : Int) = ((w - (Lib.decDigits u).length : Nat) : Int) from by omega]
 unfold strings_Repeat.f
 have hs : (⟨#[48]⟩ : ByteArray).size = 1 := rfl
 have er : Lib.repeatL (⟨#[48]⟩ : ByteArray).data.toList (w - (Lib.decDigits u).length) = List.replicate (w - (Lib.decDigits u).length) 48 := by
  have := Lib.repeatL_replicate 48 1 (w - (Lib.decDigits u).length)
  rw [Nat.mul_one] at this
  exact this
 rw [if_pos (by rw [hs]; omega), Option.bind_some, Int.toNat_natCast, er, mk_size, List.length_replicate, if_pos (by omega), mk_append]
 rfl

theorem allFrom_get (p : Int → Bool) (s : ByteArray) (h : allFrom p s 0 = true) (j : Nat) (hj : j < s.size) : p (bt s (j : Int)) = true := by
 unfold allFrom at h
 rw [List.drop_zero, List.all_eq_true] at h
 exact h j (List.mem_range.2 hj)

theorem digit_at (s : ByteArray) (h : digits s = true) (j : Nat) (hj : j < s.size) : 48 ≤ bt s (j : Int) ∧ bt s (j : Int) ≤ 57 := by
 unfold digits at h
 rw [Bool.and_eq_true] at h
 have := allFrom_get _ s h.1 j hj
 unfold isDig at this
 simpa using this

def luhnD (b : Bool) (d : Int) : Int := if b = true then (if 2 * d > 9 then 2 * d - 9 else 2 * d) else d

def luhnFrom (s : ByteArray) : Int → Bool → Nat → Int
 | sum, _, 0 => sum
 | sum, b, i + 1 => luhnFrom s (sum + luhnD b (bt s (i : Int) - 48)) (!b) i

theorem luhnD_range (b : Bool) (d : Int) (h0 : 0 ≤ d) (h1 : d ≤ 9) : 0 ≤ luhnD b d ∧ luhnD b d ≤ 9 := by
 unfold luhnD; cases b
 ·rw [if_neg (by decide)]; omega
 ·rw [if_pos rfl]; split <;> omega

def luhn (s : ByteArray) : Int := if digits s = true then Int.tmod (10 - luhnFrom s 0 true s.size % 10) 10 else -1

theorem spec_Luhn_l0 (s : ByteArray) (hs : s.size ≤ 140737488355328) (hd : digits s = true) (i : Nat) : ∀ (k : Nat) (sum : Int) (b : Bool), i ≤ s.size → 0 ≤ sum → i < k →
  spec_Luhn.l0 k s (sum % 10) b ((i : Int) - 1) = some (Int.tmod (10 - luhnFrom s sum b i % 10) 10) := by
 induction i with
 | zero =>
  intro k sum b hi h0 hk
  obtain ⟨k, rfl⟩ : ∃ m, k = m + 1 := ⟨k - 1, by omega⟩
  simp only [spec_Luhn.l0]
  rw [if_neg (by omega), w_id (by omega) (by omega)]; rfl
 | succ i ih =>
  intro k sum b hi h0 hk
  obtain ⟨k, rfl⟩ : ∃ m, k = m + 1 := ⟨k - 1, by omega⟩
  have g := digit_at s hd i (by omega)
  have r := luhnD_range b (bt s (i : Int) - 48) (by omega) (by omega)
  rw [show (((i + 1 : Nat) : Int) - 1) = (i : Int) from by omega]
  simp only [spec_Luhn.l0]
  have ew : wrap64 (wrap64 (bt s (i : Int)) - 48) = bt s (i : Int) - 48 := by rw [w_id (x := bt s (i : Int)) (by omega) (by omega), w_id (by omega) (by omega)]
  rw [if_pos (by omega), if_pos (by omega), if_pos (by omega), ew, w_id (x := (i : Int) - 1) (by omega) (by omega)]
  have e2 : wrap64 (2 * (bt s (i : Int) - 48)) = 2 * (bt s (i : Int) - 48) := w_id (by omega) (by omega)
  have step : ∀ d : Int, 0 ≤ d → d ≤ 18 → Int.tmod (wrap64 (sum % 10 + d)) 10 = (sum + d) % 10 := fun d h1 h2 => by
   rw [w_id (by omega) (by omega), Int.tmod_eq_emod_of_nonneg (by omega)]; omega
  have e := ih k (sum + luhnD b (bt s (i : Int) - 48)) (!b) (by omega) (by omega) (by omega)
  unfold luhnFrom
  rw [← e]
  unfold luhnD at r ⊢
  cases b
  ·rw [if_neg (by decide), if_neg (by decide), step _ (by omega) (by omega)]
  ·rw [if_pos rfl, if_pos rfl, e2]
   by_cases h9 : 2 * (bt s (i : Int) - 48) > 9
   ·rw [if_pos h9, if_pos h9, w_id (x := 2 * (bt s (i : Int) - 48) - 9) (by omega) (by omega), step _ (by omega) (by omega)]
   ·rw [if_neg h9, if_neg h9, step _ (by omega) (by omega)]

theorem spec_Luhn_f (s : ByteArray) (hs : s.size ≤ 140737488355328) (k : Nat) (hk : s.size < k) : spec_Luhn.f k s = some (luhn s) := by
 unfold spec_Luhn.f luhn
 rw [spec_Digits_f s hs k hk, Option.bind_some]
 by_cases h : digits s = true
 ·rw [if_pos h, if_pos h, w_id (by omega) (by omega)]
  have := spec_Luhn_l0 s hs h s.size k 0 true (Nat.le_refl _) (by omega) hk
  rw [show (0 : Int) % 10 = 0 from rfl] at this
  exact this
 ·rw [if_neg h, if_neg h]

theorem impl_Luhn_l0 (s : ByteArray) (hs : s.size ≤ 140737488355328) (hd : digits s = true) (i : Nat) : ∀ (k : Nat) (sum : Int) (b : Bool), i ≤ s.size → 0 ≤ sum → sum + 9 * i ≤ 4611686018427387904 → i < k →
  impl_Luhn.l0 k s sum b ((i : Int) - 1) = some (Int.tmod (10 - luhnFrom s sum b i % 10) 10) := by
 induction i with
 | zero =>
  intro k sum b hi h0 hb hk
  obtain ⟨k, rfl⟩ : ∃ m, k = m + 1 := ⟨k - 1, by omega⟩
  simp only [impl_Luhn.l0]
  rw [if_neg (by omega), Int.tmod_eq_emod_of_nonneg (a := sum) h0, w_id (by omega) (by omega)]; rfl
 | succ i ih =>
  intro k sum b hi h0 hb hk
  obtain ⟨k, rfl⟩ : ∃ m, k = m + 1 := ⟨k - 1, by omega⟩
  have g := digit_at s hd i (by omega)
  have r := luhnD_range b (bt s (i : Int) - 48) (by omega) (by omega)
  rw [show (((i + 1 : Nat) : Int) - 1) = (i : Int) from by omega]
  simp only [impl_Luhn.l0]
  have ew : (bt s (i : Int) - 48) % 256 = bt s (i : Int) - 48 := by omega
  rw [if_pos (by omega), if_pos (by omega), if_pos (by omega), ew, w_id (x := (i : Int) - 1) (by omega) (by omega)]
  have e := ih k (sum + luhnD b (bt s (i : Int) - 48)) (!b) (by omega) (by omega) (by omega) (by omega)
  unfold luhnFrom
  rw [← e]
  unfold luhnD at r ⊢
  cases b
  ·rw [if_neg (by decide), if_neg (by decide), w_id (by omega) (by omega)]
  ·rw [if_pos rfl, if_pos rfl, show (bt s (i : Int) - 48) * 2 = 2 * (bt s (i : Int) - 48) from by omega]
   by_cases h9 : 2 * (bt s (i : Int) - 48) > 9
   ·rw [if_pos h9, if_pos h9, w_id (by omega) (by omega)]
   ·rw [if_neg h9, if_neg h9, w_id (by omega) (by omega)]

theorem impl_Luhn_f (s : ByteArray) (hs : s.size ≤ 140737488355328) (k : Nat) (hk : s.size < k) : impl_Luhn.f k s = some (luhn s) := by
 unfold impl_Luhn.f luhn
 rw [impl_Digits_f s hs k hk, Option.bind_some]
 by_cases h : digits s = true
 ·rw [if_pos h, if_pos h, w_id (by omega) (by omega)]
  exact impl_Luhn_l0 s hs h s.size k 0 true (Nat.le_refl _) (by omega) (by omega) hk
 ·rw [if_neg h, if_neg h]

def luhnOk (s : ByteArray) : Bool := digits s && (decide (2 ≤ s.size) && (luhn (s.extract 0 (s.size - 1)) == bt s ((s.size - 1 : Nat) : Int) - 48))

theorem size_cut (s : ByteArray) (n : Nat) (h : n ≤ s.size) : (s.extract 0 n).size = n := by
 rw [ByteArray.size_extract]; omega

theorem spec_LuhnOk_f (s : ByteArray) (hs : s.size ≤ 140737488355328) (k : Nat) (hk : s.size < k) : spec_LuhnOk.f k s = some (luhnOk s) := by
 unfold spec_LuhnOk.f luhnOk
 rw [spec_Digits_f s hs k hk, Option.bind_some]
 by_cases h : digits s = true
 ·rw [if_pos h, h]
  by_cases h2 : (s.size : Int) < 2
  ·rw [if_pos h2]; have : ¬ 2 ≤ s.size := by omega
   simp [this]
  ·have e : wrap64 ((s.size : Int) - 1) = ((s.size - 1 : Nat) : Int) := by rw [w_id (by omega) (by omega)]; omega
   have g := digit_at s h (s.size - 1) (by omega)
   have h2' : 2 ≤ s.size := by omega
   rw [if_neg h2, e, if_pos (by omega), if_pos (by omega), Int.toNat_natCast,
    spec_Luhn_f _ (by rw [size_cut _ _ (by omega)]; omega) k (by rw [size_cut _ _ (by omega)]; omega), Option.bind_some, if_pos (by omega),
    w_id (x := bt s ((s.size - 1 : Nat) : Int)) (by omega) (by omega), w_id (by omega) (by omega)]
   simp [h2']
 ·rw [if_neg h, Bool.eq_false_iff.mpr h]; rfl

theorem impl_LuhnOk_f (s : ByteArray) (hs : s.size ≤ 140737488355328) (k : Nat) (hk : s.size < k) : impl_LuhnOk.f k s = some (luhnOk s) := by
 unfold impl_LuhnOk.f luhnOk
 have e : wrap64 ((s.size : Int) - 1) = (s.size : Int) - 1 := w_id (by omega) (by omega)
 rw [e]
 by_cases h2 : (s.size : Int) - 1 ≥ 1
 ·rw [if_pos h2, impl_Digits_f s hs k hk, Option.bind_some]
  by_cases h : digits s = true
  ·have g := digit_at s h (s.size - 1) (by omega)
   have h2' : 2 ≤ s.size := by omega
   rw [if_pos h, h, show (s.size : Int) - 1 = ((s.size - 1 : Nat) : Int) from by omega, if_pos (by omega), if_pos (by omega), Int.toNat_natCast,
    impl_Luhn_f _ (by rw [size_cut _ _ (by omega)]; omega) k (by rw [size_cut _ _ (by omega)]; omega), Option.bind_some, if_pos (by omega),
    show (bt s ((s.size - 1 : Nat) : Int) - 48) % 256 = bt s ((s.size - 1 : Nat) : Int) - 48 from by omega]
   simp [h2']
  ·rw [if_neg h, Bool.eq_false_iff.mpr h]; rfl
 ·rw [if_neg h2]; have : ¬ 2 ≤ s.size := by omega
  simp [this]

def acctIdOk (s : ByteArray) : Bool := decide ((s.size : Int) ≤ 19) && luhnOk s

theorem spec_AcctIdOk_f (s : ByteArray) (hs : s.size ≤ 140737488355328) (k : Nat) (hk : s.size < k) : spec_AcctIdOk.f k s = some (acctIdOk s) := by
 unfold spec_AcctIdOk.f acctIdOk
 by_cases h : (s.size : Int) ≤ 19
 ·rw [if_pos h, spec_LuhnOk_f s hs k hk]; simp [h]
 ·rw [if_neg h]; simp [h]

theorem impl_AcctIdOk_f (s : ByteArray) (hs : s.size ≤ 140737488355328) (k : Nat) (hk : s.size < k) : impl_AcctIdOk.f k s = some (acctIdOk s) := by
 unfold impl_AcctIdOk.f acctIdOk
 by_cases h : (s.size : Int) ≤ 19
 ·rw [if_pos h, impl_LuhnOk_f s hs k hk]; simp [h]
 ·rw [if_neg h]; simp [h]

def idSign (c : Int) : Bool := (decide (48 ≤ c) && decide (c ≤ 57)) || (decide (97 ≤ c) && decide (c ≤ 122))

def holdIdOk (s : ByteArray) : Bool := allFrom idSign s 0 && (decide (1 ≤ (s.size : Int)) && decide ((s.size : Int) ≤ 6))

theorem idSign_ite {α : Type} (c : Int) (x y : α) :
  (if c < 48 then (if c < 97 then x else (if c > 122 then x else y)) else (if c > 57 then (if c < 97 then x else (if c > 122 then x else y)) else y)) = if idSign c = true then y else x := by
 by_cases h : idSign c = true
 ·rw [if_pos h]
  unfold idSign at h
  simp only [Bool.or_eq_true, Bool.and_eq_true, decide_eq_true_eq] at h
  rcases h with h | h
  ·rw [if_neg (by omega), if_neg (by omega)]
  ·rw [if_neg (by omega), if_pos (by omega), if_neg (by omega), if_neg (by omega)]
 ·rw [if_neg h]
  unfold idSign at h
  simp only [Bool.or_eq_true, Bool.and_eq_true, decide_eq_true_eq, not_or, not_and] at h
  obtain ⟨h1, h2⟩ := h
  by_cases a : c < 48
  ·rw [if_pos a, if_pos (by omega)]
  ·rw [if_neg a]
   by_cases b : c > 57
   ·rw [if_pos b]
    by_cases d : c < 97
    ·rw [if_pos d]
    ·rw [if_neg d]; have := h2 (by omega); rw [if_pos (by omega)]
   ·have := h1 (by omega); omega

theorem spec_HoldIdOk_l0 (s : ByteArray) (hs : s.size ≤ 140737488355328) (d : Nat) : ∀ (k i : Nat), i + d = s.size → d < k → spec_HoldIdOk.l0 k s (i : Int) = some (allFrom idSign s i && (decide (1 ≤ (s.size : Int)) && decide ((s.size : Int) ≤ 6))) := by
 induction d with
 | zero =>
  intro k i hi hk
  obtain ⟨k, rfl⟩ : ∃ m, k = m + 1 := ⟨k - 1, by omega⟩
  simp only [spec_HoldIdOk.l0]; rw [if_neg (by omega), allFrom_end _ _ (by omega), spec_In_f]; simp
 | succ d ih =>
  intro k i hi hk
  obtain ⟨k, rfl⟩ : ∃ m, k = m + 1 := ⟨k - 1, by omega⟩
  simp only [spec_HoldIdOk.l0]
  rw [if_pos (by omega), if_pos (by omega), w_id (by omega) (by omega), allFrom_step _ _ (by omega)]
  have e := ih k (i + 1) (by omega) (by omega)
  rw [show ((i : Int) + 1) = ((i + 1 : Nat) : Int) from by omega, e, idSign_ite]
  cases idSign (bt s (i : Int)) <;> simp

theorem spec_HoldIdOk_f (s : ByteArray) (hs : s.size ≤ 140737488355328) (k : Nat) (hk : s.size < k) : spec_HoldIdOk.f k s = some (holdIdOk s) :=
 spec_HoldIdOk_l0 s hs s.size k 0 (by omega) hk

theorem impl_HoldIdOk_l0 (s : ByteArray) (hs : s.size ≤ 140737488355328) (d : Nat) : ∀ (k i : Nat), i + d = s.size → d < k → impl_HoldIdOk.l0 k s (s.size : Int) (i : Int) = some (allFrom idSign s i && (decide (1 ≤ (s.size : Int)) && decide ((s.size : Int) ≤ 6))) := by
 induction d with
 | zero =>
  intro k i hi hk
  obtain ⟨k, rfl⟩ : ∃ m, k = m + 1 := ⟨k - 1, by omega⟩
  simp only [impl_HoldIdOk.l0]; rw [if_neg (by omega), allFrom_end _ _ (by omega), within_f]; simp
 | succ d ih =>
  intro k i hi hk
  obtain ⟨k, rfl⟩ : ∃ m, k = m + 1 := ⟨k - 1, by omega⟩
  simp only [impl_HoldIdOk.l0]
  rw [if_pos (by omega), if_pos (by omega), if_pos (by omega), w_id (by omega) (by omega), allFrom_step _ _ (by omega)]
  have e := ih k (i + 1) (by omega) (by omega)
  rw [show ((i : Int) + 1) = ((i + 1 : Nat) : Int) from by omega, e, idSign_ite]
  cases idSign (bt s (i : Int)) <;> simp

theorem impl_HoldIdOk_f (s : ByteArray) (hs : s.size ≤ 140737488355328) (k : Nat) (hk : s.size < k) : impl_HoldIdOk.f k s = some (holdIdOk s) :=
 impl_HoldIdOk_l0 s hs s.size k 0 (by omega) hk

theorem spec_AcctIdOk_ev (s : ByteArray) (hs : s.size ≤ 140737488355328) : Ev (fun k => spec_AcctIdOk.f k s) (acctIdOk s) := evFrom (s.size + 1) fun k hk => spec_AcctIdOk_f s hs k (by omega)

theorem impl_AcctIdOk_ev (s : ByteArray) (hs : s.size ≤ 140737488355328) : Ev (fun k => impl_AcctIdOk.f k s) (acctIdOk s) := evFrom (s.size + 1) fun k hk => impl_AcctIdOk_f s hs k (by omega)

theorem spec_HoldIdOk_ev (s : ByteArray) (hs : s.size ≤ 140737488355328) : Ev (fun k => spec_HoldIdOk.f k s) (holdIdOk s) := evFrom (s.size + 1) fun k hk => spec_HoldIdOk_f s hs k (by omega)

theorem impl_HoldIdOk_ev (s : ByteArray) (hs : s.size ≤ 140737488355328) : Ev (fun k => impl_HoldIdOk.f k s) (holdIdOk s) := evFrom (s.size + 1) fun k hk => impl_HoldIdOk_f s hs k (by omega)

theorem spec_Digits_ev (s : ByteArray) (hs : s.size ≤ 140737488355328) : Ev (fun k => spec_Digits.f k s) (digits s) := evFrom (s.size + 1) fun k hk => spec_Digits_f s hs k (by omega)

def isPrt (c : Int) : Bool := decide (32 ≤ c) && decide (c ≤ 126)

def printable (s : ByteArray) : Bool := allFrom isPrt s 0

theorem spec_Printable_l0 (s : ByteArray) (hs : s.size ≤ 140737488355328) (d : Nat) : ∀ (k i : Nat), i + d = s.size → d < k → spec_Printable.l0 k s (i : Int) = some (allFrom isPrt s i) := by
 induction d with
 | zero =>
  intro k i hi hk
  obtain ⟨k, rfl⟩ : ∃ m, k = m + 1 := ⟨k - 1, by omega⟩
  simp only [spec_Printable.l0]; rw [if_neg (by omega), allFrom_end _ _ (by omega)]
 | succ d ih =>
  intro k i hi hk
  obtain ⟨k, rfl⟩ : ∃ m, k = m + 1 := ⟨k - 1, by omega⟩
  simp only [spec_Printable.l0]
  rw [if_pos (by omega), if_pos (by omega), w_id (by omega) (by omega), allFrom_step _ _ (by omega)]
  have e := ih k (i + 1) (by omega) (by omega)
  rw [show ((i : Int) + 1) = ((i + 1 : Nat) : Int) from by omega, e]
  unfold isPrt
  by_cases h1 : bt s (i : Int) < 32
  ·rw [if_pos h1]; have : ¬ 32 ≤ bt s (i : Int) := by omega
   simp [this]
  ·rw [if_neg h1]; have h1' : 32 ≤ bt s (i : Int) := by omega
   by_cases h2 : bt s (i : Int) > 126
   ·rw [if_pos h2]; have : ¬ bt s (i : Int) ≤ 126 := by omega
    simp [this]
   ·rw [if_neg h2]; have h2' : bt s (i : Int) ≤ 126 := by omega
    simp [h1', h2']

theorem impl_Printable_l0 (s : ByteArray) (hs : s.size ≤ 140737488355328) (d : Nat) : ∀ (k i : Nat), i + d = s.size → d < k → impl_Printable.l0 k s (s.size : Int) (i : Int) = some (allFrom isPrt s i) := by
 induction d with
 | zero =>
  intro k i hi hk
  obtain ⟨k, rfl⟩ : ∃ m, k = m + 1 := ⟨k - 1, by omega⟩
  simp only [impl_Printable.l0]; rw [if_neg (by omega), allFrom_end _ _ (by omega)]
 | succ d ih =>
  intro k i hi hk
  obtain ⟨k, rfl⟩ : ∃ m, k = m + 1 := ⟨k - 1, by omega⟩
  simp only [impl_Printable.l0]
  rw [if_pos (by omega), if_pos (by omega), if_pos (by omega), w_id (by omega) (by omega), allFrom_step _ _ (by omega)]
  have e := ih k (i + 1) (by omega) (by omega)
  rw [show ((i : Int) + 1) = ((i + 1 : Nat) : Int) from by omega, e]
  unfold isPrt
  by_cases h1 : bt s (i : Int) < 32
  ·rw [if_pos h1]; have : ¬ 32 ≤ bt s (i : Int) := by omega
   simp [this]
  ·rw [if_neg h1]; have h1' : 32 ≤ bt s (i : Int) := by omega
   by_cases h2 : bt s (i : Int) > 126
   ·rw [if_pos h2]; have : ¬ bt s (i : Int) ≤ 126 := by omega
    simp [this]
   ·rw [if_neg h2]; have h2' : bt s (i : Int) ≤ 126 := by omega
    simp [h1', h2']

theorem spec_Printable_ev (s : ByteArray) (hs : s.size ≤ 140737488355328) : Ev (fun k => spec_Printable.f k s) (printable s) := evFrom (s.size + 1) fun k hk => spec_Printable_l0 s hs s.size k 0 (by omega) (by omega)

theorem impl_Printable_ev (s : ByteArray) (hs : s.size ≤ 140737488355328) : Ev (fun k => impl_Printable.f k s) (printable s) := evFrom (s.size + 1) fun k hk => impl_Printable_l0 s hs s.size k 0 (by omega) (by omega)

theorem printable_iff (s : ByteArray) : printable s = true ↔ ∀ b ∈ s.data.toList, 32 ≤ b.toNat ∧ b.toNat ≤ 126 := by
 unfold printable
 rw [allFrom_iff]
 refine forall_congr' fun b => forall_congr' fun _ => ?_
 unfold isPrt
 simp; omega

theorem getD_at {α : Type} (z : α) (xs : List α) (i : Nat) (h : i < xs.length) : xs.getD (i : Int).toNat z = xs[i] := by
 rw [Int.toNat_natCast, List.getD_eq_getElem?_getD, List.getElem?_eq_getElem h]; rfl

theorem rd_at (xs : List Int) (i : Nat) (h : i < xs.length) : rd xs (i : Int) = xs[i] := by unfold rd; exact getD_at _ xs i h

theorem take_set {α : Type} (ys : List α) (i : Nat) (v : α) (h : i < ys.length) : (ys.set i v).take (i + 1) = ys.take i ++ [v] := by
 rw [List.take_succ_eq_append_getElem (by rw [List.length_set]; exact h), List.take_set_of_le (Nat.le_refl _), List.getElem_set_self]

def wtL {α : Type} (f : α → Nat) (xs : List α) : Nat := xs.length + (xs.map f).sum

theorem wtL_len {α : Type} (f : α → Nat) (xs : List α) : xs.length ≤ wtL f xs := Nat.le_add_right _ _

theorem exN {α : Type} {c : Prop} [Decidable c] {f g : Nat → Option α} {Q : α → Prop} (h : ¬ c) (k : ∃ t, Ev g t ∧ Q t) : ∃ t, Ev (fun n => if c then f n else g n) t ∧ Q t := by
 obtain ⟨t, a, b⟩ := k; exact ⟨t, evN h a, b⟩

def wtField (y : S67) : Nat := y.f1.size

theorem eqField_refl (y : S67) : laws_eqField.f y.f0 y.f1 y.f0 y.f1 = some true := by
 unfold laws_eqField.f
 simp

theorem rdI_Field (xs : List S67) (i : Nat) (h : i < xs.length) : rd_T67 xs (i : Int) = xs[i] := by
 unfold rd_T67; exact getD_at _ xs i h

theorem eqFieldS_l0 (ys : List S67) (hw : wtL wtField ys ≤ 1048576) (d : Nat) : ∀ (i : Nat), i + d = ys.length → Ev (fun k => laws_eqFieldS.l0 k ys ys (i : Int)) true := by
 have hl := wtL_len wtField ys
 induction d with
 | zero =>
  intro i hi
  refine evS ?_
  simp only [laws_eqFieldS.l0]
  exact evN (by omega) (evC rfl)
 | succ d ih =>
  intro i hi
  have hlt : i < ys.length := by omega
  refine evS ?_
  simp only [laws_eqFieldS.l0, rdI_Field ys i hlt]
  refine evP (by omega) (evP (by omega) (evP (by omega) (evK (eqField_refl ys[i]) (evP rfl ?_))))
  rw [w_id (by omega) (by omega)]
  exact ih (i + 1) (by omega)

theorem eqFieldS_refl (ys : List S67) (hw : wtL wtField ys ≤ 1048576) : Ev (fun k => laws_eqFieldS.f k ys ys) true := by
 unfold laws_eqFieldS.f
 exact evP rfl (eqFieldS_l0 ys hw ys.length 0 (by omega))

/-! ### The table of fields, at the numbers that requests use -/

theorem spec_Size_at (no r : Int) (h : ∀ k, spec_FieldSize.f (k + 4) no = some r) : Ev (fun k => spec_FieldSize.f k no) r := evFrom 4 fun k hk => by
 obtain ⟨m, rfl⟩ : ∃ m, k = m + 4 := ⟨k - 4, by omega⟩
 exact h m

theorem spec_Kind_at (no r : Int) (h : ∀ k, spec_FieldKind.f (k + 4) no = some r) : Ev (fun k => spec_FieldKind.f k no) r := evFrom 4 fun k hk => by
 obtain ⟨m, rfl⟩ : ∃ m, k = m + 4 := ⟨k - 4, by omega⟩
 exact h m

theorem sz2 : Ev (fun k => spec_FieldSize.f k 2) 19 := spec_Size_at _ _ fun k => by simp [spec_FieldSize.f, spec_FieldSize.j0, spec_FieldSize.j1, spec_FieldSize.j2]

theorem sz3 : Ev (fun k => spec_FieldSize.f k 3) 6 := spec_Size_at _ _ fun k => by simp [spec_FieldSize.f, spec_FieldSize.j0, spec_FieldSize.j1, spec_FieldSize.j2]

theorem sz4 : Ev (fun k => spec_FieldSize.f k 4) 12 := spec_Size_at _ _ fun k => by simp [spec_FieldSize.f, spec_FieldSize.j0, spec_FieldSize.j1, spec_FieldSize.j2]

theorem sz11 : Ev (fun k => spec_FieldSize.f k 11) 6 := spec_Size_at _ _ fun k => by simp [spec_FieldSize.f, spec_FieldSize.j0, spec_FieldSize.j1, spec_FieldSize.j2]

theorem sz14 : Ev (fun k => spec_FieldSize.f k 14) 4 := spec_Size_at _ _ fun k => by simp [spec_FieldSize.f, spec_FieldSize.j0, spec_FieldSize.j1, spec_FieldSize.j2]

theorem sz38 : Ev (fun k => spec_FieldSize.f k 38) 6 := spec_Size_at _ _ fun k => by simp [spec_FieldSize.f, spec_FieldSize.j0, spec_FieldSize.j1, spec_FieldSize.j2]

theorem sz103 : Ev (fun k => spec_FieldSize.f k 103) 20 := spec_Size_at _ _ fun k => by simp [spec_FieldSize.f, spec_FieldSize.j0, spec_FieldSize.j1, spec_FieldSize.j2]

theorem kd2 : Ev (fun k => spec_FieldKind.f k 2) 3 := spec_Kind_at _ _ fun k => by simp [spec_FieldKind.f, spec_FieldKind.j0, spec_FieldKind.j1, spec_FieldKind.j2]

theorem kd3 : Ev (fun k => spec_FieldKind.f k 3) 1 := spec_Kind_at _ _ fun k => by simp [spec_FieldKind.f, spec_FieldKind.j0, spec_FieldKind.j1, spec_FieldKind.j2]

theorem kd4 : Ev (fun k => spec_FieldKind.f k 4) 1 := spec_Kind_at _ _ fun k => by simp [spec_FieldKind.f, spec_FieldKind.j0, spec_FieldKind.j1, spec_FieldKind.j2]

theorem kd11 : Ev (fun k => spec_FieldKind.f k 11) 1 := spec_Kind_at _ _ fun k => by simp [spec_FieldKind.f, spec_FieldKind.j0, spec_FieldKind.j1, spec_FieldKind.j2]

theorem kd14 : Ev (fun k => spec_FieldKind.f k 14) 1 := spec_Kind_at _ _ fun k => by simp [spec_FieldKind.f, spec_FieldKind.j0, spec_FieldKind.j1, spec_FieldKind.j2]

theorem kd38 : Ev (fun k => spec_FieldKind.f k 38) 2 := spec_Kind_at _ _ fun k => by simp [spec_FieldKind.f, spec_FieldKind.j0, spec_FieldKind.j1, spec_FieldKind.j2]

theorem kd103 : Ev (fun k => spec_FieldKind.f k 103) 4 := spec_Kind_at _ _ fun k => by simp [spec_FieldKind.f, spec_FieldKind.j0, spec_FieldKind.j1, spec_FieldKind.j2]

def Good (no : Int) (s : ByteArray) : Prop := Ev (fun k => spec_FieldOk.f k no s) true

theorem good_num {no n : Int} (hs : Ev (fun k => spec_FieldSize.f k no) n) (hk : Ev (fun k => spec_FieldKind.f k no) 1) {s : ByteArray} (hb : s.size ≤ 1000) (hd : digits s = true) (hn : (s.size : Int) = n) : Good no s := by
 unfold Good spec_FieldOk.f
 refine evB hs (evB hk (evP rfl (evB (spec_Digits_ev s (by omega)) (evP hd (evC ?_)))))
 simp [hn]

theorem good_var {no n : Int} (hs : Ev (fun k => spec_FieldSize.f k no) n) (hk : Ev (fun k => spec_FieldKind.f k no) 3) {s : ByteArray} (hb : s.size ≤ 1000) (hd : digits s = true) (hn : (s.size : Int) ≤ n) : Good no s := by
 unfold Good spec_FieldOk.f
 refine evB hs (evB hk (evN (by decide) (evN (by decide) (evP rfl (evB (spec_Digits_ev s (by omega)) (evP hd (evC ?_)))))))
 simp [hn]

theorem good_text {no n : Int} (hs : Ev (fun k => spec_FieldSize.f k no) n) (hk : Ev (fun k => spec_FieldKind.f k no) 2) {s : ByteArray} (hb : s.size ≤ 1000) (hd : printable s = true) (hn : (s.size : Int) = n) : Good no s := by
 unfold Good spec_FieldOk.f
 refine evB hs (evB hk (evN (by decide) (evP rfl (evB (spec_Printable_ev s (by omega)) (evP hd (evC ?_))))))
 simp [hn]

theorem good_tvar {no n : Int} (hs : Ev (fun k => spec_FieldSize.f k no) n) (hk : Ev (fun k => spec_FieldKind.f k no) 4) {s : ByteArray} (hb : s.size ≤ 1000) (hd : printable s = true) (h1 : 1 ≤ s.size) (hn : (s.size : Int) ≤ n) : Good no s := by
 unfold Good spec_FieldOk.f
 refine evB hs (evB hk (evN (by decide) (evN (by decide) (evN (by decide) (evP rfl (evS ?_))))))
 simp only [spec_FieldOk.j0]
 refine evP rfl (evB (spec_Printable_ev s (by omega)) (evP hd (evK (spec_In_f _ _ _) (evC ?_))))
 simp [hn]; omega

/-! ### FieldFit at field 38 -/

def fitT (s : ByteArray) : ByteArray := s ++ (⟨(List.replicate (6 - s.size) 32).toArray⟩ : ByteArray)

theorem fitT_size (s : ByteArray) (h : s.size ≤ 6) : (fitT s).size = 6 := by
 unfold fitT
 rw [ByteArray.size_append, mk_size (List.replicate _ _), List.length_replicate]; omega

theorem printable_app (s t : ByteArray) (h : printable s = true) (ht : printable t = true) : printable (s ++ t) = true := by
 rw [printable_iff] at *
 intro b hb
 have e : (s ++ t).data.toList = s.data.toList ++ t.data.toList := by simp
 rw [e] at hb
 rcases List.mem_append.1 hb with hb | hb
 ·exact h b hb
 ·exact ht b hb

theorem printable_blanks (n : Nat) : printable (⟨(List.replicate n 32).toArray⟩ : ByteArray) = true := by
 rw [printable_iff]
 intro b hb
 have hb' : b ∈ List.replicate n (32 : UInt8) := hb
 rw [(List.mem_replicate.1 hb').2]; decide

theorem fitT_print (s : ByteArray) (h : printable s = true) : printable (fitT s) = true := printable_app _ _ h (printable_blanks _)

theorem good38 (s : ByteArray) (h6 : s.size ≤ 6) (h : printable s = true) : Good 38 (fitT s) := by
 have := fitT_size s h6
 exact good_text sz38 kd38 (by omega) (fitT_print s h) (by omega)

theorem app_blank (s : ByteArray) (d : Nat) : s ++ (⟨#[32]⟩ : ByteArray) ++ (⟨(List.replicate d 32).toArray⟩ : ByteArray) = s ++ (⟨(List.replicate (d + 1) 32).toArray⟩ : ByteArray) := by
 rw [ByteArray.append_assoc]
 congr 1

theorem app_none (s : ByteArray) : s ++ (⟨(List.replicate 0 32).toArray⟩ : ByteArray) = s := by
 apply ba_eq
 rw [tl_eq, tl_eq]
 simp

theorem spec_Fit_l1 (d : Nat) : ∀ (s : ByteArray), s.size + d = 6 → printable s = true → Ev (fun k => spec_FieldFit.l1 k 38 s) (s ++ (⟨(List.replicate d 32).toArray⟩ : ByteArray)) := by
 induction d with
 | zero =>
  intro s hs hp
  refine evS ?_
  simp only [spec_FieldFit.l1]
  rw [app_none]
  have g : Good 38 s := good_text sz38 kd38 (by omega) hp (by omega)
  exact evB sz38 (evN (by omega) (evB g (evP rfl (evC rfl))))
 | succ d ih =>
  intro s hs hp
  refine evS ?_
  simp only [spec_FieldFit.l1]
  have e := ih (s ++ (⟨#[32]⟩ : ByteArray)) (by rw [ByteArray.size_append]; show s.size + 1 + d = 6; omega) (printable_app _ _ hp (printable_blanks 1))
  rw [app_blank] at e
  exact evB sz38 (evP (by omega) (evB kd38 (evP rfl (evP (by omega) e))))

theorem spec_Fit_ev (s : ByteArray) (h6 : s.size ≤ 6) (hp : printable s = true) : Ev (fun k => spec_FieldFit.f k 38 s) (fitT s) := by
 have e := spec_Fit_l1 (6 - s.size) s (by omega) hp
 have j : Ev (fun k => spec_FieldFit.j1 k 38 s) (fitT s) := by
  refine evS ?_
  simp only [spec_FieldFit.j1]
  exact e
 unfold spec_FieldFit.f
 refine evS ?_
 simp only [spec_FieldFit.l0]
 by_cases h : (s.size : Int) < 6
 ·exact evB sz38 (evP h (evB kd38 (evN (by decide) j)))
 ·exact evB sz38 (evN h j)

theorem row38 : Ev (fun k => impl_rowOf.f k 38) (38, 2, 6) := evFrom 10 fun k hk => by
 obtain ⟨m, rfl⟩ : ∃ m, k = m + 10 := ⟨k - 10, by omega⟩
 simp [impl_rowOf.f, impl_fieldRows.f, impl_rowOf.l0, rd_T144, wrap64]

theorem impl_FieldOk_38 (s : ByteArray) (hn : s.size = 6) (hd : printable s = true) : Ev (fun k => impl_FieldOk.f k 38 s) true := by
 unfold impl_FieldOk.f
 refine evB row38 (evN (by decide) (evP rfl (evB (impl_Printable_ev s (by omega)) (evP hd (evC ?_)))))
 simp [hn]

theorem impl_Fit_ev (s : ByteArray) (h6 : s.size ≤ 6) (hp : printable s = true) : Ev (fun k => impl_FieldFit.f k 38 s) (fitT s) := by
 unfold impl_FieldFit.f impl_FieldSize.f impl_FieldKind.f strings_Repeat.f
 have hs : (⟨#[32]⟩ : ByteArray).size = 1 := rfl
 have em : mx (wrap64 (6 - (s.size : Int))) 0 = ((6 - s.size : Nat) : Int) := by
  rw [w_id (by omega) (by omega)]; unfold mx; split <;> omega
 have er : Lib.repeatL (⟨#[32]⟩ : ByteArray).data.toList (6 - s.size) = List.replicate (6 - s.size) 32 := by
  have := Lib.repeatL_replicate 32 1 (6 - s.size)
  rw [Nat.mul_one] at this
  exact this
 have e : s ++ (⟨(List.replicate (6 - s.size) 32).toArray⟩ : ByteArray) = fitT s := rfl
 refine evB (evB row38 (evC rfl)) (evB (evB row38 (evC rfl)) (evN (by decide) (evP rfl ?_)))
 rw [em, if_pos (by rw [hs]; omega), Int.toNat_natCast, er]
 refine evK rfl (evP (by rw [mk_size (List.replicate _ _), List.length_replicate]; omega) ?_)
 rw [e]
 exact evB (impl_FieldOk_38 _ (fitT_size s h6) (fitT_print s hp)) (evP rfl (evC rfl))

theorem spec_MsgOk_ok (m : ByteArray) (ys : List S67) (hm : digits m = true) (h4 : m.size = 4) (hg : ∀ y ∈ ys, Good y.f0 y.f1) (hp : ys.Pairwise (fun a b => a.f0 < b.f0)) (hl : ys.length ≤ 1000) : Ev (fun k => spec_MsgOk.f k m ys) true := by
 have key : ∀ (d i : Nat), i + d = ys.length → Ev (fun k => spec_MsgOk.l0 k ys (ys.length : Int) (i : Int) m ys) true := by
  intro d
  induction d with
  | zero =>
   intro i hi
   refine evS ?_
   simp only [spec_MsgOk.l0]
   exact evN (by omega) (evC rfl)
  | succ d ih =>
   intro i hi
   have hlt : i < ys.length := by omega
   have e := ih (i + 1) (by omega)
   refine evS ?_
   simp only [spec_MsgOk.l0, rdI_Field ys i hlt]
   rw [w_id (x := (i : Int) + 1) (by omega) (by omega)]
   refine evP (by omega) (evP (by omega) (evP (by omega) (evB (hg _ (List.getElem_mem hlt)) (evP rfl ?_))))
   by_cases h0 : (i : Int) > 0
   ·obtain ⟨j, rfl⟩ : ∃ j, i = j + 1 := ⟨i - 1, by omega⟩
    have hj : j < ys.length := by omega
    have ej : wrap64 (((j + 1 : Nat) : Int) - 1) = (j : Int) := by rw [w_id (by omega) (by omega)]; omega
    have hlt2 := (List.pairwise_iff_getElem.1 hp) j (j + 1) hj hlt (by omega)
    simp only [ej, rdI_Field ys j hj]
    exact evP h0 (evP (by omega) (evP (by omega) (evN (by omega) e)))
   ·exact evN h0 e
 unfold spec_MsgOk.f
 refine evB (spec_Digits_ev m (by omega)) (evP hm (evS ?_))
 simp only [spec_MsgOk.j0]
 exact evN (by simp [h4]) (key ys.length 0 (by omega))

def insF (no : Int) (s : ByteArray) : List S67 → List S67
 | [] => [⟨no, s⟩]
 | y :: l => if y.f0 ≥ no then ⟨no, s⟩ :: y :: l else y :: insF no s l

theorem spec_With_done (no : Int) (s m : ByteArray) (ys : List S67) (hne : ∀ y ∈ ys, y.f0 ≠ no) (hl : ys.length ≤ 1000) (d : Nat) : ∀ (i : Nat) (acc : List S67), i + d = ys.length → acc.length + d ≤ 5000 →
  Ev (fun k => spec_WithField.l0 k no s true ys (ys.length : Int) (i : Int) m acc) (m, acc ++ ys.drop i, true) := by
 induction d with
 | zero =>
  intro i acc hi ha
  refine evS ?_
  simp only [spec_WithField.l0]
  rw [List.drop_eq_nil_of_le (by omega), List.append_nil]
  exact evN (by omega) (evP trivial (evC rfl))
 | succ d ih =>
  intro i acc hi ha
  have hlt : i < ys.length := by omega
  have e := ih (i + 1) (acc ++ [ys[i]]) (by omega) (by rw [List.length_append, List.length_singleton]; omega)
  rw [List.append_assoc, List.singleton_append, ← List.drop_eq_getElem_cons hlt] at e
  refine evS ?_
  simp only [spec_WithField.l0, rdI_Field ys i hlt]
  refine evP (by omega) (evP (by omega) (evP (by omega) (evP trivial (evS ?_))))
  simp only [spec_WithField.j2]
  rw [w_id (x := (i : Int) + 1) (by omega) (by omega)]
  exact evN (by decide) (evN (hne _ (List.getElem_mem hlt)) (evP (by omega) e))

theorem spec_With_l0 (no : Int) (s m : ByteArray) (ys : List S67) (hne : ∀ y ∈ ys, y.f0 ≠ no) (hl : ys.length ≤ 1000) (d : Nat) : ∀ (i : Nat) (acc : List S67), i + d = ys.length → acc.length + d ≤ 4000 →
  Ev (fun k => spec_WithField.l0 k no s false ys (ys.length : Int) (i : Int) m acc) (m, acc ++ insF no s (ys.drop i), true) := by
 induction d with
 | zero =>
  intro i acc hi ha
  refine evS ?_
  simp only [spec_WithField.l0]
  rw [List.drop_eq_nil_of_le (by omega)]
  exact evN (by omega) (evN (by decide) (evP (by omega) (evC rfl)))
 | succ d ih =>
  intro i acc hi ha
  have hlt : i < ys.length := by omega
  refine evS ?_
  simp only [spec_WithField.l0, rdI_Field ys i hlt]
  refine evP (by omega) (evP (by omega) (evP (by omega) (evN (by decide) (evS ?_))))
  simp only [spec_WithField.j2]
  rw [w_id (x := (i : Int) + 1) (by omega) (by omega), List.drop_eq_getElem_cons hlt]
  have hn := hne _ (List.getElem_mem hlt)
  unfold insF
  by_cases h : ys[i].f0 ≥ no
  ·rw [if_pos h]
   have e := spec_With_done no s m ys hne hl d (i + 1) (acc ++ [(⟨no, s⟩ : S67)] ++ [ys[i]]) (by omega) (by simp only [List.length_append, List.length_singleton]; omega)
   simp only [List.append_assoc, List.singleton_append] at e
   refine evP (by simpa using h) (evP (by omega) (evK rfl (evN hn (evP (by simp only [List.length_append, List.length_singleton]; omega) ?_))))
   simpa using e
  ·rw [if_neg h]
   have e := ih (i + 1) (acc ++ [ys[i]]) (by omega) (by rw [List.length_append, List.length_singleton]; omega)
   rw [List.append_assoc, List.singleton_append] at e
   exact evN (by simpa using h) (evN hn (evP (by omega) e))

theorem spec_With_ev (no : Int) (s m : ByteArray) (ys : List S67) (hm : digits m = true) (h4 : m.size = 4) (hg : ∀ y ∈ ys, Good y.f0 y.f1) (hp : ys.Pairwise (fun a b => a.f0 < b.f0)) (hl : ys.length ≤ 1000) (hne : ∀ y ∈ ys, y.f0 ≠ no) (hs : Good no s) :
  Ev (fun k => spec_WithField.f k m ys no s) (m, insF no s ys, true) := by
 unfold spec_WithField.f
 refine evB (spec_MsgOk_ok m ys hm h4 hg hp hl) (evP rfl (evB hs (evS ?_)))
 simp only [spec_WithField.j0]
 exact evN (by decide) (spec_With_l0 no s m ys hne hl ys.length 0 [] (by omega) (by simp only [List.length_nil]; omega))

theorem isWide_ev (s : ByteArray) (n : Int) (hs : s.size ≤ 140737488355328) : Ev (fun k => impl_isWide.f k s n) (digits s && ((s.size : Int) == n)) := by
 refine evFrom (s.size + 1) fun k hk => ?_
 unfold impl_isWide.f
 rw [impl_Digits_f s hs k (by omega), Option.bind_some, ite_and]

def idxFrom (xs : List Int) (x : Int) (i : Nat) : Int :=
 match (xs.drop i).findIdx? (fun y => decide (x = y)) with
 | some j => ((i + j : Nat) : Int)
 | none => -1

theorem Index_l0 (xs : List Int) (x : Int) (hl : xs.length ≤ 140737488355328) (d : Nat) : ∀ (i : Nat), i + d = xs.length → Ev (fun k => slices_Index_int_int.l0 k xs x (xs.length : Int) (i : Int)) (idxFrom xs x i) := by
 induction d with
 | zero =>
  intro i hi
  refine evS ?_
  simp only [slices_Index_int_int.l0]
  unfold idxFrom
  rw [List.drop_eq_nil_of_le (by omega)]
  exact evN (by omega) (evC rfl)
 | succ d ih =>
  intro i hi
  have hlt : i < xs.length := by omega
  refine evS ?_
  simp only [slices_Index_int_int.l0, rd_at xs i hlt]
  refine evP (by omega) (evP (by omega) (evP (by omega) ?_))
  unfold idxFrom
  rw [List.drop_eq_getElem_cons hlt, List.findIdx?_cons]
  by_cases h : x = xs[i]
  ·refine evP h ?_
   simp only [h, decide_true, if_true]
   exact evC (by simp)
  ·refine evN h ?_
   simp only [h, decide_false]
   rw [w_id (by omega) (by omega)]
   have e := ih (i + 1) (by omega)
   unfold idxFrom at e
   cases hf : (xs.drop (i + 1)).findIdx? (fun y => decide (x = y)) with
   | none => rw [hf] at e; simpa using e
   | some j => rw [hf] at e; simp only [Option.map_some, Bool.false_eq_true, if_false]; rw [show ((i + (j + 1) : Nat)) = i + 1 + j from by omega]; exact e

theorem Contains_ev (xs : List Int) (x : Int) (hl : xs.length ≤ 140737488355328) : Ev (fun k => slices_Contains_int_int.f k xs x) (decide (x ∈ xs)) := by
 unfold slices_Contains_int_int.f slices_Index_int_int.f
 refine evB (Index_l0 xs x hl xs.length 0 (by omega)) (evC ?_)
 unfold idxFrom
 rw [List.drop_zero]
 cases h : xs.findIdx? (fun y => decide (x = y)) with
 | none =>
  rw [List.findIdx?_eq_none_iff] at h
  have : ¬ x ∈ xs := fun hm => by simpa using h x hm
  simp [this]
 | some j =>
  have := List.findIdx?_eq_some_iff_getElem.1 h
  obtain ⟨hj, hx, _⟩ := this
  have : x ∈ xs := by
   have e : x = xs[j] := by simpa using hx
   rw [e]; exact List.getElem_mem _
  simp [this]

theorem opOf_1 : impl_opOf.f 1 = some ((⟨#[48, 49, 48, 48]⟩ : ByteArray), (⟨#[48, 48]⟩ : ByteArray), (⟨#[97, 117, 116, 104]⟩ : ByteArray), ([4, 14, 38] : List Int)) := by
 unfold impl_opOf.f
 rw [within_f]
 simp [impl_opRows.f, rd_T96, wrap64]

theorem opOf_2 : impl_opOf.f 2 = some ((⟨#[48, 49, 48, 48]⟩ : ByteArray), (⟨#[48, 50]⟩ : ByteArray), (⟨#[109, 111, 114, 101]⟩ : ByteArray), ([4, 38] : List Int)) := by
 unfold impl_opOf.f
 rw [within_f]
 simp [impl_opRows.f, rd_T96, wrap64]

theorem opOf_3 : impl_opOf.f 3 = some ((⟨#[48, 50, 50, 48]⟩ : ByteArray), (⟨#[48, 49]⟩ : ByteArray), (⟨#[112, 97, 114, 116]⟩ : ByteArray), ([4, 38] : List Int)) := by
 unfold impl_opOf.f
 rw [within_f]
 simp [impl_opRows.f, rd_T96, wrap64]

theorem opOf_4 : impl_opOf.f 4 = some ((⟨#[48, 50, 50, 48]⟩ : ByteArray), (⟨#[48, 48]⟩ : ByteArray), (⟨#[102, 105, 110, 97, 108]⟩ : ByteArray), ([4, 38] : List Int)) := by
 unfold impl_opOf.f
 rw [within_f]
 simp [impl_opRows.f, rd_T96, wrap64]

theorem opOf_5 : impl_opOf.f 5 = some ((⟨#[48, 50, 50, 48]⟩ : ByteArray), (⟨#[50, 48]⟩ : ByteArray), (⟨#[102, 114, 101, 101]⟩ : ByteArray), ([38] : List Int)) := by
 unfold impl_opOf.f
 rw [within_f]
 simp [impl_opRows.f, rd_T96, wrap64]

theorem opOf_6 : impl_opOf.f 6 = some ((⟨#[48, 50, 48, 48]⟩ : ByteArray), (⟨#[52, 48]⟩ : ByteArray), (⟨#[109, 111, 118, 101]⟩ : ByteArray), ([38, 103] : List Int)) := by
 unfold impl_opOf.f
 rw [within_f]
 simp [impl_opRows.f, rd_T96, wrap64]

theorem opOf_7 : impl_opOf.f 7 = some ((⟨#[48, 49, 48, 48]⟩ : ByteArray), (⟨#[51, 49]⟩ : ByteArray), (⟨#[97, 115, 107]⟩ : ByteArray), ([] : List Int)) := by
 unfold impl_opOf.f
 rw [within_f]
 simp [impl_opRows.f, rd_T96, wrap64]

theorem opOf_8 : impl_opOf.f 8 = some ((⟨#[48, 50, 48, 48]⟩ : ByteArray), (⟨#[57, 48]⟩ : ByteArray), (⟨#[115, 119, 101, 101, 112]⟩ : ByteArray), ([] : List Int)) := by
 unfold impl_opOf.f
 rw [within_f]
 simp [impl_opRows.f, rd_T96, wrap64]

def partHold (op : Int) (s : ByteArray) : Bool := if op < 7 then holdIdOk s else s.toList == ([] : List UInt8)

def partAmount (op a : Int) : Bool := if op ≤ 4 then decide (0 ≤ a) && decide (a ≤ 999999999999) else a == 0

def partTtl (op a : Int) : Bool := if op = 1 then decide (0 ≤ a) && decide (a ≤ 9999) else a == 0

def partOther (op : Int) (s : ByteArray) : Bool := if op = 6 then acctIdOk s else s.toList == ([] : List UInt8)

def reqParts (op : Int) (other hold : ByteArray) (amount ttl : Int) : Bool := partHold op hold && (partAmount op amount && (partTtl op ttl && partOther op other))

def reqHead (m acct trace mti : ByteArray) : Bool := decide (mti.toList = m.toList) && (acctIdOk acct && (digits trace && ((trace.size : Int) == 6)))

theorem spec_Op_f (op : Int) : spec_l11Op.f op = some (decide (1 ≤ op) && decide (op ≤ 8)) := by unfold spec_l11Op.f; rw [spec_In_f]; rfl

theorem spec_Hold_f (op : Int) (h1 : 1 ≤ op) (h8 : op ≤ 8) : spec_l11Hold.f op = some (decide (op < 7)) := by
 unfold spec_l11Hold.f; rw [spec_Op_f, Option.bind_some, if_pos (by simp; omega)]

theorem spec_Amount_f (op : Int) (h1 : 1 ≤ op) : spec_l11Amount.f op = some (decide (op ≤ 4)) := by
 unfold spec_l11Amount.f; rw [spec_In_f, Option.bind_some]; simp [h1]

section

variable (op : Int) (acct other hold trace mti : ByteArray) (amount ttl : Int)

theorem spec_j2 (ho : other.size ≤ 140737488355328) (b : Bool) : Ev (fun k => spec_ReqOk.j2 k b op acct other hold trace mti amount ttl) (!b && (partTtl op ttl && partOther op other)) := by
 have tail : Ev (fun k => if op = 6 then ((spec_AcctIdOk.f k other).bind fun t132 => (if t132 = true then (some true) else (some false))) else (some (other.toList == ([] : List UInt8)))) (partOther op other) := by
  unfold partOther
  by_cases h : op = 6
  ·rw [if_pos h]
   refine evP h (evB (spec_AcctIdOk_ev other ho) ?_)
   cases acctIdOk other
   ·exact evN (by decide) (evC rfl)
   ·exact evP rfl (evC rfl)
  ·rw [if_neg h]; exact evN h (evC rfl)
 refine evS ?_
 simp only [spec_ReqOk.j2]
 cases b
 ·refine evN (by decide) ?_
  by_cases h : op = 1
  ·have e : partTtl op ttl = (decide (0 ≤ ttl) && decide (ttl ≤ 9999)) := by unfold partTtl; rw [if_pos h]
   rw [e]
   refine evP h (evK (spec_In_f _ _ _) ?_)
   cases (decide (0 ≤ ttl) && decide (ttl ≤ 9999))
   ·exact evN (by decide) (evC (by simp))
   ·refine evP rfl ?_
    simpa using tail
  ·have e : partTtl op ttl = (ttl == 0) := by unfold partTtl; rw [if_neg h]
   rw [e]
   refine evN h ?_
   by_cases h0 : ttl = 0
   ·refine evP h0 ?_
    simpa [h0] using tail
   ·exact evN h0 (evC (by simp [h0]))
 ·exact evP rfl (evC (by simp))

theorem spec_j1 (h1 : 1 ≤ op) (ho : other.size ≤ 140737488355328) (b : Bool) : Ev (fun k => spec_ReqOk.j1 k b op acct other hold trace mti amount ttl) (!b && (partAmount op amount && (partTtl op ttl && partOther op other))) := by
 refine evS ?_
 simp only [spec_ReqOk.j1, spec_Amount_f op h1]
 cases b
 ·refine evN (by decide) ?_
  by_cases h : op ≤ 4
  ·have e : partAmount op amount = (decide (0 ≤ amount) && decide (amount ≤ 999999999999)) := by unfold partAmount; rw [if_pos h]
   rw [e]
   refine evK rfl (evP (by simpa using h) (evK (spec_In_f _ _ _) ?_))
   cases (decide (0 ≤ amount) && decide (amount ≤ 999999999999))
   ·refine evN (by decide) ?_
    have := spec_j2 op acct other hold trace mti amount ttl ho true
    simpa using this
   ·refine evP rfl (evK rfl (evP (by simpa using h) ?_))
    have := spec_j2 op acct other hold trace mti amount ttl ho false
    simpa using this
  ·have e : partAmount op amount = (amount == 0) := by unfold partAmount; rw [if_neg h]
   rw [e]
   refine evK rfl (evN (by simpa using h) (evK rfl (evN (by simpa using h) ?_)))
   have := spec_j2 op acct other hold trace mti amount ttl ho (amount != 0)
   simpa [bne] using this
 ·exact evP rfl (evC (by simp))

theorem spec_j0 (h1 : 1 ≤ op) (h8 : op ≤ 8) (ho : other.size ≤ 140737488355328) (hh : hold.size ≤ 140737488355328) (b : Bool) : Ev (fun k => spec_ReqOk.j0 k b op acct other hold trace mti amount ttl) (!b && reqParts op other hold amount ttl) := by
 unfold reqParts
 refine evS ?_
 simp only [spec_ReqOk.j0, spec_Hold_f op h1 h8]
 cases b
 ·refine evN (by decide) ?_
  by_cases h : op < 7
  ·have e : partHold op hold = holdIdOk hold := by unfold partHold; rw [if_pos h]
   rw [e]
   refine evK rfl (evP (by simpa using h) (evB (spec_HoldIdOk_ev hold hh) ?_))
   cases holdIdOk hold
   ·refine evN (by decide) ?_
    have := spec_j1 op acct other hold trace mti amount ttl h1 ho true
    simpa using this
   ·refine evP rfl (evK rfl (evP (by simpa using h) ?_))
    have := spec_j1 op acct other hold trace mti amount ttl h1 ho false
    simpa using this
  ·have e : partHold op hold = (hold.toList == ([] : List UInt8)) := by unfold partHold; rw [if_neg h]
   rw [e]
   refine evK rfl (evN (by simpa using h) (evK rfl (evN (by simpa using h) ?_)))
   have := spec_j1 op acct other hold trace mti amount ttl h1 ho (hold.toList != ([] : List UInt8))
   simpa [bne] using this
 ·exact evP rfl (evC (by simp))

theorem spec_j0_true : Ev (fun k => spec_ReqOk.j0 k true op acct other hold trace mti amount ttl) false := by
 refine evS ?_
 simp only [spec_ReqOk.j0]
 exact evP trivial (evC rfl)

theorem spec_ReqOk_out (h : ¬ (1 ≤ op ∧ op ≤ 8)) : Ev (fun k => spec_ReqOk.f k op acct other hold trace mti amount ttl) false := by
 unfold spec_ReqOk.f
 refine evK (spec_Op_f op) (evN (by simp; omega) ?_)
 exact spec_j0_true op acct other hold trace mti amount ttl

theorem spec_ReqOk_in (m : ByteArray) (h1 : 1 ≤ op) (h8 : op ≤ 8) (hm : spec_OpMti.f op = some m) (ha : acct.size ≤ 140737488355328) (ho : other.size ≤ 140737488355328) (hh : hold.size ≤ 140737488355328) (ht : trace.size ≤ 140737488355328) :
  Ev (fun k => spec_ReqOk.f k op acct other hold trace mti amount ttl) (reqHead m acct trace mti && reqParts op other hold amount ttl) := by
 unfold spec_ReqOk.f reqHead
 have T := spec_j0_true op acct other hold trace mti amount ttl
 refine evK (spec_Op_f op) (evP (by simp; omega) (evK hm ?_))
 by_cases hq : mti.toList = m.toList
 ·refine evP hq (evB (spec_AcctIdOk_ev acct ha) ?_)
  cases acctIdOk acct
  ·refine evN (by decide) ?_
   simpa using T
  ·refine evP rfl (evB (spec_Digits_ev trace ht) ?_)
   cases digits trace
   ·refine evN (by decide) ?_
    simpa using T
   ·refine evP rfl ?_
    have := spec_j0 op acct other hold trace mti amount ttl h1 h8 ho hh ((trace.size : Int) != 6)
    simpa [bne, hq] using this
 ·refine evN hq ?_
  simpa [hq] using T

def rowParts (fs : List Int) (other hold : ByteArray) (amount ttl : Int) : Bool :=
 (if (38 : Int) ∈ fs then holdIdOk hold else hold.toList == ([] : List UInt8)) && ((if (4 : Int) ∈ fs then decide (0 ≤ amount) && decide (amount ≤ 999999999999) else amount == 0) &&
  ((if (14 : Int) ∈ fs then decide (0 ≤ ttl) && decide (ttl ≤ 9999) else ttl == 0) && (if (103 : Int) ∈ fs then acctIdOk other else other.toList == ([] : List UInt8))))

theorem uses_ev (no : Int) {m c n : ByteArray} {fs : List Int} (hr : impl_opOf.f op = some (m, c, n, fs)) (hl : fs.length ≤ 140737488355328) : Ev (fun k => impl_uses.f k op no) (decide (no ∈ fs)) := by
 unfold impl_uses.f
 exact evK hr (evB (Contains_ev fs no hl) (evC rfl))

theorem impl_j3 {m c n : ByteArray} {fs : List Int} (hr : impl_opOf.f op = some (m, c, n, fs)) (hl : fs.length ≤ 140737488355328) (ho : other.size ≤ 140737488355328) (x4 x5 x6 : Bool) :
  Ev (fun k => impl_ReqOk.j3 k x4 x5 x6 (other.toList == ([] : List UInt8)) op acct other hold trace mti amount ttl) (x4 && (x5 && (x6 && (if (103 : Int) ∈ fs then acctIdOk other else other.toList == ([] : List UInt8))))) := by
 refine evS ?_
 simp only [impl_ReqOk.j3]
 refine evB (uses_ev op 103 hr hl) ?_
 by_cases h : (103 : Int) ∈ fs
 ·refine evP (by simpa using h) (evB (impl_AcctIdOk_ev other ho) (evC ?_))
  rw [if_pos h]; cases x4 <;> cases x5 <;> cases x6 <;> simp
 ·refine evN (by simpa using h) (evC ?_)
  rw [if_neg h]; cases x4 <;> cases x5 <;> cases x6 <;> simp

theorem impl_j2 {m c n : ByteArray} {fs : List Int} (hr : impl_opOf.f op = some (m, c, n, fs)) (hl : fs.length ≤ 140737488355328) (ho : other.size ≤ 140737488355328) (x4 x5 : Bool) :
  Ev (fun k => impl_ReqOk.j2 k x4 x5 (ttl == 0) (other.toList == ([] : List UInt8)) op acct other hold trace mti amount ttl)
   (x4 && (x5 && ((if (14 : Int) ∈ fs then decide (0 ≤ ttl) && decide (ttl ≤ 9999) else ttl == 0) && (if (103 : Int) ∈ fs then acctIdOk other else other.toList == ([] : List UInt8))))) := by
 refine evS ?_
 simp only [impl_ReqOk.j2]
 refine evB (uses_ev op 14 hr hl) ?_
 by_cases h : (14 : Int) ∈ fs
 ·rw [if_pos h]
  refine evP (by simpa using h) (evK (within_f _ _ _) ?_)
  exact impl_j3 op acct other hold trace mti amount ttl hr hl ho _ _ _
 ·rw [if_neg h]
  refine evN (by simpa using h) ?_
  exact impl_j3 op acct other hold trace mti amount ttl hr hl ho _ _ _

theorem impl_j1 {m c n : ByteArray} {fs : List Int} (hr : impl_opOf.f op = some (m, c, n, fs)) (hl : fs.length ≤ 140737488355328) (ho : other.size ≤ 140737488355328) (x4 : Bool) :
  Ev (fun k => impl_ReqOk.j1 k x4 (amount == 0) (ttl == 0) (other.toList == ([] : List UInt8)) op acct other hold trace mti amount ttl)
   (x4 && ((if (4 : Int) ∈ fs then decide (0 ≤ amount) && decide (amount ≤ 999999999999) else amount == 0) && ((if (14 : Int) ∈ fs then decide (0 ≤ ttl) && decide (ttl ≤ 9999) else ttl == 0) && (if (103 : Int) ∈ fs then acctIdOk other else other.toList == ([] : List UInt8))))) := by
 refine evS ?_
 simp only [impl_ReqOk.j1]
 refine evB (uses_ev op 4 hr hl) ?_
 by_cases h : (4 : Int) ∈ fs
 ·rw [if_pos h]
  refine evP (by simpa using h) (evK (within_f _ _ _) ?_)
  exact impl_j2 op acct other hold trace mti amount ttl hr hl ho _ _
 ·rw [if_neg h]
  refine evN (by simpa using h) ?_
  exact impl_j2 op acct other hold trace mti amount ttl hr hl ho _ _

theorem impl_j0 {m c n : ByteArray} {fs : List Int} (hr : impl_opOf.f op = some (m, c, n, fs)) (hl : fs.length ≤ 140737488355328) (ho : other.size ≤ 140737488355328) (hh : hold.size ≤ 140737488355328) (b : Bool) :
  Ev (fun k => impl_ReqOk.j0 k b op acct other hold trace mti amount ttl) (!b && rowParts fs other hold amount ttl) := by
 unfold rowParts
 refine evS ?_
 simp only [impl_ReqOk.j0]
 cases b
 ·refine evN (by decide) (evB (uses_ev op 38 hr hl) ?_)
  by_cases h : (38 : Int) ∈ fs
  ·rw [if_pos h]
   refine evP (by simpa using h) (evB (impl_HoldIdOk_ev hold hh) ?_)
   have := impl_j1 op acct other hold trace mti amount ttl hr hl ho (holdIdOk hold)
   simpa using this
  ·rw [if_neg h]
   refine evN (by simpa using h) ?_
   have := impl_j1 op acct other hold trace mti amount ttl hr hl ho (hold.toList == ([] : List UInt8))
   simpa using this
 ·exact evP rfl (evC (by simp))

theorem impl_j0_true : Ev (fun k => impl_ReqOk.j0 k true op acct other hold trace mti amount ttl) false := by
 refine evS ?_
 simp only [impl_ReqOk.j0]
 exact evP trivial (evC rfl)

theorem impl_ReqOk_in {m c n : ByteArray} {fs : List Int} (hr : impl_opOf.f op = some (m, c, n, fs)) (hn : ¬ n.toList = ([] : List UInt8)) (hl : fs.length ≤ 140737488355328) (ha : acct.size ≤ 140737488355328) (ho : other.size ≤ 140737488355328) (hh : hold.size ≤ 140737488355328) (ht : trace.size ≤ 140737488355328) :
  Ev (fun k => impl_ReqOk.f k op acct other hold trace mti amount ttl) (reqHead m acct trace mti && rowParts fs other hold amount ttl) := by
 unfold impl_ReqOk.f reqHead
 have T := impl_j0_true op acct other hold trace mti amount ttl
 refine evK hr (evN hn ?_)
 by_cases hq : mti.toList = m.toList
 ·refine evP hq (evB (impl_AcctIdOk_ev acct ha) ?_)
  cases acctIdOk acct
  ·refine evN (by decide) ?_
   simpa using T
  ·refine evP rfl (evB (isWide_ev trace 6 ht) ?_)
   have := impl_j0 op acct other hold trace mti amount ttl hr hl ho hh (!(digits trace && ((trace.size : Int) == 6)))
   simpa [hq] using this
 ·refine evN hq ?_
  simpa [hq] using T

theorem impl_ReqOk_out (h : ¬ (1 ≤ op ∧ op ≤ 8)) : Ev (fun k => impl_ReqOk.f k op acct other hold trace mti amount ttl) false := by
 have hr : impl_opOf.f op = some ((⟨#[]⟩ : ByteArray), (⟨#[]⟩ : ByteArray), (⟨#[]⟩ : ByteArray), ([] : List Int)) := by
  unfold impl_opOf.f; rw [within_f, Option.bind_some, if_neg (by simp; omega)]
 unfold impl_ReqOk.f
 refine evK hr (evP (by simp) ?_)
 exact impl_j0_true op acct other hold trace mti amount ttl

def reqOk : Bool := if 1 ≤ op ∧ op ≤ 8 then reqHead ((spec_OpMti.f op).getD (⟨#[]⟩ : ByteArray)) acct trace mti && reqParts op other hold amount ttl else false

theorem spec_ReqOk_ev (ha : acct.size ≤ 140737488355328) (ho : other.size ≤ 140737488355328) (hh : hold.size ≤ 140737488355328) (ht : trace.size ≤ 140737488355328) :
  Ev (fun k => spec_ReqOk.f k op acct other hold trace mti amount ttl) (reqOk op acct other hold trace mti amount ttl) := by
 unfold reqOk
 by_cases h : 1 ≤ op ∧ op ≤ 8
 ·rw [if_pos h]
  obtain ⟨m, hm⟩ : ∃ m, spec_OpMti.f op = some m := by
   have h' : op = 1 ∨ op = 2 ∨ op = 3 ∨ op = 4 ∨ op = 5 ∨ op = 6 ∨ op = 7 ∨ op = 8 := by omega
   rcases h' with rfl | rfl | rfl | rfl | rfl | rfl | rfl | rfl <;> exact ⟨_, rfl⟩
  rw [hm]
  exact spec_ReqOk_in op acct other hold trace mti amount ttl m h.1 h.2 hm ha ho hh ht
 ·rw [if_neg h]; exact spec_ReqOk_out op acct other hold trace mti amount ttl h

theorem impl_ReqOk_ev (ha : acct.size ≤ 140737488355328) (ho : other.size ≤ 140737488355328) (hh : hold.size ≤ 140737488355328) (ht : trace.size ≤ 140737488355328) :
  Ev (fun k => impl_ReqOk.f k op acct other hold trace mti amount ttl) (reqOk op acct other hold trace mti amount ttl) := by
 unfold reqOk
 by_cases h : 1 ≤ op ∧ op ≤ 8
 ·rw [if_pos h]
  have h' : op = 1 ∨ op = 2 ∨ op = 3 ∨ op = 4 ∨ op = 5 ∨ op = 6 ∨ op = 7 ∨ op = 8 := by omega
  rcases h' with rfl | rfl | rfl | rfl | rfl | rfl | rfl | rfl
  ·exact impl_ReqOk_in 1 acct other hold trace mti amount ttl opOf_1 (by simp) (by simp) ha ho hh ht
  ·exact impl_ReqOk_in 2 acct other hold trace mti amount ttl opOf_2 (by simp) (by simp) ha ho hh ht
  ·exact impl_ReqOk_in 3 acct other hold trace mti amount ttl opOf_3 (by simp) (by simp) ha ho hh ht
  ·exact impl_ReqOk_in 4 acct other hold trace mti amount ttl opOf_4 (by simp) (by simp) ha ho hh ht
  ·exact impl_ReqOk_in 5 acct other hold trace mti amount ttl opOf_5 (by simp) (by simp) ha ho hh ht
  ·exact impl_ReqOk_in 6 acct other hold trace mti amount ttl opOf_6 (by simp) (by simp) ha ho hh ht
  ·exact impl_ReqOk_in 7 acct other hold trace mti amount ttl opOf_7 (by simp) (by simp) ha ho hh ht
  ·exact impl_ReqOk_in 8 acct other hold trace mti amount ttl opOf_8 (by simp) (by simp) ha ho hh ht
 ·rw [if_neg h]; exact impl_ReqOk_out op acct other hold trace mti amount ttl h

end

section

variable (m acct code trace hold other am tl : ByteArray)

theorem W2 (hm : digits m = true) (h4 : m.size = 4) (g2 : Good 2 acct) : Ev (fun k => spec_WithField.f k m ([] : List S67) 2 acct) (m, [(⟨2, acct⟩ : S67)], true) :=
 spec_With_ev 2 acct m [] hm h4 (by simp) (by simp) (by simp) (by simp) g2

theorem W3 (hm : digits m = true) (h4 : m.size = 4) (g2 : Good 2 acct) (g3 : Good 3 code) : Ev (fun k => spec_WithField.f k m [(⟨2, acct⟩ : S67)] 3 code) (m, [(⟨2, acct⟩ : S67), ⟨3, code⟩], true) := by
 have e := spec_With_ev 3 code m [(⟨2, acct⟩ : S67)] hm h4 (by simp [g2]) (by simp) (by simp) (by simp) g3
 simpa [insF] using e

theorem W11 (hm : digits m = true) (h4 : m.size = 4) (g2 : Good 2 acct) (g3 : Good 3 code) (g11 : Good 11 trace) : Ev (fun k => spec_WithField.f k m [(⟨2, acct⟩ : S67), ⟨3, code⟩] 11 trace) (m, [(⟨2, acct⟩ : S67), ⟨3, code⟩, ⟨11, trace⟩], true) := by
 have e := spec_With_ev 11 trace m [(⟨2, acct⟩ : S67), ⟨3, code⟩] hm h4 (by simp [g2, g3]) (by simp) (by simp) (by simp) g11
 simpa [insF] using e

theorem W38 (hm : digits m = true) (h4 : m.size = 4) (g2 : Good 2 acct) (g3 : Good 3 code) (g11 : Good 11 trace) (g38 : Good 38 hold) : Ev (fun k => spec_WithField.f k m [(⟨2, acct⟩ : S67), ⟨3, code⟩, ⟨11, trace⟩] 38 hold) (m, [(⟨2, acct⟩ : S67), ⟨3, code⟩, ⟨11, trace⟩, ⟨38, hold⟩], true) := by
 have e := spec_With_ev 38 hold m [(⟨2, acct⟩ : S67), ⟨3, code⟩, ⟨11, trace⟩] hm h4 (by simp [g2, g3, g11]) (by simp) (by simp) (by simp) g38
 simpa [insF] using e

theorem W4 (hm : digits m = true) (h4 : m.size = 4) (g2 : Good 2 acct) (g3 : Good 3 code) (g11 : Good 11 trace) (g38 : Good 38 hold) (g4 : Good 4 am) : Ev (fun k => spec_WithField.f k m [(⟨2, acct⟩ : S67), ⟨3, code⟩, ⟨11, trace⟩, ⟨38, hold⟩] 4 am) (m, [(⟨2, acct⟩ : S67), ⟨3, code⟩, ⟨4, am⟩, ⟨11, trace⟩, ⟨38, hold⟩], true) := by
 have e := spec_With_ev 4 am m [(⟨2, acct⟩ : S67), ⟨3, code⟩, ⟨11, trace⟩, ⟨38, hold⟩] hm h4 (by simp [g2, g3, g11, g38]) (by simp) (by simp) (by simp) g4
 simpa [insF] using e

theorem W14 (hm : digits m = true) (h4 : m.size = 4) (g2 : Good 2 acct) (g3 : Good 3 code) (g11 : Good 11 trace) (g38 : Good 38 hold) (g4 : Good 4 am) (g14 : Good 14 tl) : Ev (fun k => spec_WithField.f k m [(⟨2, acct⟩ : S67), ⟨3, code⟩, ⟨4, am⟩, ⟨11, trace⟩, ⟨38, hold⟩] 14 tl) (m, [(⟨2, acct⟩ : S67), ⟨3, code⟩, ⟨4, am⟩, ⟨11, trace⟩, ⟨14, tl⟩, ⟨38, hold⟩], true) := by
 have e := spec_With_ev 14 tl m [(⟨2, acct⟩ : S67), ⟨3, code⟩, ⟨4, am⟩, ⟨11, trace⟩, ⟨38, hold⟩] hm h4 (by simp [g2, g3, g11, g38, g4]) (by simp) (by simp) (by simp) g14
 simpa [insF] using e

theorem W103 (hm : digits m = true) (h4 : m.size = 4) (g2 : Good 2 acct) (g3 : Good 3 code) (g11 : Good 11 trace) (g38 : Good 38 hold) (g103 : Good 103 other) : Ev (fun k => spec_WithField.f k m [(⟨2, acct⟩ : S67), ⟨3, code⟩, ⟨11, trace⟩, ⟨38, hold⟩] 103 other) (m, [(⟨2, acct⟩ : S67), ⟨3, code⟩, ⟨11, trace⟩, ⟨38, hold⟩, ⟨103, other⟩], true) := by
 have e := spec_With_ev 103 other m [(⟨2, acct⟩ : S67), ⟨3, code⟩, ⟨11, trace⟩, ⟨38, hold⟩] hm h4 (by simp [g2, g3, g11, g38]) (by simp) (by simp) (by simp) g103
 simpa [insF] using e

end

def reqL (op : Int) (acct code am trace tl hold other : ByteArray) : List S67 :=
 if op = 1 then [⟨2, acct⟩, ⟨3, code⟩, ⟨4, am⟩, ⟨11, trace⟩, ⟨14, tl⟩, ⟨38, hold⟩]
 else if op ≤ 4 then [⟨2, acct⟩, ⟨3, code⟩, ⟨4, am⟩, ⟨11, trace⟩, ⟨38, hold⟩]
 else if op = 6 then [⟨2, acct⟩, ⟨3, code⟩, ⟨11, trace⟩, ⟨38, hold⟩, ⟨103, other⟩]
 else if op < 7 then [⟨2, acct⟩, ⟨3, code⟩, ⟨11, trace⟩, ⟨38, hold⟩]
 else [⟨2, acct⟩, ⟨3, code⟩, ⟨11, trace⟩]

structure ReqFit (op : Int) (acct other hold trace mti : ByteArray) (a t : Nat) (code : ByteArray) : Prop where
 o1 : 1 ≤ op
 o8 : op ≤ 8
 dm : digits mti = true
 m4 : mti.size = 4
 g2 : Good 2 acct
 g3 : Good 3 (code ++ (⟨#[48, 48, 48, 48]⟩ : ByteArray))
 g11 : Good 11 trace
 h6 : hold.size ≤ 6
 hp : printable hold = true
 ha : a ≤ 999999999999
 ht : t ≤ 9999
 g103 : op = 6 → Good 103 other
 c2 : code.size = 2
 sl : acct.size + trace.size ≤ 25
 so : op = 6 → other.size ≤ 19

theorem spec_ReqMsg_ok (op : Int) (acct other hold trace mti : ByteArray) (a t : Nat) (code : ByteArray) (F : ReqFit op acct other hold trace mti a t code) (hc : spec_OpCode.f op = some code)
  (ho : Ev (fun k => spec_ReqOk.f k op acct other hold trace mti (a : Int) (t : Int)) true) :
  Ev (fun k => spec_ReqMsg.f k op acct other hold trace mti (a : Int) (t : Int)) (mti, reqL op acct (code ++ (⟨#[48, 48, 48, 48]⟩ : ByteArray)) (wideT a 12) trace (wideT t 4) (fitT hold) other, true) := by
 obtain ⟨o1, o8, dm, m4, g2, g3, g11, h6, hp, ha, ht, g103, c2, _, _⟩ := F
 have g38 := good38 hold h6 hp
 have na : Lib.nDigits a ≤ 12 := nDigits_le 11 a (by omega)
 have nt : Lib.nDigits t ≤ 4 := nDigits_le 3 t (by omega)
 have g4 : Good 4 (wideT a 12) := good_num sz4 kd4 (by rw [wideT_size a 12 na]; omega) (wideT_digits a 12) (by rw [wideT_size a 12 na]; rfl)
 have g14 : Good 14 (wideT t 4) := good_num sz14 kd14 (by rw [wideT_size t 4 nt]; omega) (wideT_digits t 4) (by rw [wideT_size t 4 nt]; rfl)
 have ea := spec_Wide_ev a 12 (by omega) (by omega) (by omega) na
 have et := spec_Wide_ev t 4 (by omega) (by omega) (by omega) nt
 unfold spec_ReqMsg.f reqL
 refine evB ho (evP rfl (evB (W2 mti acct dm m4 g2) (evK hc (evP (by omega) (evB (W3 mti acct _ dm m4 g2 g3) (evB (W11 mti acct _ trace dm m4 g2 g3 g11) (evK (spec_Hold_f op o1 o8) ?_)))))))
 by_cases h7 : op < 7
 ·refine evP (by simpa using h7) (evB (spec_Fit_ev hold h6 hp) (evB (W38 mti acct _ trace _ dm m4 g2 g3 g11 g38) (evS ?_)))
  simp only [spec_ReqMsg.j0]
  refine evK (spec_Amount_f op o1) ?_
  by_cases h4 : op ≤ 4
  ·refine evP (by simpa using h4) (evB ea (evB (W4 mti acct _ trace _ _ dm m4 g2 g3 g11 g38 g4) (evS ?_)))
   simp only [spec_ReqMsg.j1]
   by_cases h1 : op = 1
   ·rw [if_pos h1]
    exact evP h1 (evB et (evB (W14 mti acct _ trace _ _ _ dm m4 g2 g3 g11 g38 g4 g14) (evN (by omega) (evC rfl))))
   ·rw [if_neg h1, if_pos h4]
    exact evN h1 (evN (by omega) (evC rfl))
  ·refine evN (by simpa using h4) (evS ?_)
   simp only [spec_ReqMsg.j1]
   rw [if_neg (show ¬ op = 1 by omega), if_neg h4]
   by_cases h6' : op = 6
   ·rw [if_pos h6']
    exact evN (by omega) (evP h6' (evB (W103 mti acct _ trace _ other dm m4 g2 g3 g11 g38 (g103 h6')) (evC rfl)))
   ·rw [if_neg h6', if_pos h7]
    exact evN (by omega) (evN h6' (evC rfl))
 ·refine evN (by simpa using h7) (evS ?_)
  simp only [spec_ReqMsg.j0]
  refine evK (spec_Amount_f op o1) (evN (by simp; omega) (evS ?_))
  simp only [spec_ReqMsg.j1]
  rw [if_neg (show ¬ op = 1 by omega), if_neg (show ¬ op ≤ 4 by omega), if_neg (show ¬ op = 6 by omega), if_neg h7]
  exact evN (by omega) (evN (by omega) (evC rfl))

def keepF (fs : List Int) (y : S67) : Bool := decide (y.f0 = 2) || (decide (y.f0 = 3) || (decide (y.f0 = 11) || decide (y.f0 ∈ fs)))

theorem impl_RM_l0 (op : Int) (acct other hold trace mti : ByteArray) (a t : Int) (m0 : ByteArray) {m c n : ByteArray} {fs : List Int} (hr : impl_opOf.f op = some (m, c, n, fs)) (hf : fs.length ≤ 140737488355328) (ys : List S67) (hl : ys.length ≤ 1000) (d : Nat) : ∀ (i : Nat) (acc : List S67), i + d = ys.length → acc.length + d ≤ 4000 →
  Ev (fun k => impl_ReqMsg.l0 k ys (ys.length : Int) (i : Int) op acct other hold trace mti a t m0 acc) (m0, acc ++ (ys.drop i).filter (keepF fs), true) := by
 induction d with
 | zero =>
  intro i acc hi ha
  refine evS ?_
  simp only [impl_ReqMsg.l0]
  rw [List.drop_eq_nil_of_le (by omega), List.filter_nil, List.append_nil]
  exact evN (by omega) (evC rfl)
 | succ d ih =>
  intro i acc hi ha
  have hlt : i < ys.length := by omega
  have e0 := ih (i + 1) acc (by omega) (by omega)
  have e1 := ih (i + 1) (acc ++ [ys[i]]) (by omega) (by rw [List.length_append, List.length_singleton]; omega)
  rw [List.append_assoc, List.singleton_append] at e1
  refine evS ?_
  simp only [impl_ReqMsg.l0, rdI_Field ys i hlt]
  rw [w_id (x := (i : Int) + 1) (by omega) (by omega), List.drop_eq_getElem_cons hlt, List.filter_cons]
  refine evP (by omega) (evP (by omega) (evP (by omega) ?_))
  by_cases h2 : ys[i].f0 = 2
  ·rw [if_pos (by unfold keepF; simp [h2])]
   exact evP h2 (evP (by omega) e1)
  refine evN h2 ?_
  by_cases h3 : ys[i].f0 = 3
  ·rw [if_pos (by unfold keepF; simp [h3])]
   exact evP h3 (evP (by omega) e1)
  refine evN h3 ?_
  by_cases h11 : ys[i].f0 = 11
  ·rw [if_pos (by unfold keepF; simp [h11])]
   exact evP h11 (evP (by omega) e1)
  refine evN h11 (evB (uses_ev op _ hr hf) ?_)
  by_cases hu : ys[i].f0 ∈ fs
  ·rw [if_pos (by unfold keepF; simp [hu])]
   exact evP (by simpa using hu) (evP (by omega) e1)
  ·rw [if_neg (by unfold keepF; simp [h2, h3, h11, hu])]
   exact evN (by simpa using hu) e0

theorem impl_ReqMsg_ok (op : Int) (acct other hold trace mti : ByteArray) (a t : Nat) (code : ByteArray) (F : ReqFit op acct other hold trace mti a t code) {m n : ByteArray} {fs : List Int} (hr : impl_opOf.f op = some (m, code, n, fs)) (hf : fs.length ≤ 140737488355328)
  (ho : Ev (fun k => impl_ReqOk.f k op acct other hold trace mti (a : Int) (t : Int)) true) :
  Ev (fun k => impl_ReqMsg.f k op acct other hold trace mti (a : Int) (t : Int)) (mti, ([⟨2, acct⟩, ⟨3, code ++ (⟨#[48, 48, 48, 48]⟩ : ByteArray)⟩, ⟨4, wideT a 12⟩, ⟨11, trace⟩, ⟨14, wideT t 4⟩, ⟨38, fitT hold⟩, ⟨103, other⟩] : List S67).filter (keepF fs), true) := by
 obtain ⟨o1, o8, dm, m4, g2, g3, g11, h6, hp, ha, ht, g103, c2, _, _⟩ := F
 have na : Lib.nDigits a ≤ 12 := nDigits_le 11 a (by omega)
 have nt : Lib.nDigits t ≤ 4 := nDigits_le 3 t (by omega)
 have ea := impl_Wide_f a 12 (by omega) (by omega) (by omega) na
 have et := impl_Wide_f t 4 (by omega) (by omega) (by omega) nt
 have hcode : impl_OpCode.f op = some code := by unfold impl_OpCode.f; rw [hr]; rfl
 unfold impl_ReqMsg.f
 refine evB ho (evP rfl (evK hcode (evP (by omega) (evK ea (evK et (evB (impl_Fit_ev hold h6 hp) (evK rfl ?_)))))))
 have e := impl_RM_l0 op acct other hold trace mti (a : Int) (t : Int) mti hr hf ([⟨2, acct⟩, ⟨3, code ++ (⟨#[48, 48, 48, 48]⟩ : ByteArray)⟩, ⟨4, wideT a 12⟩, ⟨11, trace⟩, ⟨14, wideT t 4⟩, ⟨38, fitT hold⟩, ⟨103, other⟩] : List S67) (by simp) 7 0 [] (by simp) (by simp)
 exact e

theorem acct_facts (s : ByteArray) (h : acctIdOk s = true) : digits s = true ∧ 2 ≤ s.size ∧ s.size ≤ 19 := by
 unfold acctIdOk luhnOk at h
 simp only [Bool.and_eq_true, decide_eq_true_eq] at h
 exact ⟨h.2.1, h.2.2.1, by omega⟩

theorem digits_print (s : ByteArray) (h : digits s = true) : printable s = true := by
 unfold digits at h
 simp only [Bool.and_eq_true, decide_eq_true_eq] at h
 have h1 := (allFrom_iff isDig s).1 h.1
 rw [printable_iff]
 intro b hb
 have := h1 b hb
 unfold isDig at this
 simp only [Bool.and_eq_true, decide_eq_true_eq] at this
 omega

theorem hold_facts (s : ByteArray) (h : holdIdOk s = true) : printable s = true ∧ s.size ≤ 6 := by
 unfold holdIdOk at h
 simp only [Bool.and_eq_true, decide_eq_true_eq] at h
 have h1 := (allFrom_iff idSign s).1 h.1
 refine ⟨?_, by omega⟩
 rw [printable_iff]
 intro b hb
 have := h1 b hb
 unfold idSign at this
 simp only [Bool.and_eq_true, Bool.or_eq_true, decide_eq_true_eq] at this
 omega

theorem nil_facts (s : ByteArray) (h : (s.toList == ([] : List UInt8)) = true) : s = (⟨#[]⟩ : ByteArray) := ba_eq (by rw [eq_of_beq h, tl_eq])

theorem ReqFit_of (op : Int) (acct other hold trace mti : ByteArray) (amount ttl : Int) (m code : ByteArray) (h1 : 1 ≤ op) (h8 : op ≤ 8) (hm : digits m = true) (h4 : m.size = 4) (hc : digits code = true) (hc2 : code.size = 2)
  (h : (reqHead m acct trace mti && reqParts op other hold amount ttl) = true) : ∃ a t : Nat, amount = (a : Int) ∧ ttl = (t : Int) ∧ ReqFit op acct other hold trace mti a t code := by
 unfold reqHead reqParts at h
 simp only [Bool.and_eq_true, decide_eq_true_eq, beq_iff_eq] at h
 obtain ⟨⟨e1, ⟨e2, ⟨e3, e4⟩⟩⟩, ⟨p1, ⟨p2, ⟨p3, p4⟩⟩⟩⟩ := h
 obtain rfl : mti = m := ba_eq e1
 have A := acct_facts acct e2
 have H : printable hold = true ∧ hold.size ≤ 6 := by
  unfold partHold at p1
  by_cases c : op < 7
  ·rw [if_pos c] at p1; exact hold_facts hold p1
  ·rw [if_neg c] at p1
   rw [nil_facts hold p1]
   exact ⟨(printable_iff _).2 (by simp), by decide⟩
 have M : 0 ≤ amount ∧ amount ≤ 999999999999 := by
  unfold partAmount at p2
  split at p2
  ·simpa using p2
  ·have : amount = 0 := by simpa using p2
   omega
 have T : 0 ≤ ttl ∧ ttl ≤ 9999 := by
  unfold partTtl at p3
  split at p3
  ·simpa using p3
  ·have : ttl = 0 := by simpa using p3
   omega
 have hc3 : digits (code ++ (⟨#[48, 48, 48, 48]⟩ : ByteArray)) = true := by
  have h0 := (allFrom_iff isDig code).1 (by unfold digits at hc; simp only [Bool.and_eq_true] at hc; exact hc.1)
  unfold digits
  rw [(allFrom_iff isDig _).2 ?_]
  ·show (true && decide (0 < (code ++ (⟨#[48, 48, 48, 48]⟩ : ByteArray)).size)) = true
   rw [ByteArray.size_append, hc2]; rfl
  ·intro b hb
   have e : (code ++ (⟨#[48, 48, 48, 48]⟩ : ByteArray)).data.toList = code.data.toList ++ [48, 48, 48, 48] := by simp
   rw [e] at hb
   rcases List.mem_append.1 hb with hb | hb
   ·exact h0 b hb
   ·simp at hb; rw [hb]; decide
 have s3 : (code ++ (⟨#[48, 48, 48, 48]⟩ : ByteArray)).size = 6 := by rw [ByteArray.size_append, hc2]; rfl
 have O : op = 6 → digits other = true ∧ 2 ≤ other.size ∧ other.size ≤ 19 := by
  intro h6
  unfold partOther at p4
  rw [if_pos h6] at p4
  exact acct_facts other p4
 refine ⟨amount.toNat, ttl.toNat, by omega, by omega, ⟨h1, h8, hm, h4, good_var sz2 kd2 (by omega) A.1 (by omega), good_num sz3 kd3 (by omega) hc3 (by rw [s3]; rfl), good_num sz11 kd11 (by omega) e3 e4, H.2, H.1, by omega, by omega, fun h6 => ?_, hc2, by omega, fun h6 => (O h6).2.2⟩⟩
 have := O h6
 exact good_tvar sz103 kd103 (by omega) (digits_print other this.1) (by omega) (by omega)

theorem ReqMsg_evs (op : Int) (acct other hold trace mti : ByteArray) (amount ttl : Int) (ha : acct.size ≤ 1048576) (hb : other.size ≤ 1048576) (hh : hold.size ≤ 1048576) (ht : trace.size ≤ 1048576) :
  ∃ (m : ByteArray) (ys : List S67) (b : Bool), Ev (fun k => spec_ReqMsg.f k op acct other hold trace mti amount ttl) (m, ys, b) ∧ Ev (fun k => impl_ReqMsg.f k op acct other hold trace mti amount ttl) (m, ys, b) ∧ ys.length ≤ 10 ∧ wtL wtField ys ≤ 1048576 := by
 have S := spec_ReqOk_ev op acct other hold trace mti amount ttl (by omega) (by omega) (by omega) (by omega)
 have I := impl_ReqOk_ev op acct other hold trace mti amount ttl (by omega) (by omega) (by omega) (by omega)
 by_cases hq : reqOk op acct other hold trace mti amount ttl = true
 ·rw [hq] at S I
  unfold reqOk at hq
  by_cases h : 1 ≤ op ∧ op ≤ 8
  ·rw [if_pos h] at hq
   have fin : ∀ (code m n : ByteArray) (fs : List Int), spec_OpMti.f op = some m → spec_OpCode.f op = some code → impl_opOf.f op = some (m, code, n, fs) → fs.length ≤ 140737488355328 → digits m = true → m.size = 4 → digits code = true → code.size = 2 →
     (∀ (am tl fit : ByteArray), ([⟨2, acct⟩, ⟨3, code ++ (⟨#[48, 48, 48, 48]⟩ : ByteArray)⟩, ⟨4, am⟩, ⟨11, trace⟩, ⟨14, tl⟩, ⟨38, fit⟩, ⟨103, other⟩] : List S67).filter (keepF fs) = reqL op acct (code ++ (⟨#[48, 48, 48, 48]⟩ : ByteArray)) am trace tl fit other) →
     ∃ (m : ByteArray) (ys : List S67) (b : Bool), Ev (fun k => spec_ReqMsg.f k op acct other hold trace mti amount ttl) (m, ys, b) ∧ Ev (fun k => impl_ReqMsg.f k op acct other hold trace mti amount ttl) (m, ys, b) ∧ ys.length ≤ 10 ∧ wtL wtField ys ≤ 1048576 := by
    intro code m n fs e1 e2 e3 hf d1 d2 d3 d4 e4
    rw [e1] at hq
    obtain ⟨a, t, rfl, rfl, F⟩ := ReqFit_of op acct other hold trace mti amount ttl m code h.1 h.2 d1 d2 d3 d4 hq
    refine ⟨mti, reqL op acct (code ++ (⟨#[48, 48, 48, 48]⟩ : ByteArray)) (wideT a 12) trace (wideT t 4) (fitT hold) other, true, spec_ReqMsg_ok op acct other hold trace mti a t code F e2 S, ?_, ?_, ?_⟩
    ·have e := impl_ReqMsg_ok op acct other hold trace mti a t code F e3 hf I
     rw [e4] at e
     exact e
    ·unfold reqL
     repeat' split
     all_goals simp
    ·have w1 := wideT_size a 12 (nDigits_le 11 a (by have := F.ha; omega))
     have w2 := wideT_size t 4 (nDigits_le 3 t (by have := F.ht; omega))
     have w3 := fitT_size hold F.h6
     have w4 := F.c2
     have w6 := F.sl
     have w7 := F.so
     have w5 : (code ++ (⟨#[48, 48, 48, 48]⟩ : ByteArray)).size = 6 := by rw [ByteArray.size_append, w4]; rfl
     unfold reqL
     repeat' split
     all_goals simp only [wtL, wtField, List.length_cons, List.length_nil, List.map_cons, List.map_nil, List.sum_cons, List.sum_nil, w1, w2, w3, w5]
     all_goals omega
   have h' : op = 1 ∨ op = 2 ∨ op = 3 ∨ op = 4 ∨ op = 5 ∨ op = 6 ∨ op = 7 ∨ op = 8 := by omega
   rcases h' with rfl | rfl | rfl | rfl | rfl | rfl | rfl | rfl
   ·exact fin _ _ _ _ rfl rfl opOf_1 (by simp) (by decide +kernel) rfl (by decide +kernel) rfl (fun _ _ _ => rfl)
   ·exact fin _ _ _ _ rfl rfl opOf_2 (by simp) (by decide +kernel) rfl (by decide +kernel) rfl (fun _ _ _ => rfl)
   ·exact fin _ _ _ _ rfl rfl opOf_3 (by simp) (by decide +kernel) rfl (by decide +kernel) rfl (fun _ _ _ => rfl)
   ·exact fin _ _ _ _ rfl rfl opOf_4 (by simp) (by decide +kernel) rfl (by decide +kernel) rfl (fun _ _ _ => rfl)
   ·exact fin _ _ _ _ rfl rfl opOf_5 (by simp) (by decide +kernel) rfl (by decide +kernel) rfl (fun _ _ _ => rfl)
   ·exact fin _ _ _ _ rfl rfl opOf_6 (by simp) (by decide +kernel) rfl (by decide +kernel) rfl (fun _ _ _ => rfl)
   ·exact fin _ _ _ _ rfl rfl opOf_7 (by simp) (by decide +kernel) rfl (by decide +kernel) rfl (fun _ _ _ => rfl)
   ·exact fin _ _ _ _ rfl rfl opOf_8 (by simp) (by decide +kernel) rfl (by decide +kernel) rfl (fun _ _ _ => rfl)
  ·rw [if_neg h] at hq; exact absurd hq (by decide)
 ·have hq' : reqOk op acct other hold trace mti amount ttl = false := by simpa using hq
  rw [hq'] at S I
  refine ⟨(⟨#[]⟩ : ByteArray), [], false, ?_, ?_, by simp, by simp [wtL]⟩
  ·unfold spec_ReqMsg.f
   exact evB S (evN (by decide) (evC rfl))
  ·unfold impl_ReqMsg.f
   exact evB I (evN (by decide) (evC rfl))

def mtN : Nat → Int → ByteArray → ByteArray
 | 0, _, s => s
 | f + 1, x, s => if x > 0 then mtN f (Int.tdiv x 10) ((strOfNums [(wrap64 (48 + (Int.tmod x 10))) % 256]) ++ s) else (⟨#[109]⟩ : ByteArray) ++ s

def mt (x : Int) : ByteArray := if x ≤ 0 then (⟨#[109, 48]⟩ : ByteArray) else mtN 20 x (⟨#[]⟩ : ByteArray)

theorem markText_l0 : ∀ (f : Nat) (x : Int) (s : ByteArray), 0 ≤ x → x < 10 ^ f → x ≤ 9223372036854775807 → s.size + f ≤ 1000 → Ev (fun k => laws_markText.l0 k x s) (mtN (f + 1) x s)
 | 0, x, s, h0, h1, h2, h3 => by
  refine evS ?_
  simp only [laws_markText.l0, mtN]
  have h1' : x < 1 := h1
  rw [if_neg (show ¬ x > 0 by omega)]
  exact evN (by omega) (evP (by omega) (evC rfl))
 | f + 1, x, s, h0, h1, h2, h3 => by
  refine evS ?_
  rw [show mtN (f + 1 + 1) x s = if x > 0 then mtN (f + 1) (Int.tdiv x 10) ((strOfNums [(wrap64 (48 + (Int.tmod x 10))) % 256]) ++ s) else (⟨#[109]⟩ : ByteArray) ++ s from rfl]
  simp only [laws_markText.l0, Option.bind_some]
  by_cases hx : x > 0
  ·rw [if_pos hx]
   have hs : (strOfNums [(wrap64 (48 + (Int.tmod x 10))) % 256]).size = 1 := strOfNums_size _
   have hd : x.tdiv 10 = x / 10 := Int.tdiv_eq_ediv_of_nonneg h0
   have hp : (10 : Int) ^ (f + 1) = 10 ^ f * 10 := Int.pow_succ _ _
   rw [hp] at h1
   refine evP hx (evP (by rw [hs]; omega) ?_)
   rw [w_id (by rw [hd]; omega) (by rw [hd]; omega)]
   exact markText_l0 f _ _ (by rw [hd]; omega) (by rw [hd]; omega) (by rw [hd]; omega) (by rw [ByteArray.size_append, hs]; omega)
  ·rw [if_neg hx]
   exact evN hx (evP (by omega) (evC rfl))

theorem markText_ev (x : Int) (h : x ≤ 9223372036854775807) : Ev (fun k => laws_markText.f k x) (mt x) := by
 unfold laws_markText.f mt
 by_cases h0 : x ≤ 0
 ·rw [if_pos h0]; exact evP h0 (evC rfl)
 ·rw [if_neg h0]; exact evN h0 (markText_l0 19 x _ (by omega) (by omega) h (by decide))

theorem rdM_Field (xs : List S67) (i : Nat) (h : i < xs.length) : rd_T67 xs (i : Int) = xs[i] := by
 unfold rd_T67; exact getD_at _ xs i h

def mkField (b : Int) : S67 := ⟨b, mt (b + 1)⟩

def mkdFieldS (n : Nat) (a : Int) : List S67 := (List.range n).map fun (i : Nat) => mkField (a + 2 * (i : Int))

theorem mkdFieldS_len (n : Nat) (a : Int) : (mkdFieldS n a).length = n := by unfold mkdFieldS; simp

theorem mkdFieldS_at (n : Nat) (a : Int) (i : Nat) (h : i < (mkdFieldS n a).length) : (mkdFieldS n a)[i] = mkField (a + 2 * (i : Int)) := by
 simp only [mkdFieldS, List.getElem_map, List.getElem_range]

theorem mkdFieldS_drop (n : Nat) (a : Int) (i : Nat) (h : i < n) : (mkdFieldS n a).drop i = mkField (a + 2 * (i : Int)) :: (mkdFieldS n a).drop (i + 1) := by
 rw [List.drop_eq_getElem_cons (by rw [mkdFieldS_len]; exact h), mkdFieldS_at]

theorem markFieldS_l0 (n : Nat) (a : Int) (ha : 0 ≤ a) (hb : a + 2 * n ≤ 140737488355328) (d : Nat) : ∀ (i : Nat) (xs : List S67), i + d = n → xs.length = n → Ev (fun k => laws_markFieldS.l0 k xs (a + 2 * (i : Int)) (i : Int)) (a + 2 * (n : Int), xs.take i ++ (mkdFieldS n a).drop i) := by
 induction d with
 | zero =>
  intro i xs hi hx
  refine evS ?_
  simp only [laws_markFieldS.l0]
  have e : i = n := by omega
  subst e
  rw [List.drop_eq_nil_of_le (by rw [mkdFieldS_len]; exact Nat.le_refl _), List.take_of_length_le (by omega), List.append_nil]
  exact evN (by omega) (evC rfl)
 | succ d ih =>
  intro i xs hi hx
  have w1 : wrap64 (a + 2 * (i : Int) + 1) = a + 2 * (i : Int) + 1 := w_id (by omega) (by omega)
  have w2 : wrap64 (a + 2 * (i : Int) + 1 + 1) = a + 2 * (i : Int) + 1 + 1 := w_id (by omega) (by omega)
  have w4 : wrap64 ((i : Int) + 1) = ((i + 1 : Nat) : Int) := w_id (by omega) (by omega)
  refine evS ?_
  simp only [laws_markFieldS.l0, Int.toNat_natCast, Option.bind_some, w1, w2, w4]
  refine evP (by omega) (evP (by omega) (evB (markText_ev _ (by omega)) ?_))
  have hlt : i < xs.length := by omega
  have hr : ∀ y, rd_T67 (xs.set i y) (i : Int) = y := fun y => by rw [rdM_Field _ i (by rw [List.length_set]; exact hlt), List.getElem_set_self]
  simp only [hr, List.set_set]
  have e := ih (i + 1) (xs.set i (mkField (a + 2 * (i : Int)))) (by omega) (by rw [List.length_set]; exact hx)
  rw [take_set xs i _ (by omega), List.append_assoc, List.singleton_append, ← mkdFieldS_drop n a i (by omega)] at e
  have e2 : a + 2 * ((i + 1 : Nat) : Int) = a + 2 * (i : Int) + 1 + 1 := by omega
  rw [e2] at e
  exact e

theorem markFieldS_ev (xs : List S67) (a : Int) (ha : 0 ≤ a) (hb : a + 2 * xs.length ≤ 140737488355328) : Ev (fun k => laws_markFieldS.f k xs a) (a + 2 * (xs.length : Int), mkdFieldS xs.length a) := by
 have e := markFieldS_l0 xs.length a ha hb xs.length 0 xs (by omega) rfl
 unfold laws_markFieldS.f
 simpa using e

theorem heldFieldS_l0 (n : Nat) (a : Int) (ha : 0 ≤ a) (hb : a + 2 * n ≤ 140737488355328) (d : Nat) : ∀ (i : Nat), i + d = n → Ev (fun k => laws_heldFieldS.l0 k (mkdFieldS n a) (a + 2 * (i : Int)) (i : Int)) (a + 2 * (n : Int)) := by
 have hl := mkdFieldS_len n a
 induction d with
 | zero =>
  intro i hi
  refine evS ?_
  simp only [laws_heldFieldS.l0]
  have e : i = n := by omega
  subst e
  exact evN (by omega) (evC rfl)
 | succ d ih =>
  intro i hi
  have hlt : i < (mkdFieldS n a).length := by omega
  have w1 : wrap64 (a + 2 * (i : Int) + 1) = a + 2 * (i : Int) + 1 := w_id (by omega) (by omega)
  have w2 : wrap64 (a + 2 * (i : Int) + 1 + 1) = a + 2 * (i : Int) + 1 + 1 := w_id (by omega) (by omega)
  have w4 : wrap64 ((i : Int) + 1) = ((i + 1 : Nat) : Int) := w_id (by omega) (by omega)
  refine evS ?_
  simp only [laws_heldFieldS.l0, rdM_Field _ i hlt, mkdFieldS_at, w1, w2, w4]
  refine evP (by omega) (evP (by omega) (evP rfl (evB (markText_ev _ (by omega)) (evP rfl ?_))))
  have e := ih (i + 1) (by omega)
  have e2 : a + 2 * ((i + 1 : Nat) : Int) = a + 2 * (i : Int) + 1 + 1 := by omega
  rw [e2] at e
  exact e

theorem heldFieldS_ev (n : Nat) (a : Int) (ha : 0 ≤ a) (hb : a + 2 * n ≤ 140737488355328) : Ev (fun k => laws_heldFieldS.f k (mkdFieldS n a) a) (a + 2 * (n : Int)) := by
 have e := heldFieldS_l0 n a ha hb n 0 (by omega)
 unfold laws_heldFieldS.f
 simpa using e

def cvReq (x : S38) : S45 := ⟨x.f0, x.f1, x.f2, x.f3, x.f4, x.f5, x.f6, x.f7⟩

def wtReq (y : S45) : Nat := y.f1.size + y.f2.size + y.f3.size + y.f4.size + y.f5.size

theorem szReq_ev (x : S38) (hx : ok38 x) (left : Int) (h0_ : 0 ≤ left) (h1_ : left ≤ 1048576) :
  ∃ t, Ev (fun _ => laws_szReq.f x.f0 x.f1 x.f2 x.f3 x.f4 x.f5 x.f6 x.f7 left) t ∧ (t < 0 ∨ (0 ≤ t ∧ t + (wtReq (cvReq x) : Int) = left)) := by
 obtain ⟨h0, h1, h2, h3, h4, h5, h6, h7⟩ := hx
 have h1' : x.f1.size ≤ 9223372036854775807 := h1
 have h2' : x.f2.size ≤ 9223372036854775807 := h2
 have h3' : x.f3.size ≤ 9223372036854775807 := h3
 have h4' : x.f4.size ≤ 9223372036854775807 := h4
 have h5' : x.f5.size ≤ 9223372036854775807 := h5
 unfold laws_szReq.f
 have e1 : wrap64 (left - (x.f1.size : Int)) = left - (x.f1.size : Int) := w_id (by omega) (by omega)
 rw [e1]
 by_cases c1 : left - (x.f1.size : Int) < 0
 ·exact ⟨-1, evP c1 (evC rfl), .inl (by omega)⟩
 refine exN c1 ?_
 have e2 : wrap64 ((left - (x.f1.size : Int)) - (x.f2.size : Int)) = (left - (x.f1.size : Int)) - (x.f2.size : Int) := w_id (by omega) (by omega)
 rw [e2]
 by_cases c2 : (left - (x.f1.size : Int)) - (x.f2.size : Int) < 0
 ·exact ⟨-1, evP c2 (evC rfl), .inl (by omega)⟩
 refine exN c2 ?_
 have e3 : wrap64 (((left - (x.f1.size : Int)) - (x.f2.size : Int)) - (x.f3.size : Int)) = ((left - (x.f1.size : Int)) - (x.f2.size : Int)) - (x.f3.size : Int) := w_id (by omega) (by omega)
 rw [e3]
 by_cases c3 : ((left - (x.f1.size : Int)) - (x.f2.size : Int)) - (x.f3.size : Int) < 0
 ·exact ⟨-1, evP c3 (evC rfl), .inl (by omega)⟩
 refine exN c3 ?_
 have e4 : wrap64 ((((left - (x.f1.size : Int)) - (x.f2.size : Int)) - (x.f3.size : Int)) - (x.f4.size : Int)) = (((left - (x.f1.size : Int)) - (x.f2.size : Int)) - (x.f3.size : Int)) - (x.f4.size : Int) := w_id (by omega) (by omega)
 rw [e4]
 by_cases c4 : (((left - (x.f1.size : Int)) - (x.f2.size : Int)) - (x.f3.size : Int)) - (x.f4.size : Int) < 0
 ·exact ⟨-1, evP c4 (evC rfl), .inl (by omega)⟩
 refine exN c4 ?_
 have e5 : wrap64 (((((left - (x.f1.size : Int)) - (x.f2.size : Int)) - (x.f3.size : Int)) - (x.f4.size : Int)) - (x.f5.size : Int)) = ((((left - (x.f1.size : Int)) - (x.f2.size : Int)) - (x.f3.size : Int)) - (x.f4.size : Int)) - (x.f5.size : Int) := w_id (by omega) (by omega)
 rw [e5]
 by_cases c5 : ((((left - (x.f1.size : Int)) - (x.f2.size : Int)) - (x.f3.size : Int)) - (x.f4.size : Int)) - (x.f5.size : Int) < 0
 ·exact ⟨-1, evP c5 (evC rfl), .inl (by omega)⟩
 refine exN c5 ?_
 refine ⟨_, evC rfl, .inr ⟨by omega, ?_⟩⟩
 unfold wtReq cvReq
 simp only []
 omega

theorem toReq_eq (x : S38) : laws_toReq.f x.f0 x.f1 x.f2 x.f3 x.f4 x.f5 x.f6 x.f7 = some ((cvReq x).f0, (cvReq x).f1, (cvReq x).f2, (cvReq x).f3, (cvReq x).f4, (cvReq x).f5, (cvReq x).f6, (cvReq x).f7) := rfl

theorem FnExactReqMsg : laws_FnExactReqMsg.Pure := by
 intro x hx
 refine Ev.rounds ?_
 unfold laws_FnExactReqMsg.f
 obtain ⟨t, v, c⟩ := szReq_ev x hx 1048576 (by omega) (by omega)
 refine evB v ?_
 rcases c with c | ⟨c, e⟩
 ·exact evP c (evC rfl)
 have hw : wtReq (cvReq x) ≤ 1048576 := by omega
 have hT := toReq_eq x
 unfold wtReq at hw
 obtain ⟨m, ys, b, S, I, hl, hwm⟩ := ReqMsg_evs (cvReq x).f0 (cvReq x).f1 (cvReq x).f2 (cvReq x).f3 (cvReq x).f4 (cvReq x).f5 (cvReq x).f6 (cvReq x).f7 (by omega) (by omega) (by omega) (by omega)
 have hE : Ev (fun k => laws_eqMsg.f k m ys m ys) true := by
  unfold laws_eqMsg.f
  exact evP rfl (evB (eqFieldS_refl ys hwm) (evP rfl (evC rfl)))
 have hM := markFieldS_ev ys 1 (by omega) (by omega)
 have hH := heldFieldS_ev ys.length 1 (by omega) (by omega)
 have hMM : Ev (fun k => laws_markMsg.f k m ys 1) (1 + 2 * (ys.length : Int), mkdFieldS ys.length 1) := by
  unfold laws_markMsg.f
  exact evB hM (evC rfl)
 have hHH : Ev (fun k => laws_heldMsg.f k m (mkdFieldS ys.length 1) 1) (1 + 2 * (ys.length : Int)) := by
  unfold laws_heldMsg.f
  exact evB hH (evN (by omega) (evC rfl))
 refine evN (by omega) (evK hT (evB S (evK hT (evB I (evB hE (evP rfl (evS ?_)))))))
 simp only [laws_FnExactReqMsg.j0]
 refine evN (by simp) (evB hMM (evB hHH (evN (by omega) (evP rfl (evK hT (evB I (evB hE (evP rfl (evS ?_)))))))))
 simp only [laws_FnExactReqMsg.j1]
 exact evN (by simp) (evB hHH (evN (by omega) (evP rfl (evC rfl))))

end Go.Proofs.YtbjpfknmkpnhjaaDoor.Pure
