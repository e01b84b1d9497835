/- For every row of bytes the program's ReplyCode returns what the reference's ReplyCode returns, and the bytes stay as they were. Conditions: none. -/
import Derived.Test.YtbjpfknmkpnhjaaDoorQFnExactReplyCodex0
import Derived.Test.YtbjpfknmkpnhjaaDoorQFnExactReplyCodex1
import Derived.Test.YtbjpfknmkpnhjaaDoorQFnExactReplyCodex10
import Derived.Test.YtbjpfknmkpnhjaaDoorQFnExactReplyCodex11
import Derived.Test.YtbjpfknmkpnhjaaDoorQFnExactReplyCodex2
import Derived.Test.YtbjpfknmkpnhjaaDoorQFnExactReplyCodex3
import Derived.Test.YtbjpfknmkpnhjaaDoorQFnExactReplyCodex4
import Derived.Test.YtbjpfknmkpnhjaaDoorQFnExactReplyCodex5
import Derived.Test.YtbjpfknmkpnhjaaDoorQFnExactReplyCodex6
import Derived.Test.YtbjpfknmkpnhjaaDoorQFnExactReplyCodex7
import Derived.Test.YtbjpfknmkpnhjaaDoorQFnExactReplyCodex8
import Derived.Test.YtbjpfknmkpnhjaaDoorQFnExactReplyCodex9
import Derived.Laws.BitsLemmas
namespace Go.Proofs.YtbjpfknmkpnhjaaDoor.Pure
open Go.RowKit Go.Proofs.YtbjpfknmkpnhjaaDoor.QFnExactReplyCode Go.Proofs.YtbjpfknmkpnhjaaDoorW.PrintWords Go.Proofs.YtbjpfknmkpnhjaaDoorW.PrintLast
set_option linter.unusedVariables false
set_option linter.unusedSimpArgs false

theorem w_id {x : Int} (h0 : -9223372036854775808 ≤ x) (h1 : x ≤ 9223372036854775807) : wrap64 x = x := by unfold wrap64; omega

theorem tl_eq (s : ByteArray) : s.toList = s.data.toList := Go.ByteArray.toList_eq s

theorem ba_eq {s t : ByteArray} (h : s.toList = t.toList) : s = t := by
 rw [tl_eq, tl_eq] at h
 cases s; cases t; simp only [Array.toList_inj] at h; subst h; rfl

theorem tl_len (s : ByteArray) : s.toList.length = s.size := by rw [tl_eq]; simp

theorem ne_nil_eq (s : ByteArray) : (s.toList != ([] : List UInt8)) = decide (0 < s.size) := by
 have := tl_len s
 by_cases h : s.size = 0
 ·have e : s.toList = [] := List.eq_nil_of_length_eq_zero (by omega)
  rw [e]; simp [h]
 ·have e : s.toList ≠ [] := fun e => h (by rw [← tl_len, e]; rfl)
  rw [bne_iff_ne.2 e]; simp; omega

theorem evC {α : Type} {x : Option α} {r : α} (h : x = some r) : Ev (fun _ => x) r := ⟨0, fun _ _ => h⟩

theorem evP {α : Type} {c : Prop} [Decidable c] {f g : Nat → Option α} {r : α} (h : c) (k : Ev f r) : Ev (fun n => if c then f n else g n) r := by
 obtain ⟨K, k⟩ := k
 exact ⟨K, fun n hn => by show (if c then f n else g n) = some r; rw [if_pos h]; exact k n hn⟩

theorem evN {α : Type} {c : Prop} [Decidable c] {f g : Nat → Option α} {r : α} (h : ¬ c) (k : Ev g r) : Ev (fun n => if c then f n else g n) r := by
 obtain ⟨K, k⟩ := k
 exact ⟨K, fun n hn => by show (if c then f n else g n) = some r; rw [if_neg h]; exact k n hn⟩

theorem evS {α : Type} {g : Nat → Option α} {r : α} (h : Ev (fun k => g (k + 1)) r) : Ev g r := by
 obtain ⟨K, h⟩ := h
 refine ⟨K + 1, fun n hn => ?_⟩
 obtain ⟨m, rfl⟩ : ∃ m, n = m + 1 := ⟨n - 1, by omega⟩
 exact h m (by omega)

theorem evB {α β : Type} {g : Nat → Option α} {f : Nat → α → Option β} {a : α} {r : β} (h : Ev g a) (k : Ev (fun n => f n a) r) : Ev (fun n => (g n).bind fun t => f n t) r := Ev.bind h k

theorem evK {α β : Type} {x : Option α} {f : Nat → α → Option β} {a : α} {r : β} (h : x = some a) (k : Ev (fun n => f n a) r) : Ev (fun n => x.bind fun t => f n t) r := Ev.bind (evC h) k

theorem evFrom {α : Type} {g : Nat → Option α} {r : α} (K : Nat) (h : ∀ k, K ≤ k → g k = some r) : Ev g r := ⟨K, h⟩

theorem u8_range {n : Int} (h : (Lit.int .u8 n).wf = true) : 0 ≤ n ∧ n ≤ 255 := by
 simp [Lit.wf, IntKind.min, IntKind.max, IntKind.bits, IntKind.signed] at h
 omega

def allFrom (p : Int → Bool) (s : ByteArray) (i : Nat) : Bool := ((List.range s.size).drop i).all fun j => p (bt s (j : Int))

theorem allFrom_end (p : Int → Bool) (s : ByteArray) {i : Nat} (h : s.size ≤ i) : allFrom p s i = true := by
 unfold allFrom; rw [List.drop_eq_nil_of_le (by simpa using h)]; rfl

theorem allFrom_step (p : Int → Bool) (s : ByteArray) {i : Nat} (h : i < s.size) : allFrom p s i = (p (bt s (i : Int)) && allFrom p s (i + 1)) := by
 unfold allFrom; rw [List.drop_eq_getElem_cons (by simpa using h)]; simp

def isDig (c : Int) : Bool := decide (48 ≤ c) && decide (c ≤ 57)

def digits (s : ByteArray) : Bool := allFrom isDig s 0 && decide (0 < s.size)

theorem spec_Digits_l0 (s : ByteArray) (hs : s.size ≤ 140737488355328) (d : Nat) : ∀ (k i : Nat), i + d = s.size → d < k → spec_Digits.l0 k s (i : Int) = some (allFrom isDig s i && decide (0 < s.size)) := by
 induction d with
 | zero =>
  intro k i hi hk
  obtain ⟨k, rfl⟩ : ∃ m, k = m + 1 := ⟨k - 1, by omega⟩
  simp only [spec_Digits.l0]; rw [if_neg (by omega), allFrom_end _ _ (by omega)]; simp
 | succ d ih =>
  intro k i hi hk
  obtain ⟨k, rfl⟩ : ∃ m, k = m + 1 := ⟨k - 1, by omega⟩
  simp only [spec_Digits.l0]
  rw [if_pos (by omega), if_pos (by omega), w_id (by omega) (by omega), allFrom_step _ _ (by omega)]
  have e := ih k (i + 1) (by omega) (by omega)
  rw [show ((i : Int) + 1) = ((i + 1 : Nat) : Int) from by omega, e]
  unfold isDig
  by_cases h1 : bt s (i : Int) < 48
  ·rw [if_pos h1]; have : ¬ 48 ≤ bt s (i : Int) := by omega
   simp [this]
  ·rw [if_neg h1]; have h1' : 48 ≤ bt s (i : Int) := by omega
   by_cases h2 : bt s (i : Int) > 57
   ·rw [if_pos h2]; have : ¬ bt s (i : Int) ≤ 57 := by omega
    simp [this]
   ·rw [if_neg h2]; have h2' : bt s (i : Int) ≤ 57 := by omega
    simp [h1', h2']

theorem spec_Digits_f (s : ByteArray) (hs : s.size ≤ 140737488355328) (k : Nat) (hk : s.size < k) : spec_Digits.f k s = some (digits s) :=
 spec_Digits_l0 s hs s.size k 0 (by omega) hk

theorem impl_Digits_l0 (s : ByteArray) (hs : s.size ≤ 140737488355328) (d : Nat) : ∀ (k i : Nat), i + d = s.size → d < k → impl_Digits.l0 k s (s.size : Int) (i : Int) = some (allFrom isDig s i && decide (0 < s.size)) := by
 induction d with
 | zero =>
  intro k i hi hk
  obtain ⟨k, rfl⟩ : ∃ m, k = m + 1 := ⟨k - 1, by omega⟩
  simp only [impl_Digits.l0]; rw [if_neg (by omega), allFrom_end _ _ (by omega), ne_nil_eq]; simp
 | succ d ih =>
  intro k i hi hk
  obtain ⟨k, rfl⟩ : ∃ m, k = m + 1 := ⟨k - 1, by omega⟩
  simp only [impl_Digits.l0]
  rw [if_pos (by omega), if_pos (by omega), if_pos (by omega), w_id (by omega) (by omega), allFrom_step _ _ (by omega)]
  have e := ih k (i + 1) (by omega) (by omega)
  rw [show ((i : Int) + 1) = ((i + 1 : Nat) : Int) from by omega, e]
  unfold isDig
  by_cases h1 : bt s (i : Int) < 48
  ·rw [if_pos h1]; have : ¬ 48 ≤ bt s (i : Int) := by omega
   simp [this]
  ·rw [if_neg h1]; have h1' : 48 ≤ bt s (i : Int) := by omega
   by_cases h2 : bt s (i : Int) > 57
   ·rw [if_pos h2]; have : ¬ bt s (i : Int) ≤ 57 := by omega
    simp [this]
   ·rw [if_neg h2]; have h2' : bt s (i : Int) ≤ 57 := by omega
    simp [h1', h2']

theorem impl_Digits_f (s : ByteArray) (hs : s.size ≤ 140737488355328) (k : Nat) (hk : s.size < k) : impl_Digits.f k s = some (digits s) :=
 impl_Digits_l0 s hs s.size k 0 (by omega) hk

theorem spec_In_f (a b c : Int) : spec_l01In.f a b c = some (decide (b ≤ a) && decide (a ≤ c)) := by
 unfold spec_l01In.f
 by_cases h : a ≥ b
 ·rw [if_pos h]; have : b ≤ a := h
  simp [this]
 ·rw [if_neg h]; have : ¬ b ≤ a := h
  simp [this]

theorem within_f (a b c : Int) : impl_within.f a b c = some (decide (b ≤ a) && decide (a ≤ c)) := by
 unfold impl_within.f
 by_cases h : b ≤ a
 ·rw [if_pos h]; simp [h]
 ·rw [if_neg h]; simp [h]

theorem spec_Digits_ev (s : ByteArray) (hs : s.size ≤ 140737488355328) : Ev (fun k => spec_Digits.f k s) (digits s) := evFrom (s.size + 1) fun k hk => spec_Digits_f s hs k (by omega)

theorem impl_Digits_ev (s : ByteArray) (hs : s.size ≤ 140737488355328) : Ev (fun k => impl_Digits.f k s) (digits s) := evFrom (s.size + 1) fun k hk => impl_Digits_f s hs k (by omega)

/-! ### Texts as lists of bytes -/

theorem bt_nat (s : ByteArray) (i : Nat) (h : i < s.data.toList.length) : bt s (i : Int) = ((s.data.toList[i]).toNat : Int) := by
 have h' : (i : Int).toNat < s.size := by rw [Int.toNat_natCast]; simpa using h
 unfold bt
 rw [dif_pos h']
 simp only [Int.toNat_natCast, Array.getElem_toList]
 rfl

theorem allFrom_iff (p : Int → Bool) (s : ByteArray) : allFrom p s 0 = true ↔ ∀ b ∈ s.data.toList, p (b.toNat : Int) = true := by
 unfold allFrom
 rw [List.drop_zero, List.all_eq_true]
 constructor
 ·intro h b hb
  obtain ⟨i, hi, rfl⟩ := List.getElem_of_mem hb
  have e := h i (List.mem_range.2 (by simpa using hi))
  rw [bt_nat s i hi] at e
  exact e
 ·intro h j hj
  have hj' : j < s.data.toList.length := by have := List.mem_range.1 hj; simpa using this
  rw [bt_nat s j hj']
  exact h _ (List.getElem_mem hj')

theorem mk_append (l m : List UInt8) : (⟨l.toArray⟩ : ByteArray) ++ (⟨m.toArray⟩ : ByteArray) = ⟨(l ++ m).toArray⟩ := by
 apply ba_eq
 rw [tl_eq, tl_eq]
 simp

def isPrt (c : Int) : Bool := decide (32 ≤ c) && decide (c ≤ 126)

def printable (s : ByteArray) : Bool := allFrom isPrt s 0

theorem spec_Printable_l0 (s : ByteArray) (hs : s.size ≤ 140737488355328) (d : Nat) : ∀ (k i : Nat), i + d = s.size → d < k → spec_Printable.l0 k s (i : Int) = some (allFrom isPrt s i) := by
 induction d with
 | zero =>
  intro k i hi hk
  obtain ⟨k, rfl⟩ : ∃ m, k = m + 1 := ⟨k - 1, by omega⟩
  simp only [spec_Printable.l0]; rw [if_neg (by omega), allFrom_end _ _ (by omega)]
 | succ d ih =>
  intro k i hi hk
  obtain ⟨k, rfl⟩ : ∃ m, k = m + 1 := ⟨k - 1, by omega⟩
  simp only [spec_Printable.l0]
  rw [if_pos (by omega), if_pos (by omega), w_id (by omega) (by omega), allFrom_step _ _ (by omega)]
  have e := ih k (i + 1) (by omega) (by omega)
  rw [show ((i : Int) + 1) = ((i + 1 : Nat) : Int) from by omega, e]
  unfold isPrt
  by_cases h1 : bt s (i : Int) < 32
  ·rw [if_pos h1]; have : ¬ 32 ≤ bt s (i : Int) := by omega
   simp [this]
  ·rw [if_neg h1]; have h1' : 32 ≤ bt s (i : Int) := by omega
   by_cases h2 : bt s (i : Int) > 126
   ·rw [if_pos h2]; have : ¬ bt s (i : Int) ≤ 126 := by omega
    simp [this]
   ·rw [if_neg h2]; have h2' : bt s (i : Int) ≤ 126 := by omega
    simp [h1', h2']

theorem impl_Printable_l0 (s : ByteArray) (hs : s.size ≤ 140737488355328) (d : Nat) : ∀ (k i : Nat), i + d = s.size → d < k → impl_Printable.l0 k s (s.size : Int) (i : Int) = some (allFrom isPrt s i) := by
 induction d with
 | zero =>
  intro k i hi hk
  obtain ⟨k, rfl⟩ : ∃ m, k = m + 1 := ⟨k - 1, by omega⟩
  simp only [impl_Printable.l0]; rw [if_neg (by omega), allFrom_end _ _ (by omega)]
 | succ d ih =>
  intro k i hi hk
  obtain ⟨k, rfl⟩ : ∃ m, k = m + 1 := ⟨k - 1, by omega⟩
  simp only [impl_Printable.l0]
  rw [if_pos (by omega), if_pos (by omega), if_pos (by omega), w_id (by omega) (by omega), allFrom_step _ _ (by omega)]
  have e := ih k (i + 1) (by omega) (by omega)
  rw [show ((i : Int) + 1) = ((i + 1 : Nat) : Int) from by omega, e]
  unfold isPrt
  by_cases h1 : bt s (i : Int) < 32
  ·rw [if_pos h1]; have : ¬ 32 ≤ bt s (i : Int) := by omega
   simp [this]
  ·rw [if_neg h1]; have h1' : 32 ≤ bt s (i : Int) := by omega
   by_cases h2 : bt s (i : Int) > 126
   ·rw [if_pos h2]; have : ¬ bt s (i : Int) ≤ 126 := by omega
    simp [this]
   ·rw [if_neg h2]; have h2' : bt s (i : Int) ≤ 126 := by omega
    simp [h1', h2']

theorem spec_Printable_ev (s : ByteArray) (hs : s.size ≤ 140737488355328) : Ev (fun k => spec_Printable.f k s) (printable s) := evFrom (s.size + 1) fun k hk => spec_Printable_l0 s hs s.size k 0 (by omega) (by omega)

theorem impl_Printable_ev (s : ByteArray) (hs : s.size ≤ 140737488355328) : Ev (fun k => impl_Printable.f k s) (printable s) := evFrom (s.size + 1) fun k hk => impl_Printable_l0 s hs s.size k 0 (by omega) (by omega)

theorem getD_at {α : Type} (z : α) (xs : List α) (i : Nat) (h : i < xs.length) : xs.getD (i : Int).toNat z = xs[i] := by
 rw [Int.toNat_natCast, List.getD_eq_getElem?_getD, List.getElem?_eq_getElem h]; rfl

theorem rd_at (xs : List Int) (i : Nat) (h : i < xs.length) : rd xs (i : Int) = xs[i] := by unfold rd; exact getD_at _ xs i h

theorem take_set {α : Type} (ys : List α) (i : Nat) (v : α) (h : i < ys.length) : (ys.set i v).take (i + 1) = ys.take i ++ [v] := by
 rw [List.take_succ_eq_append_getElem (by rw [List.length_set]; exact h), List.take_set_of_le (Nat.le_refl _), List.getElem_set_self]

/-! ### The table of fields, at every number -/

def fKind (no : Int) : Int := if no = 2 then 3 else if no = 3 then 1 else if no = 4 then 1 else if no = 7 then 1 else if no = 11 then 1 else if no = 14 then 1 else if no = 37 then 2 else if no = 38 then 2 else if no = 39 then 2 else if no = 41 then 2 else if no = 48 then 5 else if no = 49 then 1 else if no = 54 then 5 else if no = 95 then 2 else if no = 102 then 4 else if no = 103 then 4 else 0

def fSize (no : Int) : Int := if no = 2 then 19 else if no = 3 then 6 else if no = 4 then 12 else if no = 7 then 10 else if no = 11 then 6 else if no = 14 then 4 else if no = 37 then 12 else if no = 38 then 6 else if no = 39 then 2 else if no = 41 then 8 else if no = 48 then 60 else if no = 49 then 3 else if no = 54 then 60 else if no = 95 then 12 else if no = 102 then 20 else if no = 103 then 20 else 0

theorem f_cases (no : Int) : no = 2 ∨ no = 3 ∨ no = 4 ∨ no = 7 ∨ no = 11 ∨ no = 14 ∨ no = 37 ∨ no = 38 ∨ no = 39 ∨ no = 41 ∨ no = 48 ∨ no = 49 ∨ no = 54 ∨ no = 95 ∨ no = 102 ∨ no = 103 ∨ (no ≠ 2 ∧ no ≠ 3 ∧ no ≠ 4 ∧ no ≠ 7 ∧ no ≠ 11 ∧ no ≠ 14 ∧ no ≠ 37 ∧ no ≠ 38 ∧ no ≠ 39 ∧ no ≠ 41 ∧ no ≠ 48 ∧ no ≠ 49 ∧ no ≠ 54 ∧ no ≠ 95 ∧ no ≠ 102 ∧ no ≠ 103) := by omega

theorem spec_FieldKind_ev (no : Int) : Ev (fun k => spec_FieldKind.f k no) (fKind no) := evFrom 4 fun k hk => by
 obtain ⟨m, rfl⟩ : ∃ m, k = m + 4 := ⟨k - 4, by omega⟩
 clear hk
 rcases f_cases no with rfl|rfl|rfl|rfl|rfl|rfl|rfl|rfl|rfl|rfl|rfl|rfl|rfl|rfl|rfl|rfl|⟨h2, h3, h4, h7, h11, h14, h37, h38, h39, h41, h48, h49, h54, h95, h102, h103⟩
 all_goals first | rfl | simp [spec_FieldKind.f, spec_FieldKind.j0, spec_FieldKind.j1, spec_FieldKind.j2, fKind, *]

theorem spec_FieldSize_ev (no : Int) : Ev (fun k => spec_FieldSize.f k no) (fSize no) := evFrom 4 fun k hk => by
 obtain ⟨m, rfl⟩ : ∃ m, k = m + 4 := ⟨k - 4, by omega⟩
 clear hk
 rcases f_cases no with rfl|rfl|rfl|rfl|rfl|rfl|rfl|rfl|rfl|rfl|rfl|rfl|rfl|rfl|rfl|rfl|⟨h2, h3, h4, h7, h11, h14, h37, h38, h39, h41, h48, h49, h54, h95, h102, h103⟩
 all_goals first | rfl | simp [spec_FieldSize.f, spec_FieldSize.j0, spec_FieldSize.j1, spec_FieldSize.j2, fSize, *]

def rowsF : List S144 := [⟨2, 3, 19⟩, ⟨3, 1, 6⟩, ⟨4, 1, 12⟩, ⟨7, 1, 10⟩, ⟨11, 1, 6⟩, ⟨14, 1, 4⟩, ⟨37, 2, 12⟩, ⟨38, 2, 6⟩, ⟨39, 2, 2⟩, ⟨41, 2, 8⟩, ⟨48, 5, 60⟩, ⟨49, 1, 3⟩, ⟨54, 5, 60⟩, ⟨95, 2, 12⟩, ⟨102, 4, 20⟩, ⟨103, 4, 20⟩]

theorem rowsF_len : rowsF.length = 16 := rfl

theorem rdF (i : Nat) (h : i < rowsF.length) : rd_T144 rowsF (i : Int) = rowsF[i] := by unfold rd_T144; exact getD_at _ rowsF i h

def rowIn (no : Int) : List S144 → Int × Int × Int
 | [] => (0, 0, 0)
 | r :: l => if r.f0 = no then (r.f0, r.f1, r.f2) else rowIn no l

theorem rowOf_l0 (no : Int) (d : Nat) : ∀ i : Nat, i + d = 16 → Ev (fun k => impl_rowOf.l0 k no rowsF 16 (i : Int)) (rowIn no (rowsF.drop i)) := by
 induction d with
 | zero =>
  intro i hi
  refine evS ?_
  simp only [impl_rowOf.l0]
  rw [List.drop_eq_nil_of_le (by rw [rowsF_len]; omega)]
  exact evN (by omega) (evC rfl)
 | succ d ih =>
  intro i hi
  have hlt : i < rowsF.length := by rw [rowsF_len]; omega
  have e := ih (i + 1) (by omega)
  refine evS ?_
  simp only [impl_rowOf.l0, rdF i hlt]
  rw [w_id (x := (i : Int) + 1) (by omega) (by omega), List.drop_eq_getElem_cons hlt, rowIn]
  refine evP (by omega) (evP (by omega) (evP (by omega) ?_))
  by_cases c : rowsF[i].f0 = no
  ·rw [if_pos c]; exact evP c (evC rfl)
  ·rw [if_neg c]; exact evN c e

def fRow (no : Int) : Int × Int × Int := if fKind no = 0 then (0, 0, 0) else (no, fKind no, fSize no)

theorem rowIn_all (no : Int) : rowIn no rowsF = fRow no := by
 rcases f_cases no with rfl|rfl|rfl|rfl|rfl|rfl|rfl|rfl|rfl|rfl|rfl|rfl|rfl|rfl|rfl|rfl|⟨h2, h3, h4, h7, h11, h14, h37, h38, h39, h41, h48, h49, h54, h95, h102, h103⟩
 all_goals first | rfl | skip
 have e : fKind no = 0 := by simp [fKind, *]
 unfold fRow rowsF
 rw [if_pos e]
 simp [rowIn, Ne.symm, *]

theorem rowOf_ev (no : Int) : Ev (fun k => impl_rowOf.f k no) (fRow no) := by
 unfold impl_rowOf.f
 refine evK (a := rowsF) rfl ?_
 have e := rowOf_l0 no 16 0 (by omega)
 rw [List.drop_zero, rowIn_all] at e
 exact e

theorem fRow_kind (no : Int) : (fRow no).2.1 = fKind no := by unfold fRow; split <;> simp [*]

theorem fSize_none (no : Int) (h : fKind no = 0) : fSize no = 0 := by
 rcases f_cases no with rfl|rfl|rfl|rfl|rfl|rfl|rfl|rfl|rfl|rfl|rfl|rfl|rfl|rfl|rfl|rfl|⟨h2, h3, h4, h7, h11, h14, h37, h38, h39, h41, h48, h49, h54, h95, h102, h103⟩
 all_goals first | (exact absurd h (by decide)) | simp [fSize, *]

theorem fRow_size (no : Int) : (fRow no).2.2 = fSize no := by
 unfold fRow
 split
 ·rename_i h; rw [fSize_none no h]
 ·rfl

theorem fKind_range (no : Int) : 0 ≤ fKind no ∧ fKind no ≤ 5 := by
 rcases f_cases no with rfl|rfl|rfl|rfl|rfl|rfl|rfl|rfl|rfl|rfl|rfl|rfl|rfl|rfl|rfl|rfl|⟨h2, h3, h4, h7, h11, h14, h37, h38, h39, h41, h48, h49, h54, h95, h102, h103⟩
 all_goals first | decide | simp [fKind, *]

theorem fSize_range (no : Int) : 0 ≤ fSize no ∧ fSize no ≤ 60 := by
 rcases f_cases no with rfl|rfl|rfl|rfl|rfl|rfl|rfl|rfl|rfl|rfl|rfl|rfl|rfl|rfl|rfl|rfl|⟨h2, h3, h4, h7, h11, h14, h37, h38, h39, h41, h48, h49, h54, h95, h102, h103⟩
 all_goals first | decide | simp [fSize, *]

theorem impl_FieldKind_ev (no : Int) : Ev (fun k => impl_FieldKind.f k no) (fKind no) := by
 unfold impl_FieldKind.f
 refine evB (rowOf_ev no) (evC ?_)
 rw [fRow_kind]

theorem impl_FieldSize_ev (no : Int) : Ev (fun k => impl_FieldSize.f k no) (fSize no) := by
 unfold impl_FieldSize.f
 refine evB (rowOf_ev no) (evC ?_)
 rw [fRow_size]

def fOk (no : Int) (s : ByteArray) : Bool :=
 if fKind no = 1 then digits s && ((s.size : Int) == fSize no)
 else if fKind no = 2 then printable s && ((s.size : Int) == fSize no)
 else if fKind no = 3 then digits s && decide ((s.size : Int) ≤ fSize no)
 else if fKind no = 0 then false
 else printable s && (decide (1 ≤ (s.size : Int)) && decide ((s.size : Int) ≤ fSize no))

theorem ev_and {f : Nat → Option Bool} {a b : Bool} (hf : a = true → Ev f b) : Ev (fun k => if a = true then f k else some false) (a && b) := by
 cases a
 ·exact evN (by decide) (evC rfl)
 ·exact evP rfl (hf rfl)

theorem digits_pos (s : ByteArray) (h : digits s = true) : 1 ≤ s.size := by
 unfold digits at h
 simp only [Bool.and_eq_true, decide_eq_true_eq] at h
 exact h.2

theorem impl_FieldOk_ev (no : Int) (s : ByteArray) (hs : s.size ≤ 140737488355328) : Ev (fun k => impl_FieldOk.f k no s) (fOk no s) := by
 have D := impl_Digits_ev s hs
 have Pr := impl_Printable_ev s hs
 unfold impl_FieldOk.f fOk
 refine evB (rowOf_ev no) ?_
 rw [fRow_kind, fRow_size]
 by_cases c1 : fKind no = 1
 ·rw [if_pos c1]; exact evP c1 (evB D (ev_and fun _ => evC rfl))
 rw [if_neg c1]; refine evN c1 ?_
 by_cases c2 : fKind no = 2
 ·rw [if_pos c2]; exact evP c2 (evB Pr (ev_and fun _ => evC rfl))
 rw [if_neg c2]; refine evN c2 ?_
 by_cases c3 : fKind no = 3
 ·rw [if_pos c3]
  refine evP c3 (evB D (ev_and fun h => evK (within_f _ _ _) (evC ?_)))
  have := digits_pos s h
  rw [show decide (1 ≤ (s.size : Int)) = true from by simp; omega, Bool.true_and]
 rw [if_neg c3]; refine evN c3 ?_
 have r := fKind_range no
 have yes : Ev (fun k => impl_FieldOk.j0 k s true (fRow no).1 (fKind no) (fSize no)) (printable s && (decide (1 ≤ (s.size : Int)) && decide ((s.size : Int) ≤ fSize no))) := by
  refine evS ?_
  simp only [impl_FieldOk.j0]
  exact evP trivial (evB Pr (ev_and fun _ => evK (within_f _ _ _) (evC rfl)))
 by_cases c4 : fKind no = 4
 ·rw [if_neg (by omega)]
  have e : (fKind no == 4) = true := by rw [c4]; rfl
  rw [e]; exact evP c4 yes
 refine evN c4 ?_
 by_cases c0 : fKind no = 0
 ·rw [if_pos c0]
  have e : (fKind no == 5) = false := by rw [c0]; rfl
  rw [e]
  refine evS ?_
  simp only [impl_FieldOk.j0]
  exact evN (by decide) (evC rfl)
 ·rw [if_neg c0]
  have e : (fKind no == 5) = true := by rw [show fKind no = 5 by omega]; rfl
  rw [e]; exact yes

/-! ### Numbers as texts -/

/-! ### Numbers out of digits -/

def numL (a : Nat) (l : List UInt8) : Nat := l.foldl (fun a b => a * 10 + (b.toNat - 48)) a

def numT (s : ByteArray) : Nat := numL 0 s.data.toList

theorem digits_list (s : ByteArray) (h : digits s = true) : (∀ b ∈ s.data.toList, 48 ≤ b.toNat ∧ b.toNat ≤ 57) ∧ 1 ≤ s.size := by
 unfold digits at h
 simp only [Bool.and_eq_true, decide_eq_true_eq] at h
 refine ⟨fun b hb => ?_, h.2⟩
 have := (allFrom_iff isDig s).1 h.1 b hb
 unfold isDig at this
 simp only [Bool.and_eq_true, decide_eq_true_eq] at this
 omega

theorem decFrom_num : ∀ (l : List UInt8) (a : Nat), (∀ b ∈ l, 48 ≤ b.toNat ∧ b.toNat ≤ 57) → Lib.decFrom a l = some (numL a l)
 | [], a, _ => rfl
 | b :: l, a, h => by
  have hb := h b List.mem_cons_self
  unfold Lib.decFrom Lib.digitVal
  rw [if_pos hb]
  exact decFrom_num l _ fun x hx => h x (List.mem_cons_of_mem _ hx)

theorem numL_lt : ∀ (l : List UInt8) (a n : Nat), (∀ b ∈ l, 48 ≤ b.toNat ∧ b.toNat ≤ 57) → a < 10 ^ n → numL a l < 10 ^ (n + l.length)
 | [], a, n, _, h => h
 | b :: l, a, n, hl, h => by
  have hb := hl b List.mem_cons_self
  have e := numL_lt l (a * 10 + (b.toNat - 48)) (n + 1) (fun x hx => hl x (List.mem_cons_of_mem _ hx)) (by rw [Nat.pow_succ]; omega)
  rw [List.length_cons, show n + (l.length + 1) = n + 1 + l.length by omega]
  exact e

theorem numL_take (l : List UInt8) (i : Nat) (h : i < l.length) : numL 0 (l.take (i + 1)) = numL 0 (l.take i) * 10 + (l[i].toNat - 48) := by
 unfold numL
 rw [List.take_succ_eq_append_getElem h, List.foldl_append]
 rfl

theorem atoi_num (s : ByteArray) (h : digits s = true) : Lib.atoi s.data.toList = some ((numT s : Nat) : Int) := by
 have hd := digits_list s h
 have h1 : 1 ≤ s.data.toList.length := by simpa using hd.2
 unfold numT
 cases e : s.data.toList with
 | nil => rw [e] at h1; exact absurd h1 (by simp)
 | cons b r =>
  rw [e] at hd
  have hb := hd.1 b List.mem_cons_self
  have n1 : (b == 45) = false := by
   apply Bool.eq_false_iff.mpr
   intro c
   rw [eq_of_beq c] at hb
   exact absurd hb (by decide)
  have n2 : (b == 43) = false := by
   apply Bool.eq_false_iff.mpr
   intro c
   rw [eq_of_beq c] at hb
   exact absurd hb (by decide)
  unfold Lib.atoi
  simp only [n1, n2, Bool.false_eq_true, if_false]
  unfold Lib.decNat
  rw [decFrom_num _ _ hd.1]
  rfl

def narrowR (s : ByteArray) : Int × Bool := if digits s = true ∧ s.size ≤ 18 then (((numT s : Nat) : Int), true) else (0, false)

theorem spec_Narrow_l0 (s : ByteArray) (hd : digits s = true) (h18 : s.size ≤ 18) (d : Nat) : ∀ i : Nat, i + d = s.size → Ev (fun k => spec_Narrow.l0 k s ((numL 0 (s.data.toList.take i) : Nat) : Int) (i : Int)) (((numT s : Nat) : Int), true) := by
 have hl : s.data.toList.length = s.size := by simp
 have hg := (digits_list s hd).1
 induction d with
 | zero =>
  intro i hi
  refine evS ?_
  simp only [spec_Narrow.l0]
  rw [List.take_of_length_le (by omega)]
  exact evN (by omega) (evC rfl)
 | succ d ih =>
  intro i hi
  have hlt : i < s.data.toList.length := by omega
  have hb := hg _ (List.getElem_mem hlt)
  have e := ih (i + 1) (by omega)
  rw [numL_take _ _ hlt] at e
  have hn := numL_lt (s.data.toList.take i) 0 0 (fun b hb => hg b (List.mem_of_mem_take hb)) (by decide)
  have hp : 10 ^ (0 + (s.data.toList.take i).length) ≤ 10 ^ 17 := Nat.pow_le_pow_right (by decide) (by rw [List.length_take]; omega)
  have hp2 : (10 : Nat) ^ 17 = 100000000000000000 := by decide
  refine evS ?_
  simp only [spec_Narrow.l0, bt_nat s i hlt]
  generalize numL 0 (s.data.toList.take i) = n at e hn ⊢
  generalize s.data.toList[i] = b at e hb ⊢
  have w1 : wrap64 ((n : Int) * 10) = (n : Int) * 10 := w_id (by omega) (by omega)
  have w2 : wrap64 (b.toNat : Int) = (b.toNat : Int) := w_id (by omega) (by omega)
  have w3 : wrap64 ((n : Int) * 10 + (b.toNat : Int)) = (n : Int) * 10 + (b.toNat : Int) := w_id (by omega) (by omega)
  have w4 : wrap64 ((n : Int) * 10 + (b.toNat : Int) - 48) = ((n * 10 + (b.toNat - 48) : Nat) : Int) := by rw [w_id (by omega) (by omega)]; omega
  rw [w1, w2, w3, w4, w_id (x := (i : Int) + 1) (by omega) (by omega)]
  exact evP (by omega) (evP (by omega) e)

theorem narrow_ok (s : ByteArray) (hd : digits s = true) (h18 : s.size ≤ 18) : narrowR s = (((numT s : Nat) : Int), true) := by unfold narrowR; rw [if_pos ⟨hd, h18⟩]

theorem narrow_nil : narrowR (⟨#[]⟩ : ByteArray) = (0, false) := by unfold narrowR; rw [if_neg]; intro h; exact absurd h.1 (by decide +kernel)

theorem narrow_no (s : ByteArray) (h : ¬ (digits s = true ∧ s.size ≤ 18)) : narrowR s = (0, false) := by unfold narrowR; rw [if_neg h]

theorem spec_Narrow_ev (s : ByteArray) (hs : s.size ≤ 140737488355328) : Ev (fun k => spec_Narrow.f k s) (narrowR s) := by
 have no : Ev (fun k => spec_Narrow.j0 k s true) ((0 : Int), false) := by
  refine evS ?_
  simp only [spec_Narrow.j0]
  exact evP trivial (evC rfl)
 unfold spec_Narrow.f
 refine evB (spec_Digits_ev s hs) ?_
 by_cases hd : digits s = true
 ·refine evP hd ?_
  by_cases h18 : s.size ≤ 18
  ·rw [narrow_ok s hd h18, show decide ((s.size : Int) > 18) = false from by simp; omega]
   refine evS ?_
   simp only [spec_Narrow.j0]
   exact evN (by decide) (spec_Narrow_l0 s hd h18 s.size 0 (by omega))
  ·rw [narrow_no s (fun h => h18 h.2), show decide ((s.size : Int) > 18) = true from by simp; omega]
   exact no
 ·rw [narrow_no s (fun h => hd h.1)]
  exact evN hd no

theorem impl_Narrow_ev (s : ByteArray) (hs : s.size ≤ 140737488355328) : Ev (fun k => impl_Narrow.f k s) (narrowR s) := by
 unfold impl_Narrow.f
 refine evB (impl_Digits_ev s hs) ?_
 by_cases hd : digits s = true
 ·refine evP hd ?_
  by_cases h18 : s.size ≤ 18
  ·rw [narrow_ok s hd h18]
   refine evN (by omega) (evK (a := (((numT s : Nat) : Int), none)) ?_ (evC rfl))
   unfold strconv_Atoi_27.f
   rw [if_pos h18, atoi_num s hd]; rfl
  ·rw [narrow_no s (fun h => h18 h.2)]
   exact evP (by omega) (evC rfl)
 ·rw [narrow_no s (fun h => hd h.1)]
  exact evN hd (evC rfl)

theorem numT_lt (s : ByteArray) (hd : digits s = true) (n : Nat) (h : s.size ≤ n) : numT s < 10 ^ n := by
 have e := numL_lt s.data.toList 0 0 (digits_list s hd).1 (by decide)
 have hl : s.data.toList.length = s.size := by simp
 exact Nat.lt_of_lt_of_le e (Nat.pow_le_pow_right (by decide) (by omega))

/-! ### Packed digits -/

def okB (b : List Int) : Prop := ∀ x ∈ b, 0 ≤ x ∧ x ≤ 255

theorem okB_at {b : List Int} (h : okB b) (i : Nat) (hi : i < b.length) : 0 ≤ b[i] ∧ b[i] ≤ 255 := h _ (List.getElem_mem hi)

theorem son_app (xs ys : List Int) : strOfNums (xs ++ ys) = strOfNums xs ++ strOfNums ys := by
 unfold strOfNums
 rw [List.map_append]
 exact (mk_append _ _).symm

theorem son_bt (xs : List Int) (h : okB xs) (i : Nat) (hi : i < xs.length) : bt (strOfNums xs) (i : Int) = xs[i] := by
 have hi' : i < (strOfNums xs).data.toList.length := by rw [strOfNums_data, List.length_map]; exact hi
 rw [bt_nat _ i hi']
 have e : (strOfNums xs).data.toList[i] = UInt8.ofNat (xs[i]).toNat := by
  simp only [strOfNums_data, List.getElem_map]
 have r := okB_at h i hi
 rw [e, UInt8.toNat_ofNat_of_lt' (by show (xs[i]).toNat < 256; omega)]
 omega

theorem son_drop (xs : List Int) (a : Nat) : (strOfNums xs).extract a (strOfNums xs).size = strOfNums (xs.drop a) := by
 apply ba_eq
 rw [tl_eq, tl_eq, strOfNums_data]
 have e : ((strOfNums xs).extract a (strOfNums xs).size).data.toList = ((strOfNums xs).data.toList.take (strOfNums xs).size).drop a := by
  rw [ByteArray.data_extract, Array.toList_extract]
  simp [List.extract_eq_take_drop, List.drop_take]
 rw [e, strOfNums_data, strOfNums_size, List.take_of_length_le (by rw [List.length_map]; exact Nat.le_refl _), List.map_drop]

def nibL (x : Int) : List Int := [48 + x / 16, 48 + x % 16]

def digs (xs : List Int) : List Int := xs.flatMap nibL

theorem digs_len (xs : List Int) : (digs xs).length = 2 * xs.length := by
 unfold digs
 induction xs with
 | nil => rfl
 | cons x l ih => rw [List.flatMap_cons, List.length_append, ih]; show 2 + 2 * l.length = 2 * (l.length + 1); omega

theorem digs_cons (x : Int) (l : List Int) : digs (x :: l) = nibL x ++ digs l := by unfold digs; rw [List.flatMap_cons]

def bcdT (D : List Int) (n e : Int) : ByteArray × Int × Bool :=
 if n % 2 = 1 then (if rd D 0 = 48 then (if digits (strOfNums (D.drop 1)) = true then (strOfNums (D.drop 1), e, true) else (⟨#[]⟩, 0, false)) else (⟨#[]⟩, 0, false))
 else (if digits (strOfNums D) = true then (strOfNums D, e, true) else (⟨#[]⟩, 0, false))

def bcdR (b : List Int) (at_ n : Int) : ByteArray × Int × Bool :=
 if 1 ≤ n ∧ n ≤ 38 ∧ 0 ≤ at_ ∧ at_ ≤ (b.length : Int) ∧ (n + 1) / 2 ≤ (b.length : Int) - at_ then
  bcdT (digs ((b.drop at_.toNat).take ((n + 1) / 2).toNat)) n (at_ + (n + 1) / 2)
 else (⟨#[]⟩, 0, false)

theorem spec_GetBcd_end (b : List Int) (at_ n : Int) (D : List Int) (hn : 1 ≤ n ∧ n ≤ 38) (ha : 0 ≤ at_ ∧ at_ ≤ 1048576) (hD : okB D) (hl : (D.length : Int) = 2 * ((n + 1) / 2)) (i : Int) (hi : ¬ i < at_ + (n + 1) / 2) : Ev (fun k => spec_GetBcd.l0 k b at_ n (strOfNums D) i) (bcdT D n (at_ + (n + 1) / 2)) := by
 have eh : wrap64 (Int.tdiv (wrap64 (n + 1)) 2) = (n + 1) / 2 := by
  rw [w_id (x := n + 1) (by omega) (by omega), Int.tdiv_eq_ediv_of_nonneg (by omega), w_id (by omega) (by omega)]
 have em : Int.tmod n 2 = n % 2 := Int.tmod_eq_emod_of_nonneg (by omega)
 have hs := strOfNums_size D
 unfold bcdT
 refine evS ?_
 simp only [spec_GetBcd.l0, eh, em]
 rw [w_id (x := at_ + (n + 1) / 2) (by omega) (by omega)]
 refine evN hi ?_
 by_cases o : n % 2 = 1
 ·rw [if_pos o]
  have h0 : 0 < D.length := by omega
  have eb : bt (strOfNums D) 0 = rd D 0 := by
   have := son_bt D hD 0 h0
   have r := rd_at D 0 h0
   rw [show ((0 : Nat) : Int) = 0 from rfl] at this r
   rw [this, r]
  refine evP o (evP (by rw [hs]; omega) ?_)
  rw [eb]
  by_cases z : rd D 0 = 48
  ·rw [if_pos z]
   refine evP z (evP (by rw [hs]; omega) ?_)
   rw [son_drop]
   refine evB (spec_Digits_ev _ (by rw [strOfNums_size, List.length_drop]; omega)) ?_
   cases digits (strOfNums (D.drop 1))
   ·exact evN (by decide) (evC rfl)
   ·exact evP rfl (evC rfl)
  ·rw [if_neg z]; exact evN z (evC rfl)
 ·rw [if_neg o]
  refine evN o (evB (spec_Digits_ev _ (by rw [hs]; omega)) ?_)
  cases digits (strOfNums D)
  ·exact evN (by decide) (evC rfl)
  ·exact evP rfl (evC rfl)

theorem spec_GetBcd_l0 (b : List Int) (hb : okB b) (hbl : b.length ≤ 1048576) (at_ n : Int) (hn : 1 ≤ n ∧ n ≤ 38) (ha : 0 ≤ at_) (hf : at_ + (n + 1) / 2 ≤ (b.length : Int)) (d : Nat) : ∀ (i : Nat) (D : List Int), (i : Int) + d = at_ + (n + 1) / 2 → okB D → (D.length : Int) = 2 * ((i : Int) - at_) → at_ ≤ (i : Int) →
  Ev (fun k => spec_GetBcd.l0 k b at_ n (strOfNums D) (i : Int)) (bcdT (D ++ digs ((b.drop i).take d)) n (at_ + (n + 1) / 2)) := by
 induction d with
 | zero =>
  intro i D hi hD hl hai
  rw [List.take_zero]
  show Ev _ (bcdT (D ++ []) n _)
  rw [List.append_nil]
  exact spec_GetBcd_end b at_ n D hn (by omega) hD (by omega) _ (by omega)
 | succ d ih =>
  intro i D hi hD hl hai
  have hlt : i < b.length := by omega
  have r := okB_at hb i hlt
  have eh : wrap64 (Int.tdiv (wrap64 (n + 1)) 2) = (n + 1) / 2 := by
   rw [w_id (x := n + 1) (by omega) (by omega), Int.tdiv_eq_ediv_of_nonneg (by omega), w_id (by omega) (by omega)]
  have e1 : wrap64 (48 + wrap64 (Int.tdiv (wrap64 b[i]) 16)) % 256 = 48 + b[i] / 16 := by
   rw [w_id (x := b[i]) (by omega) (by omega), Int.tdiv_eq_ediv_of_nonneg r.1, w_id (x := b[i] / 16) (by omega) (by omega), w_id (by omega) (by omega)]; omega
  have e2 : wrap64 (48 + Int.tmod (wrap64 b[i]) 16) % 256 = 48 + b[i] % 16 := by
   rw [w_id (x := b[i]) (by omega) (by omega), Int.tmod_eq_emod_of_nonneg r.1, w_id (by omega) (by omega)]; omega
  have hs := strOfNums_size D
  have e := ih (i + 1) (D ++ nibL b[i]) (by omega) (by
   intro x hx
   rcases List.mem_append.1 hx with hx | hx
   ·exact hD x hx
   ·unfold nibL at hx
    simp only [List.mem_cons, List.not_mem_nil, or_false] at hx
    rcases hx with rfl | rfl <;> omega) (by rw [List.length_append]; show ((D.length + 2 : Nat) : Int) = _; omega) (by omega)
  rw [List.append_assoc, ← digs_cons, ← List.take_succ_cons, ← List.drop_eq_getElem_cons hlt, son_app] at e
  refine evS ?_
  simp only [spec_GetBcd.l0, eh, rd_at b i hlt, Option.bind_some, e1, e2]
  rw [w_id (x := at_ + (n + 1) / 2) (by omega) (by omega), w_id (x := (i : Int) + 1) (by omega) (by omega)]
  refine evP (by omega) (evP (by omega) (evP (by omega) (evP ?_ e)))
  rw [hs, strOfNums_size]; show D.length + 2 ≤ _; omega

theorem spec_GetBcd_ev (b : List Int) (hb : okB b) (hbl : b.length ≤ 1048576) (at_ n : Int) (h0 : -9000000000000000000 ≤ at_) (h1 : at_ ≤ 9000000000000000000) : Ev (fun k => spec_GetBcd.f k b at_ n) (bcdR b at_ n) := by
 have no : Ev (fun k => spec_GetBcd.j0 k b at_ n true) ((⟨#[]⟩ : ByteArray), 0, false) := by
  refine evS ?_
  simp only [spec_GetBcd.j0]
  exact evP trivial (evC rfl)
 unfold spec_GetBcd.f bcdR
 by_cases c1 : n < 1
 ·rw [if_neg (by omega)]; exact evP c1 no
 refine evN c1 ?_
 by_cases c2 : n > 38
 ·rw [if_neg (by omega)]; exact evP c2 no
 refine evN c2 ?_
 by_cases c3 : at_ < 0
 ·rw [if_neg (by omega)]; exact evP c3 no
 refine evN c3 ?_
 by_cases c4 : at_ > (b.length : Int)
 ·rw [if_neg (by omega)]; exact evP c4 no
 refine evN c4 (evS ?_)
 have eh : wrap64 (Int.tdiv (wrap64 (n + 1)) 2) = (n + 1) / 2 := by
  rw [w_id (x := n + 1) (by omega) (by omega), Int.tdiv_eq_ediv_of_nonneg (by omega), w_id (by omega) (by omega)]
 simp only [spec_GetBcd.j0, eh]
 rw [w_id (x := (b.length : Int) - at_) (by omega) (by omega)]
 by_cases c5 : (n + 1) / 2 > (b.length : Int) - at_
 ·rw [if_neg (by omega)]; exact evP (by simpa using c5) (evC rfl)
 ·rw [if_pos (by omega)]
  obtain ⟨a, rfl⟩ : ∃ a : Nat, at_ = (a : Int) := ⟨at_.toNat, by omega⟩
  have e := spec_GetBcd_l0 b hb hbl (a : Int) n ⟨by omega, by omega⟩ (by omega) (by omega) ((n + 1) / 2).toNat a [] (by omega) (by intro x hx; cases hx) (by simp) (by omega)
  rw [Int.toNat_natCast]
  exact evN (by simpa using c5) e

theorem piece_f (b : List Int) (hbl : b.length ≤ 1048576) (at_ n : Int) (h0 : -9000000000000000000 ≤ at_) (h1 : at_ ≤ 9000000000000000000) (hn : n ≤ 9000000000000000000) : impl_piece.f b at_ n = if 0 ≤ at_ ∧ at_ ≤ (b.length : Int) ∧ 0 ≤ n ∧ n ≤ (b.length : Int) - at_ then some ((b.drop at_.toNat).take n.toNat, true) else some ([], false) := by
 unfold impl_piece.f
 rw [within_f, Option.bind_some]
 by_cases c : 0 ≤ at_ ∧ at_ ≤ (b.length : Int)
 ·rw [if_pos (by simpa using c)]
  by_cases c2 : n < 0
  ·rw [if_pos c2, if_neg (by omega)]
  ·rw [if_neg c2, w_id (x := (b.length : Int) - at_) (by omega) (by omega)]
   by_cases c3 : n > (b.length : Int) - at_
   ·rw [if_pos c3, if_neg (by omega)]
   ·rw [if_neg c3, w_id (x := at_ + n) (by omega) (by omega), if_pos c.1, if_pos (by omega), if_pos (by omega), if_pos (by omega)]
    rw [List.drop_take, show (at_ + n).toNat - at_.toNat = n.toNat from by omega]
 ·rw [if_neg (by simpa using c), if_neg (fun h => c ⟨h.1, h.2.1⟩)]

theorem digits_0 (t : List Int) (h : 0 < t.length) : digits (strOfNums (48 :: t)) = digits (strOfNums t) := by
 have e : ∀ (xs : List Int), 0 < xs.length → (digits (strOfNums xs) = true ↔ ∀ b ∈ xs.map (fun n => UInt8.ofNat n.toNat), isDig (b.toNat : Int) = true) := by
  intro xs hx
  unfold digits
  rw [Bool.and_eq_true, allFrom_iff, strOfNums_data, strOfNums_size]
  simp [hx]
 rw [Bool.eq_iff_iff, e _ (by simp), e t h, List.map_cons]
 constructor
 ·intro hh b hb; exact hh b (List.mem_cons_of_mem _ hb)
 ·intro hh b hb
  rcases List.mem_cons.1 hb with rfl | hb
  ·decide
  ·exact hh b hb

theorem impl_GetBcd_end (n : Int) (at_ : Int) (own D own2 : List Int) (ok : Bool) (hn : 1 ≤ n ∧ n ≤ 38) (hD : okB D) (i m : Int) (hi : ¬ i < m) (hok : ok = true) (hl : (D.length : Int) = 2 * ((n + 1) / 2)) (ho : (own.length : Int) = (n + 1) / 2) (ha : 0 ≤ at_ ∧ at_ ≤ 1048576) :
  Ev (fun k => impl_GetBcd.l0 k at_ n own ok D own2 m i) (bcdT D n (at_ + (n + 1) / 2)) := by
 have em : Int.tmod n 2 = n % 2 := Int.tmod_eq_emod_of_nonneg (by omega)
 have hs := strOfNums_size D
 have w1 : wrap64 ((D.length : Int) - n) = (D.length : Int) - n := w_id (by omega) (by omega)
 have w2 : wrap64 (at_ + (own.length : Int)) = at_ + (n + 1) / 2 := by rw [w_id (by omega) (by omega), ho]
 have eD := impl_Digits_ev (strOfNums D) (by rw [hs]; omega)
 refine evS ?_
 simp only [impl_GetBcd.l0, em, w1, w2]
 refine evN hi (evP hok (evB eD ?_))
 by_cases o : n % 2 = 1
 ·have h1 : ((D.length : Int) - n).toNat = 1 := by omega
  simp only [h1]
  by_cases z : rd D 0 = 48
  ·have eDD : D = 48 :: D.drop 1 := by
    cases D with
    | nil => simp at hl; omega
    | cons x l =>
     have : x = 48 := z
     rw [this]; rfl
   have hd : digits (strOfNums D) = digits (strOfNums (D.drop 1)) := by
    have := digits_0 (D.drop 1) (by rw [List.length_drop]; omega)
    rw [← eDD] at this
    exact this
   cases c : digits (strOfNums D) with
   | false =>
    have eR : bcdT D n (at_ + (n + 1) / 2) = (⟨#[]⟩, 0, false) := by unfold bcdT; rw [if_pos o, if_pos z, ← hd, c]; simp
    rw [eR]
    exact evN (by decide) (evC rfl)
   | true =>
    have eR : bcdT D n (at_ + (n + 1) / 2) = (strOfNums (D.drop 1), at_ + (n + 1) / 2, true) := by unfold bcdT; rw [if_pos o, if_pos z, ← hd, c]; simp
    rw [eR]
    exact evP rfl (evP o (evP (by omega) (evP z (evP (by omega) (evP (by omega) (evC rfl))))))
  ·have eR : bcdT D n (at_ + (n + 1) / 2) = (⟨#[]⟩, 0, false) := by unfold bcdT; simp [o, z]
   rw [eR]
   cases digits (strOfNums D)
   ·exact evN (by decide) (evC rfl)
   ·exact evP rfl (evP o (evP (by omega) (evN z (evC rfl))))
 ·have h1 : ((D.length : Int) - n).toNat = 0 := by omega
  simp only [h1, List.drop_zero]
  cases c : digits (strOfNums D) with
  | false =>
   have eR : bcdT D n (at_ + (n + 1) / 2) = (⟨#[]⟩, 0, false) := by unfold bcdT; simp [o, c]
   rw [eR]
   exact evN (by decide) (evC rfl)
  | true =>
   have eR : bcdT D n (at_ + (n + 1) / 2) = (strOfNums D, at_ + (n + 1) / 2, true) := by unfold bcdT; simp [o, c]
   rw [eR]
   exact evP rfl (evN o (evP (by omega) (evP (by omega) (evC rfl))))

theorem impl_GetBcd_l0 (own : List Int) (hb : okB own) (hol : own.length ≤ 100) (at_ n : Int) (hn : 1 ≤ n ∧ n ≤ 38) (ho : (own.length : Int) = (n + 1) / 2) (ha : 0 ≤ at_ ∧ at_ ≤ 1048576) (d : Nat) : ∀ (i : Nat) (D : List Int), i + d = own.length → okB D → D.length = 2 * i →
  Ev (fun k => impl_GetBcd.l0 k at_ n own true D own (own.length : Int) (i : Int)) (bcdT (D ++ digs (own.drop i)) n (at_ + (n + 1) / 2)) := by
 induction d with
 | zero =>
  intro i D hi hD hl
  rw [List.drop_eq_nil_of_le (by omega)]
  show Ev _ (bcdT (D ++ []) n _)
  rw [List.append_nil]
  exact impl_GetBcd_end n at_ own D own true hn hD _ _ (by omega) rfl (by omega) ho ha
 | succ d ih =>
  intro i D hi hD hl
  have hlt : i < own.length := by omega
  have r := okB_at hb i hlt
  have e1 : (48 + own[i] / 16) % 256 = 48 + own[i] / 16 := by omega
  have e2 : (48 + Go.bits .and .u8 own[i] 15) % 256 = 48 + own[i] % 16 := by rw [Go.u8_and15 _ r.1 (by omega)]; omega
  have e := ih (i + 1) (D ++ nibL own[i]) (by omega) (by
   intro x hx
   rcases List.mem_append.1 hx with hx | hx
   ·exact hD x hx
   ·unfold nibL at hx
    simp only [List.mem_cons, List.not_mem_nil, or_false] at hx
    rcases hx with rfl | rfl <;> omega) (by rw [List.length_append]; show D.length + 2 = _; omega)
  rw [List.append_assoc, ← digs_cons, ← List.drop_eq_getElem_cons hlt] at e
  refine evS ?_
  simp only [impl_GetBcd.l0, rd_at own i hlt, Option.bind_some, e1, e2]
  rw [w_id (x := (i : Int) + 1) (by omega) (by omega)]
  exact evP (by omega) (evP (by omega) (evP (by omega) (evP (by show D.length + 2 < _; omega) e)))

theorem impl_GetBcd_ev (b : List Int) (hb : okB b) (hbl : b.length ≤ 1048576) (at_ n : Int) (h0 : -9000000000000000000 ≤ at_) (h1 : at_ ≤ 9000000000000000000) : Ev (fun k => impl_GetBcd.f k b at_ n) (bcdR b at_ n) := by
 unfold impl_GetBcd.f bcdR
 refine evK (within_f _ _ _) ?_
 by_cases c : 1 ≤ n ∧ n ≤ 38
 ·refine evP (by simpa using c) ?_
  have eh : wrap64 (Int.tdiv (wrap64 (n + 1)) 2) = (n + 1) / 2 := by
   rw [w_id (x := n + 1) (by omega) (by omega), Int.tdiv_eq_ediv_of_nonneg (by omega), w_id (by omega) (by omega)]
  rw [eh]
  have ep := piece_f b hbl at_ ((n + 1) / 2) h0 h1 (by omega)
  by_cases c2 : 0 ≤ at_ ∧ at_ ≤ (b.length : Int) ∧ 0 ≤ (n + 1) / 2 ∧ (n + 1) / 2 ≤ (b.length : Int) - at_
  ·rw [if_pos c2] at ep
   rw [if_pos ⟨c.1, c.2, c2.1, c2.2.1, c2.2.2.2⟩]
   refine evK ep ?_
   have hlen : (((b.drop at_.toNat).take ((n + 1) / 2).toNat).length : Int) = (n + 1) / 2 := by
    rw [List.length_take, List.length_drop]; omega
   have hob : okB ((b.drop at_.toNat).take ((n + 1) / 2).toNat) := fun x hx => hb x (List.mem_of_mem_drop (List.mem_of_mem_take hx))
   have e := impl_GetBcd_l0 _ hob (by omega) at_ n c hlen (by omega) _ 0 [] (Nat.zero_add _) (by intro x hx; cases hx) (by simp)
   exact e
  ·rw [if_neg c2] at ep
   rw [if_neg (fun h => c2 ⟨h.2.2.1, h.2.2.2.1, by omega, h.2.2.2.2⟩)]
   refine evK ep (evS ?_)
   simp only [impl_GetBcd.l0]
   exact evN (by simp) (evN (by decide) (evC rfl))
 ·rw [if_neg (fun h => c ⟨h.1, h.2.1⟩)]
  exact evN (by simpa using c) (evC rfl)

/-! ### Bitmaps -/

def bitAt (b : List Int) (at_ k : Nat) : Bool := (b.getD (at_ + (k - 1) / 8) 0).toNat / 2 ^ (7 - (k - 1) % 8) % 2 == 1

def bitsL (b : List Int) (at_ k d : Nat) : List Int := ((List.range' k d).filter (bitAt b at_)).map fun (x : Nat) => (x : Int)

theorem bitsL_cons (b : List Int) (at_ k d : Nat) : bitsL b at_ k (d + 1) = (if bitAt b at_ k = true then [(k : Int)] else []) ++ bitsL b at_ (k + 1) d := by
 unfold bitsL
 rw [List.range'_succ, List.filter_cons]
 by_cases h : bitAt b at_ k = true
 ·rw [if_pos h, if_pos h]; rfl
 ·rw [if_neg h, if_neg h]; rfl

theorem shr_nat (x j : Nat) (hj : j ≤ 8) : shr .i64 (x : Int) (j : Int) = ((x / 2 ^ j : Nat) : Int) := by
 unfold shr
 have e : min (j : Int).toNat IntKind.i64.bits = j := by
  rw [Int.toNat_natCast]
  exact Nat.min_eq_left (Nat.le_trans hj (by decide))
 rw [e, Int.natCast_ediv, Int.natCast_pow]
 rfl

theorem shr_128 : ∀ j : Fin 8, shr .u8 128 (j.val : Int) = ((2 ^ (7 - j.val) : Nat) : Int) := by decide

theorem and_two : ∀ (x : Fin 256) (i : Fin 8), (x.val &&& 2 ^ i.val = 0) ↔ ¬ (x.val / 2 ^ i.val % 2 == 1) = true := by decide +kernel

theorem and_bit (x j : Nat) (hx : x < 256) (hj : j < 8) : (Go.bits .and .u8 (x : Int) (shr .u8 128 (j : Int)) = 0) ↔ ¬ (x / 2 ^ (7 - j) % 2 == 1) = true := by
 have e := shr_128 ⟨j, hj⟩
 simp only [] at e
 have h2 : 2 ^ (7 - j) < 2 ^ 8 := Nat.pow_lt_pow_right (by decide) (by omega)
 have a := and_two ⟨x, hx⟩ ⟨7 - j, Nat.lt_of_le_of_lt (Nat.sub_le 7 _) (by decide)⟩
 simp only [] at a
 rw [e, (Go.bits_nat .u8 8 (by decide) Go.wraps_u8 x (2 ^ (7 - j)) hx h2).1, ← a]
 exact Int.natCast_eq_zero

def bitsR (b : List Int) (at_ : Int) : List Int × Int × Bool := if 0 ≤ at_ ∧ at_ + 8 ≤ (b.length : Int) then (bitsL b at_.toNat 1 64, at_ + 8, true) else ([], 0, false)

theorem gb_k (j : Nat) (h : j < 64) : wrap64 (((j + 1 : Nat) : Int) - 1) = (j : Int) := by rw [w_id (by omega) (by omega)]; omega

theorem gb_8 (j : Nat) (h : j < 64) : wrap64 (Int.tdiv (j : Int) 8) = ((j / 8 : Nat) : Int) := by rw [Int.tdiv_eq_ediv_of_nonneg (by omega), w_id (by omega) (by omega)]; omega

theorem gb_m (j : Nat) : Int.tmod (j : Int) 8 = ((j % 8 : Nat) : Int) := by rw [Int.tmod_eq_emod_of_nonneg (by omega)]; omega

theorem gb_7 (j : Nat) : wrap64 (7 - ((j % 8 : Nat) : Int)) = ((7 - j % 8 : Nat) : Int) := by rw [w_id (by omega) (by omega)]; omega

theorem gb_a (at_ q : Nat) (h : at_ ≤ 1048576) (hq : q ≤ 8) : wrap64 ((at_ : Int) + (q : Int)) = ((at_ + q : Nat) : Int) := by rw [w_id (by omega) (by omega)]; omega

theorem gb_n (j : Nat) (h : j < 64) : wrap64 (((j + 1 : Nat) : Int) + 1) = ((j + 1 + 1 : Nat) : Int) := by rw [w_id (by omega) (by omega)]; omega

theorem gb_b (x : Int) (h : 0 ≤ x ∧ x ≤ 255) : wrap64 x = ((x.toNat : Nat) : Int) := by rw [w_id (by omega) (by omega)]; omega

theorem gb_t (x : Nat) : Int.tmod (x : Int) 2 = ((x % 2 : Nat) : Int) := by rw [Int.tmod_eq_emod_of_nonneg (by omega)]; rfl

theorem gb_x (x : Int) (h : 0 ≤ x ∧ x ≤ 255) : x.toNat < 256 ∧ x = ((x.toNat : Nat) : Int) := by omega

theorem bit_eq (b : List Int) (at_ j : Nat) (hlt : at_ + j / 8 < b.length) : bitAt b at_ (j + 1) = (b[at_ + j / 8].toNat / 2 ^ (7 - j % 8) % 2 == 1) := by
 unfold bitAt
 rw [show j + 1 - 1 = j from rfl, List.getD_eq_getElem?_getD, List.getElem?_eq_getElem hlt]; rfl

theorem spec_GetBits_l0 (b : List Int) (hb : okB b) (hbl : b.length ≤ 1048576) (at_ : Nat) (hf : at_ + 8 ≤ b.length) (d : Nat) : ∀ (k : Nat) (acc : List Int), 1 ≤ k → k + d = 65 → acc.length ≤ 2 * k → Ev (fun q => spec_GetBits.l0 q b (at_ : Int) acc (k : Int)) (acc ++ bitsL b at_ k d, (at_ : Int) + 8, true) := by
 induction d with
 | zero =>
  intro k acc h1 hk ha
  refine evS ?_
  simp only [spec_GetBits.l0]
  rw [w_id (x := (at_ : Int) + 8) (by omega) (by omega)]
  have e : bitsL b at_ k 0 = [] := rfl
  rw [e, List.append_nil]
  exact evN (by omega) (evC rfl)
 | succ d ih =>
  intro k acc h1 hk ha
  obtain ⟨j, rfl⟩ : ∃ j, k = j + 1 := ⟨k - 1, by omega⟩
  have hj : j < 64 := by omega
  have hlt : at_ + j / 8 < b.length := by omega
  have r := okB_at hb _ hlt
  have hq : j / 8 ≤ 8 := by omega
  have hat : at_ ≤ 1048576 := by omega
  have es := shr_nat b[at_ + j / 8].toNat (7 - j % 8) (Nat.le_trans (Nat.sub_le 7 _) (by decide))
  have ebit := bit_eq b at_ j hlt
  refine evS ?_
  simp only [spec_GetBits.l0, gb_k j hj, gb_8 j hj, gb_m, gb_7, gb_a at_ (j / 8) hat hq, gb_n j hj, rd_at b _ hlt, gb_b _ r, es, gb_t]
  clear es r
  rw [bitsL_cons]
  refine evP (by omega) (evP (by omega) (evP (by omega) (evP (by omega) ?_)))
  by_cases c : bitAt b at_ (j + 1) = true
  ·rw [if_pos c]
   have e := ih (j + 1 + 1) (acc ++ [((j + 1 : Nat) : Int)]) (by omega) (by omega) (by rw [List.length_append, List.length_singleton]; omega)
   rw [List.append_assoc] at e
   rw [ebit] at c
   have c' := eq_of_beq c
   exact evP (by omega) (evP (by omega) e)
  ·rw [if_neg c, List.nil_append]
   have e := ih (j + 1 + 1) acc (by omega) (by omega) (by omega)
   rw [ebit] at c
   have c' : ¬ b[at_ + j / 8].toNat / 2 ^ (7 - j % 8) % 2 = 1 := by simpa using c
   exact evN (by omega) e

theorem spec_GetBits_ev (b : List Int) (hb : okB b) (hbl : b.length ≤ 1048576) (at_ : Int) (h0 : -9000000000000000000 ≤ at_) (h1 : at_ ≤ 9000000000000000000) : Ev (fun k => spec_GetBits.f k b at_) (bitsR b at_) := by
 have no : Ev (fun k => spec_GetBits.j0 k b at_ true) (([] : List Int), 0, false) := by
  refine evS ?_
  simp only [spec_GetBits.j0]
  exact evP trivial (evC rfl)
 unfold spec_GetBits.f bitsR
 by_cases c : at_ < 0
 ·rw [if_neg (by omega)]; exact evP c no
 refine evN c (evS ?_)
 simp only [spec_GetBits.j0]
 rw [w_id (x := (b.length : Int) - 8) (by omega) (by omega)]
 by_cases c2 : at_ > (b.length : Int) - 8
 ·rw [if_neg (by omega)]; exact evP (by simpa using c2) (evC rfl)
 ·rw [if_pos (by omega)]
  obtain ⟨a, rfl⟩ : ∃ a : Nat, at_ = (a : Int) := ⟨at_.toNat, by omega⟩
  have e := spec_GetBits_l0 b hb hbl a (by omega) 64 1 [] (by omega) (by omega) (by simp)
  rw [List.nil_append] at e
  rw [Int.toNat_natCast]
  exact evN (by simpa using c2) e

theorem impl_GetBits_l0 (b : List Int) (hb : okB b) (hbl : b.length ≤ 1048576) (at_ : Nat) (hf : at_ + 8 ≤ b.length) (d : Nat) : ∀ (k : Nat) (acc : List Int), 1 ≤ k → k + d = 65 → acc.length ≤ 2 * k → Ev (fun q => impl_GetBits.l0 q (at_ : Int) ((b.drop at_).take 8) acc (k : Int)) (acc ++ bitsL b at_ k d, (at_ : Int) + 8, true) := by
 have hl8 : ((b.drop at_).take 8).length = 8 := by rw [List.length_take, List.length_drop]; omega
 induction d with
 | zero =>
  intro k acc h1 hk ha
  refine evS ?_
  simp only [impl_GetBits.l0]
  rw [w_id (x := (at_ : Int) + 8) (by omega) (by omega)]
  have e : bitsL b at_ k 0 = [] := rfl
  rw [e, List.append_nil]
  exact evN (by omega) (evC rfl)
 | succ d ih =>
  intro k acc h1 hk ha
  obtain ⟨j, rfl⟩ : ∃ j, k = j + 1 := ⟨k - 1, by omega⟩
  have hj : j < 64 := by omega
  have hlt : at_ + j / 8 < b.length := by omega
  have hlt8 : j / 8 < ((b.drop at_).take 8).length := by omega
  have r := okB_at hb _ hlt
  have eg : ((b.drop at_).take 8)[j / 8] = b[at_ + j / 8] := by rw [List.getElem_take, List.getElem_drop]
  have gx := gb_x _ r
  have es := and_bit b[at_ + j / 8].toNat (j % 8) gx.1 (Nat.mod_lt _ (by decide))
  rw [← gx.2] at es
  clear gx r
  have ebit := bit_eq b at_ j hlt
  refine evS ?_
  simp only [impl_GetBits.l0, gb_k j hj, gb_8 j hj, gb_m, gb_n j hj, rd_at _ _ hlt8, eg]
  rw [bitsL_cons]
  refine evP (by omega) (evP (by omega) (evP (by omega) (evP (by omega) ?_)))
  by_cases c : bitAt b at_ (j + 1) = true
  ·rw [if_pos c]
   have e := ih (j + 1 + 1) (acc ++ [((j + 1 : Nat) : Int)]) (by omega) (by omega) (by rw [List.length_append, List.length_singleton]; omega)
   rw [List.append_assoc] at e
   rw [ebit] at c
   exact evN (fun h => (es.1 h) c) (evP (by omega) e)
  ·rw [if_neg c, List.nil_append]
   have e := ih (j + 1 + 1) acc (by omega) (by omega) (by omega)
   rw [ebit] at c
   exact evP (es.2 c) e

theorem impl_GetBits_ev (b : List Int) (hb : okB b) (hbl : b.length ≤ 1048576) (at_ : Int) (h0 : -9000000000000000000 ≤ at_) (h1 : at_ ≤ 9000000000000000000) : Ev (fun k => impl_GetBits.f k b at_) (bitsR b at_) := by
 unfold impl_GetBits.f bitsR
 have ep := piece_f b hbl at_ 8 h0 h1 (by omega)
 by_cases c : 0 ≤ at_ ∧ at_ + 8 ≤ (b.length : Int)
 ·rw [if_pos (by omega)] at ep
  rw [if_pos c]
  obtain ⟨a, rfl⟩ : ∃ a : Nat, at_ = (a : Int) := ⟨at_.toNat, by omega⟩
  have e := impl_GetBits_l0 b hb hbl a (by omega) 64 1 [] (by omega) (by omega) (by simp)
  rw [List.nil_append] at e
  rw [Int.toNat_natCast] at ep ⊢
  exact evK ep (evP rfl e)
 ·rw [if_neg (by omega)] at ep
  rw [if_neg c]
  exact evK ep (evN (by decide) (evC rfl))

/-! ### One field of a message -/

abbrev failR : ByteArray × Int × Bool := ((⟨#[]⟩ : ByteArray), 0, false)

theorem bcdR_cases (b : List Int) (at_ n : Int) (hb : okB b) : bcdR b at_ n = failR ∨ ∃ s, bcdR b at_ n = (s, at_ + (n + 1) / 2, true) ∧ digits s = true ∧ (s.size : Int) = n ∧ 1 ≤ n ∧ n ≤ 38 ∧ 0 ≤ at_ ∧ at_ + (n + 1) / 2 ≤ (b.length : Int) := by
 unfold bcdR
 by_cases c : 1 ≤ n ∧ n ≤ 38 ∧ 0 ≤ at_ ∧ at_ ≤ (b.length : Int) ∧ (n + 1) / 2 ≤ (b.length : Int) - at_
 ·rw [if_pos c]
  have hD : ((digs ((b.drop at_.toNat).take ((n + 1) / 2).toNat)).length : Int) = 2 * ((n + 1) / 2) := by
   rw [digs_len, List.length_take, List.length_drop]; omega
  generalize digs ((b.drop at_.toNat).take ((n + 1) / 2).toNat) = D at hD ⊢
  unfold bcdT
  by_cases o : n % 2 = 1
  ·rw [if_pos o]
   split
   ·split
    ·rename_i h1 h2
     exact .inr ⟨_, rfl, h2, by rw [strOfNums_size, List.length_drop]; omega, by omega⟩
    ·exact .inl rfl
   ·exact .inl rfl
  ·rw [if_neg o]
   split
   ·rename_i h2
    exact .inr ⟨_, rfl, h2, by rw [strOfNums_size]; omega, by omega⟩
   ·exact .inl rfl
 ·rw [if_neg c]; exact .inl rfl

def getLenR (b : List Int) (at_ d : Int) : Int × Int × Bool := if (bcdR b at_ d).2.2 = true then (((numT (bcdR b at_ d).1 : Nat) : Int), (bcdR b at_ d).2.1, true) else (0, 0, false)

theorem getLenR_cases (b : List Int) (at_ d : Int) (hb : okB b) (hd : d = 2 ∨ d = 3) : getLenR b at_ d = (0, 0, false) ∨ ∃ n : Nat, getLenR b at_ d = ((n : Int), at_ + (d + 1) / 2, true) ∧ n < 1000 ∧ 0 ≤ at_ ∧ at_ + (d + 1) / 2 ≤ (b.length : Int) := by
 unfold getLenR
 rcases bcdR_cases b at_ d hb with e | ⟨s, e, h1, h2, h3, h4, h5, h6⟩
 ·rw [e, if_neg (by decide)]; exact .inl rfl
 ·rw [e, if_pos rfl]
  exact .inr ⟨numT s, rfl, numT_lt s h1 3 (by omega), h5, h6⟩

theorem spec_GetLen_ev (b : List Int) (hb : okB b) (hbl : b.length ≤ 1048576) (at_ d : Int) (h0 : -9000000000000000000 ≤ at_) (h1 : at_ ≤ 9000000000000000000) (hd : d = 2 ∨ d = 3) : Ev (fun k => spec_GetLen.f k b at_ d) (getLenR b at_ d) := by
 have j : Ev (fun k => spec_GetLen.j0 k b at_ d false) (getLenR b at_ d) := by
  refine evS ?_
  simp only [spec_GetLen.j0]
  refine evN (by decide) (evB (spec_GetBcd_ev b hb hbl at_ d h0 h1) ?_)
  unfold getLenR
  rcases bcdR_cases b at_ d hb with e | ⟨s, e, h1, h2, h3, h4, h5, h6⟩
  ·rw [e, if_neg (by decide)]
   have en := spec_Narrow_ev (⟨#[]⟩ : ByteArray) (by decide)
   rw [narrow_nil] at en
   exact evB en (evC rfl)
  ·rw [e, if_pos rfl]
   have en := spec_Narrow_ev s (by omega)
   rw [narrow_ok s h1 (by omega)] at en
   exact evB en (evC rfl)
 unfold spec_GetLen.f
 rcases hd with rfl | rfl
 ·exact evP rfl j
 ·exact evN (by decide) j

theorem impl_GetLen_ev (b : List Int) (hb : okB b) (hbl : b.length ≤ 1048576) (at_ d : Int) (h0 : -9000000000000000000 ≤ at_) (h1 : at_ ≤ 9000000000000000000) (hd : d = 2 ∨ d = 3) : Ev (fun k => impl_GetLen.f k b at_ d) (getLenR b at_ d) := by
 unfold impl_GetLen.f
 refine evK (within_f _ _ _) (evP (by rcases hd with rfl | rfl <;> rfl) (evB (impl_GetBcd_ev b hb hbl at_ d h0 h1) ?_))
 unfold getLenR
 rcases bcdR_cases b at_ d hb with e | ⟨s, e, h1, h2, h3, h4, h5, h6⟩
 ·rw [e, if_neg (by decide)]
  exact evN (by decide) (evC rfl)
 ·rw [e, if_pos rfl]
  have en := impl_Narrow_ev s (by omega)
  rw [narrow_ok s h1 (by omega)] at en
  exact evP rfl (evB en (evC rfl))

def textR (b : List Int) (at_ n : Int) : ByteArray × Int × Bool :=
 if at_ ≤ (b.length : Int) ∧ n ≤ (b.length : Int) - at_ ∧ printable (strOfNums ((b.drop at_.toNat).take n.toNat)) = true then (strOfNums ((b.drop at_.toNat).take n.toNat), at_ + n, true) else failR

def tailF (b : List Int) (kind at_ n : Int) : ByteArray × Int × Bool := if kind = 1 ∨ kind = 3 then bcdR b at_ n else textR b at_ n

def hdF (no : Int) : Int := if fKind no = 5 then 3 else 2

theorem hdF_or (no : Int) : hdF no = 2 ∨ hdF no = 3 := by unfold hdF; split <;> simp

def headR (b : List Int) (no : Int) (r : Int × Int × Bool) : ByteArray × Int × Bool := if r.2.2 = true ∧ 1 ≤ r.1 ∧ r.1 ≤ fSize no then tailF b (fKind no) r.2.1 r.1 else failR

def getFieldR (b : List Int) (at_ no : Int) : ByteArray × Int × Bool :=
 if fKind no = 0 then failR
 else if fKind no = 1 ∨ fKind no = 2 then tailF b (fKind no) at_ (fSize no)
 else headR b no (getLenR b at_ (hdF no))

theorem gf_0 (b : List Int) (at_ no : Int) (h : fKind no = 0) : getFieldR b at_ no = failR := by unfold getFieldR; rw [if_pos h]

theorem gf_12 (b : List Int) (at_ no : Int) (h : fKind no = 1 ∨ fKind no = 2) : getFieldR b at_ no = tailF b (fKind no) at_ (fSize no) := by unfold getFieldR; rw [if_neg (by omega), if_pos h]

theorem gf_3 (b : List Int) (at_ no : Int) (h : 3 ≤ fKind no) : getFieldR b at_ no = headR b no (getLenR b at_ (hdF no)) := by unfold getFieldR; rw [if_neg (by omega), if_neg (by omega)]

theorem head_no (b : List Int) (no : Int) (r : Int × Int × Bool) (h : ¬ (r.2.2 = true ∧ 1 ≤ r.1 ∧ r.1 ≤ fSize no)) : headR b no r = failR := by unfold headR; rw [if_neg h]

theorem head_ok (b : List Int) (no : Int) (r : Int × Int × Bool) (h : r.2.2 = true ∧ 1 ≤ r.1 ∧ r.1 ≤ fSize no) : headR b no r = tailF b (fKind no) r.2.1 r.1 := by unfold headR; rw [if_pos h]

theorem tailF_n (b : List Int) (kind at_ n : Int) (h : kind = 1 ∨ kind = 3) : tailF b kind at_ n = bcdR b at_ n := by unfold tailF; rw [if_pos h]

theorem tailF_t (b : List Int) (kind at_ n : Int) (h : ¬ (kind = 1 ∨ kind = 3)) : tailF b kind at_ n = textR b at_ n := by unfold tailF; rw [if_neg h]

theorem textR_no (b : List Int) (at_ n : Int) (h : ¬ (at_ ≤ (b.length : Int) ∧ n ≤ (b.length : Int) - at_ ∧ printable (strOfNums ((b.drop at_.toNat).take n.toNat)) = true)) : textR b at_ n = failR := by unfold textR; rw [if_neg h]

theorem textR_ok (b : List Int) (at_ n : Int) (h : at_ ≤ (b.length : Int) ∧ n ≤ (b.length : Int) - at_ ∧ printable (strOfNums ((b.drop at_.toNat).take n.toNat)) = true) : textR b at_ n = (strOfNums ((b.drop at_.toNat).take n.toNat), at_ + n, true) := by unfold textR; rw [if_pos h]

theorem spec_GF_j1 (b : List Int) (hb : okB b) (hbl : b.length ≤ 1048576) (kind at_ n : Int) (h0 : 0 ≤ at_) (h1 : at_ ≤ 1048576) (hn : 0 ≤ n) (hn2 : n ≤ 1000) : Ev (fun k => spec_GetField.j1 k b at_ kind n) (tailF b kind at_ n) := by
 have num : Ev (fun k => spec_GetField.j2 k b at_ n true) (bcdR b at_ n) := by
  refine evS ?_
  simp only [spec_GetField.j2]
  exact evP trivial (evB (spec_GetBcd_ev b hb hbl at_ n (by omega) (by omega)) (evC rfl))
 refine evS ?_
 simp only [spec_GetField.j1]
 by_cases c1 : kind = 1
 ·rw [tailF_n b kind at_ n (.inl c1)]; exact evP c1 num
 refine evN c1 ?_
 by_cases c3 : kind = 3
 ·rw [tailF_n b kind at_ n (.inr c3), show (kind == 3) = true from by rw [c3]; rfl]; exact num
 ·rw [tailF_t b kind at_ n (by omega), show (kind == 3) = false from by simp [c3]]
  refine evS ?_
  simp only [spec_GetField.j2]
  refine evN (by decide) ?_
  rw [w_id (x := (b.length : Int) - at_) (by omega) (by omega), w_id (x := at_ + n) (by omega) (by omega)]
  by_cases q1 : at_ > (b.length : Int)
  ·rw [textR_no b at_ n (by omega)]; exact evP q1 (evC rfl)
  refine evN q1 ?_
  by_cases q2 : n > (b.length : Int) - at_
  ·rw [textR_no b at_ n (by omega)]; exact evP q2 (evC rfl)
  refine evN q2 ?_
  have e : (b.take (at_ + n).toNat).drop at_.toNat = (b.drop at_.toNat).take n.toNat := by rw [List.drop_take, show (at_ + n).toNat - at_.toNat = n.toNat from by omega]
  rw [e]
  refine evP h0 (evP (by omega) (evP (by omega) (evB (spec_Printable_ev _ (by rw [strOfNums_size, List.length_take, List.length_drop]; omega)) ?_)))
  by_cases hp : printable (strOfNums ((b.drop at_.toNat).take n.toNat)) = true
  ·rw [textR_ok b at_ n ⟨by omega, by omega, hp⟩]; exact evP hp (evC rfl)
  ·rw [textR_no b at_ n (fun h => hp h.2.2)]; exact evN hp (evC rfl)

def widF (c : Int) : Int := if c = 3 ∨ c = 4 then 2 else if c = 5 then 3 else 0

theorem widF_4 (c : Int) (h : c = 3 ∨ c = 4) : widF c = 2 := by unfold widF; rw [if_pos h]

theorem widF_5 (c : Int) (h : c = 5) : widF c = 3 := by unfold widF; rw [if_neg (by omega), if_pos h]

theorem widF_0 (c : Int) (h : ¬ (c = 3 ∨ c = 4 ∨ c = 5)) : widF c = 0 := by unfold widF; rw [if_neg (by omega), if_neg (by omega)]

theorem width_ev (c : Int) : Ev (fun k => spec_l03Width.f k c) (widF c) := by
 unfold spec_l03Width.f
 have two : Ev (fun k => spec_l03Width.j0 k c true) 2 := by
  refine evS ?_
  simp only [spec_l03Width.j0]
  exact evP trivial (evC rfl)
 by_cases c3 : c = 3
 ·rw [widF_4 c (.inl c3), show (c == 3) = true from by rw [c3]; rfl]; exact evP c3 two
 refine evN c3 ?_
 by_cases c4 : c = 4
 ·rw [widF_4 c (.inr c4), show (c == 4) = true from by rw [c4]; rfl]; exact two
 rw [show (c == 4) = false from by simp [c4]]
 refine evS ?_
 simp only [spec_l03Width.j0]
 refine evN (by decide) ?_
 by_cases c5 : c = 5
 ·rw [widF_5 c c5]; exact evP c5 (evC rfl)
 ·rw [widF_0 c (by omega)]; exact evN c5 (evC rfl)

theorem spec_GetField_ev (b : List Int) (hb : okB b) (hbl : b.length ≤ 1048576) (at_ no : Int) (h0 : 0 ≤ at_) (h1 : at_ ≤ 1048576) : Ev (fun k => spec_GetField.f k b at_ no) (getFieldR b at_ no) := by
 have rk := fKind_range no
 have rs := fSize_range no
 unfold spec_GetField.f
 refine evB (spec_FieldKind_ev no) (evB (spec_FieldSize_ev no) ?_)
 by_cases c0 : fKind no = 0
 ·rw [gf_0 b at_ no c0]
  refine evP c0 (evS ?_)
  simp only [spec_GetField.j0]
  exact evP trivial (evC rfl)
 rw [show decide (at_ < 0) = false from by simp; omega]
 refine evN c0 (evS ?_)
 simp only [spec_GetField.j0]
 have W := width_ev (fKind no)
 by_cases c : fKind no = 1 ∨ fKind no = 2
 ·rw [gf_12 b at_ no c]
  rw [widF_0 _ (by omega)] at W
  exact evN (by decide) (evB W (evN (by decide) (spec_GF_j1 b hb hbl _ at_ _ h0 h1 (by omega) (by omega))))
 ·rw [gf_3 b at_ no (by omega)]
  have W' : Ev (fun k => spec_l03Width.f k (fKind no)) (hdF no) := by
   have e : widF (fKind no) = hdF no := by
    unfold hdF
    by_cases c5 : fKind no = 5
    ·rw [widF_5 _ c5, if_pos c5]
    ·rw [widF_4 _ (by omega), if_neg c5]
   rw [← e]; exact W
  have hd := hdF_or no
  generalize hdF no = d at W' hd ⊢
  refine evN (by decide) (evB W' (evP (by omega) (evB W' (evB (spec_GetLen_ev b hb hbl at_ d (by omega) (by omega) hd) ?_))))
  rcases getLenR_cases b at_ d hb hd with e | ⟨n, e, hn, ha, hx⟩
  ·rw [e, head_no b no _ (by simp)]; exact evN (by decide) (evC rfl)
  ·rw [e]
   refine evP rfl (evK (spec_In_f _ _ _) ?_)
   by_cases q : 1 ≤ (n : Int) ∧ (n : Int) ≤ fSize no
   ·rw [head_ok b no _ ⟨rfl, q⟩]
    exact evP (by simpa using q) (spec_GF_j1 b hb hbl _ (at_ + (d + 1) / 2) (n : Int) (by omega) (by omega) (by omega) (by omega))
   ·rw [head_no b no _ (fun h => q h.2)]
    exact evN (by simpa using q) (evC rfl)

theorem fOk_1 (no : Int) (s : ByteArray) (h : fKind no = 1) (hd : digits s = true) (hs : (s.size : Int) = fSize no) : fOk no s = true := by unfold fOk; rw [if_pos h, hd, hs]; simp

theorem fOk_2 (no : Int) (s : ByteArray) (h : fKind no = 2) (hs : (s.size : Int) = fSize no) : fOk no s = printable s := by unfold fOk; rw [if_neg (by omega), if_pos h, hs]; simp

theorem fOk_3 (no : Int) (s : ByteArray) (h : fKind no = 3) (hd : digits s = true) : fOk no s = decide ((s.size : Int) ≤ fSize no) := by unfold fOk; rw [if_neg (by omega), if_neg (by omega), if_pos h, hd]; simp

theorem fOk_0 (no : Int) (s : ByteArray) (h : fKind no = 0) : fOk no s = false := by unfold fOk; rw [if_neg (by omega), if_neg (by omega), if_neg (by omega), if_pos h]

theorem fOk_45 (no : Int) (s : ByteArray) (h : fKind no = 4 ∨ fKind no = 5) : fOk no s = (printable s && (decide (1 ≤ (s.size : Int)) && decide ((s.size : Int) ≤ fSize no))) := by unfold fOk; rw [if_neg (by omega), if_neg (by omega), if_neg (by omega), if_neg (by omega)]

theorem impl_GF_num (b : List Int) (hb : okB b) (hbl : b.length ≤ 1048576) (at_ no n : Int) (h0 : 0 ≤ at_) (h1 : at_ ≤ 1048576) (hk : fKind no = 1 ∧ n = fSize no ∨ fKind no = 3 ∧ n ≤ fSize no) : Ev (fun k => impl_GetField.j2 k b at_ no n true) (bcdR b at_ n) := by
 refine evS ?_
 simp only [impl_GetField.j2]
 refine evP trivial (evB (impl_GetBcd_ev b hb hbl at_ n (by omega) (by omega)) ?_)
 rcases bcdR_cases b at_ n hb with e | ⟨s, e, q1, q2, q3, q4, q5, q6⟩
 ·rw [e]; exact evN (by decide) (evC rfl)
 ·rw [e]
  have ef : fOk no s = true := by
   rcases hk with ⟨k1, rfl⟩ | ⟨k3, q⟩
   ·exact fOk_1 no s k1 q1 q2
   ·rw [fOk_3 no s k3 q1]; simp; omega
  exact evP rfl (evB (impl_FieldOk_ev no s (by omega)) (evP ef (evC rfl)))

theorem impl_GF_numx (b : List Int) (hb : okB b) (hbl : b.length ≤ 1048576) (at_ no n : Int) (h0 : 0 ≤ at_) (h1 : at_ ≤ 1048576) (hk : fKind no = 3) (hn : ¬ n ≤ fSize no) : Ev (fun k => impl_GetField.j2 k b at_ no n true) failR := by
 refine evS ?_
 simp only [impl_GetField.j2]
 refine evP trivial (evB (impl_GetBcd_ev b hb hbl at_ n (by omega) (by omega)) ?_)
 rcases bcdR_cases b at_ n hb with e | ⟨s, e, q1, q2, q3, q4, q5, q6⟩
 ·rw [e]; exact evN (by decide) (evC rfl)
 ·rw [e]
  have ef : ¬ fOk no s = true := by rw [fOk_3 no s hk q1]; simp; omega
  exact evP rfl (evB (impl_FieldOk_ev no s (by omega)) (evN ef (evC rfl)))

theorem impl_GF_text (b : List Int) (hb : okB b) (hbl : b.length ≤ 1048576) (at_ no n : Int) (h0 : 0 ≤ at_) (h1 : at_ ≤ 1048576) (hn : 0 ≤ n) (hn2 : n ≤ 1000) (hk : fKind no = 2 ∧ n = fSize no ∨ (fKind no = 4 ∨ fKind no = 5) ∧ 1 ≤ n ∧ n ≤ fSize no) : Ev (fun k => impl_GetField.j2 k b at_ no n false) (textR b at_ n) := by
 refine evS ?_
 simp only [impl_GetField.j2]
 have ep := piece_f b hbl at_ n (by omega) (by omega) (by omega)
 by_cases c : at_ ≤ (b.length : Int) ∧ n ≤ (b.length : Int) - at_
 ·rw [if_pos ⟨h0, c.1, hn, c.2⟩] at ep
  have hs : ((strOfNums ((b.drop at_.toNat).take n.toNat)).size : Int) = n := by rw [strOfNums_size, List.length_take, List.length_drop]; omega
  have F := impl_FieldOk_ev no (strOfNums ((b.drop at_.toNat).take n.toNat)) (by omega)
  have ef : fOk no (strOfNums ((b.drop at_.toNat).take n.toNat)) = printable (strOfNums ((b.drop at_.toNat).take n.toNat)) := by
   rcases hk with ⟨k, rfl⟩ | ⟨k, q⟩
   ·exact fOk_2 no _ k hs
   ·rw [fOk_45 no _ k, hs]; simp [q.1, q.2]
  rw [ef] at F
  refine evN (by decide) (evK ep (evP rfl (evB F ?_)))
  rw [w_id (x := at_ + n) (by omega) (by omega)]
  by_cases hp : printable (strOfNums ((b.drop at_.toNat).take n.toNat)) = true
  ·rw [textR_ok b at_ n ⟨c.1, c.2, hp⟩]; exact evP hp (evC rfl)
  ·rw [textR_no b at_ n (fun h => hp h.2.2)]; exact evN hp (evC rfl)
 ·rw [if_neg (by omega)] at ep
  rw [textR_no b at_ n (fun h => c ⟨h.1, h.2.1⟩)]
  exact evN (by decide) (evK ep (evN (by decide) (evC rfl)))

theorem impl_GF_textx (b : List Int) (hb : okB b) (hbl : b.length ≤ 1048576) (at_ no n : Int) (h0 : 0 ≤ at_) (h1 : at_ ≤ 1048576) (hn : 0 ≤ n) (hn2 : n ≤ 1000) (hk : fKind no = 0 ∨ (fKind no = 4 ∨ fKind no = 5) ∧ ¬ (1 ≤ n ∧ n ≤ fSize no)) : Ev (fun k => impl_GetField.j2 k b at_ no n false) failR := by
 refine evS ?_
 simp only [impl_GetField.j2]
 have ep := piece_f b hbl at_ n (by omega) (by omega) (by omega)
 by_cases c : at_ ≤ (b.length : Int) ∧ n ≤ (b.length : Int) - at_
 ·rw [if_pos ⟨h0, c.1, hn, c.2⟩] at ep
  have hs : ((strOfNums ((b.drop at_.toNat).take n.toNat)).size : Int) = n := by rw [strOfNums_size, List.length_take, List.length_drop]; omega
  have F := impl_FieldOk_ev no (strOfNums ((b.drop at_.toNat).take n.toNat)) (by omega)
  have ef : ¬ fOk no (strOfNums ((b.drop at_.toNat).take n.toNat)) = true := by
   rcases hk with k | ⟨k, q⟩
   ·rw [fOk_0 no _ k]; decide
   ·rw [fOk_45 no _ k, hs]; simp; omega
  exact evN (by decide) (evK ep (evP rfl (evB F (evN ef (evC rfl)))))
 ·rw [if_neg (by omega)] at ep
  exact evN (by decide) (evK ep (evN (by decide) (evC rfl)))

theorem impl_GetField_ev (b : List Int) (hb : okB b) (hbl : b.length ≤ 1048576) (at_ no : Int) (h0 : 0 ≤ at_) (h1 : at_ ≤ 1048576) : Ev (fun k => impl_GetField.f k b at_ no) (getFieldR b at_ no) := by
 have rk := fKind_range no
 have rs := fSize_range no
 unfold impl_GetField.f
 refine evB (impl_FieldSize_ev no) (evB (impl_FieldKind_ev no) ?_)
 by_cases c : fKind no ≤ 2
 ·rw [show (fKind no == 5) = false from by simp; omega]
  refine evN (by omega) (evN (by omega) (evS ?_))
  simp only [impl_GetField.j0]
  refine evN (by decide) (evS ?_)
  simp only [impl_GetField.j1]
  refine evP trivial ?_
  by_cases c1 : fKind no = 1
  ·rw [gf_12 b at_ no (.inl c1), tailF_n _ _ _ _ (.inl c1)]
   exact evP c1 (impl_GF_num b hb hbl at_ no (fSize no) h0 h1 (.inl ⟨c1, rfl⟩))
  ·rw [show (fKind no == 3) = false from by simp; omega]
   refine evN c1 ?_
   by_cases c0 : fKind no = 0
   ·rw [gf_0 b at_ no c0]
    exact impl_GF_textx b hb hbl at_ no (fSize no) h0 h1 (by omega) (by omega) (.inl c0)
   ·have c2 : fKind no = 2 := by omega
    rw [gf_12 b at_ no (.inr c2), tailF_t _ _ _ _ (by omega)]
    exact impl_GF_text b hb hbl at_ no (fSize no) h0 h1 (by omega) (by omega) (.inl ⟨c2, rfl⟩)
 ·rw [gf_3 b at_ no (by omega)]
  have hL : Ev (fun k => impl_lenDigits.f k no) (hdF no) := by
   unfold impl_lenDigits.f
   refine evB (impl_FieldKind_ev no) ?_
   unfold hdF
   by_cases c5 : fKind no = 5
   ·rw [show (if fKind no = 5 then (3 : Int) else 2) = 3 from if_pos c5]; exact evP c5 (evC rfl)
   ·rw [show (if fKind no = 5 then (3 : Int) else 2) = 2 from if_neg c5]; exact evN c5 (evC rfl)
  have hd := hdF_or no
  generalize hdF no = d at hd hL ⊢
  have key : Ev (fun k => impl_GetField.j0 k b at_ no (fSize no) (fKind no) true true) (headR b no (getLenR b at_ d)) := by
   refine evS ?_
   simp only [impl_GetField.j0]
   refine evP trivial (evB hL (evB (impl_GetLen_ev b hb hbl at_ d (by omega) (by omega) hd) ?_))
   rcases getLenR_cases b at_ d hb hd with e | ⟨n, e, hn, ha, hx⟩
   ·rw [e, head_no b no _ (by simp)]
    refine evS ?_
    simp only [impl_GetField.j1]
    exact evN (by decide) (evC rfl)
   ·rw [e]
    refine evS ?_
    simp only [impl_GetField.j1]
    refine evP trivial (evN (by omega) ?_)
    by_cases c3 : fKind no = 3
    ·rw [show (fKind no == 3) = true from by rw [c3]; rfl]
     by_cases q : (n : Int) ≤ fSize no
     ·have e := impl_GF_num b hb hbl (at_ + (d + 1) / 2) no (n : Int) (by omega) (by omega) (.inr ⟨c3, q⟩)
      by_cases q1 : 1 ≤ (n : Int)
      ·rw [head_ok b no _ ⟨rfl, q1, q⟩, tailF_n _ _ _ _ (.inr c3)]; exact e
      ·rw [head_no b no _ (fun h => q1 h.2.1)]
       have z : bcdR b (at_ + (d + 1) / 2) (n : Int) = failR := by unfold bcdR; rw [if_neg (fun h => q1 h.1)]
       rw [z] at e; exact e
     ·rw [head_no b no _ (fun h => q h.2.2)]
      exact impl_GF_numx b hb hbl (at_ + (d + 1) / 2) no (n : Int) (by omega) (by omega) c3 q
    ·rw [show (fKind no == 3) = false from by simp [c3]]
     by_cases q : 1 ≤ (n : Int) ∧ (n : Int) ≤ fSize no
     ·rw [head_ok b no _ ⟨rfl, q⟩, tailF_t _ _ _ _ (by omega)]
      exact impl_GF_text b hb hbl (at_ + (d + 1) / 2) no (n : Int) (by omega) (by omega) (by omega) (by omega) (.inr ⟨by omega, q⟩)
     ·rw [head_no b no _ (fun h => q h.2)]
      exact impl_GF_textx b hb hbl (at_ + (d + 1) / 2) no (n : Int) (by omega) (by omega) (by omega) (by omega) (.inr ⟨by omega, q⟩)
  by_cases c3 : fKind no = 3
  ·exact evP c3 key
  refine evN c3 ?_
  by_cases c4 : fKind no = 4
  ·exact evP c4 key
  refine evN c4 ?_
  rw [show (fKind no == 5) = true from by rw [show fKind no = 5 by omega]; rfl]
  exact key

theorem fOk_size (no : Int) (s : ByteArray) (h : fOk no s = true) : s.size ≤ 60 := by
 have r := fSize_range no
 unfold fOk at h
 repeat' split at h
 all_goals simp at h
 all_goals omega

theorem textR_cases (b : List Int) (hb : okB b) (at_ n : Int) (h0 : 0 ≤ at_) (hn : 0 ≤ n) : textR b at_ n = failR ∨ ∃ s, textR b at_ n = (s, at_ + n, true) ∧ printable s = true ∧ (s.size : Int) = n ∧ at_ + n ≤ (b.length : Int) := by
 unfold textR
 split
 ·rename_i h
  exact .inr ⟨_, rfl, h.2.2, by rw [strOfNums_size, List.length_take, List.length_drop]; omega, by omega⟩
 ·exact .inl rfl

theorem tailF_cases (b : List Int) (hb : okB b) (no a n : Int) (ha : 0 ≤ a) (hn : 0 ≤ n) (k0 : fKind no ≠ 0) (k1 : fKind no = 1 ∨ fKind no = 2 → n = fSize no) (k2 : 3 ≤ fKind no → 1 ≤ n ∧ n ≤ fSize no) : tailF b (fKind no) a n = failR ∨ ∃ s e, tailF b (fKind no) a n = (s, e, true) ∧ fOk no s = true ∧ 0 ≤ e ∧ e ≤ (b.length : Int) := by
 have rk := fKind_range no
 by_cases c : fKind no = 1 ∨ fKind no = 3
 ·rw [tailF_n _ _ _ _ c]
  rcases bcdR_cases b a n hb with e | ⟨s, e, q1, q2, q3, q4, q5, q6⟩
  ·exact .inl e
  ·refine .inr ⟨s, _, e, ?_, by omega, q6⟩
   by_cases c1 : fKind no = 1
   ·exact fOk_1 no s c1 q1 (by rw [q2, k1 (.inl c1)])
   ·have := k2 (by omega)
    rw [fOk_3 no s (by omega) q1]; simp; omega
 ·rw [tailF_t _ _ _ _ c]
  rcases textR_cases b hb a n ha hn with e | ⟨s, e, q1, q2, q3⟩
  ·exact .inl e
  ·refine .inr ⟨s, _, e, ?_, by omega, q3⟩
   by_cases c2 : fKind no = 2
   ·rw [fOk_2 no s c2 (by rw [q2, k1 (.inr c2)]), q1]
   ·have := k2 (by omega)
    rw [fOk_45 no s (by omega), q1, q2]; simp; omega

theorem getFieldR_cases (b : List Int) (hb : okB b) (at_ no : Int) (h0 : 0 ≤ at_) : getFieldR b at_ no = failR ∨ ∃ s e, getFieldR b at_ no = (s, e, true) ∧ fOk no s = true ∧ 0 ≤ e ∧ e ≤ (b.length : Int) := by
 have rk := fKind_range no
 have rs := fSize_range no
 by_cases c0 : fKind no = 0
 ·exact .inl (gf_0 b at_ no c0)
 by_cases c : fKind no = 1 ∨ fKind no = 2
 ·rw [gf_12 b at_ no c]
  exact tailF_cases b hb no _ _ h0 (by omega) c0 (fun _ => rfl) (fun _ => by omega)
 ·rw [gf_3 b at_ no (by omega)]
  by_cases h : (getLenR b at_ (hdF no)).2.2 = true ∧ 1 ≤ (getLenR b at_ (hdF no)).1 ∧ (getLenR b at_ (hdF no)).1 ≤ fSize no
  ·rw [head_ok b no _ h]
   have hd := hdF_or no
   generalize hdF no = d at hd h ⊢
   rcases getLenR_cases b at_ d hb hd with e | ⟨n, e, hn, ha, hx⟩
   ·rw [e] at h; exact absurd h.1 (by decide)
   ·rw [e] at h ⊢
    exact tailF_cases b hb no (at_ + (d + 1) / 2) (n : Int) (by omega) (by omega) c0 (fun q => absurd q c) (fun _ => h.2)
  ·exact .inl (head_no b no _ h)

/-! ### A message out of bytes -/

theorem bitsL_mem (b : List Int) (a k d : Nat) (x : Int) (h : x ∈ bitsL b a k d) : (k : Int) ≤ x ∧ x < (k : Int) + (d : Int) := by
 unfold bitsL at h
 obtain ⟨y, hy, rfl⟩ := List.mem_map.1 h
 have := List.mem_range'_1.1 (List.mem_filter.1 hy).1
 omega

theorem bitsL_len (b : List Int) (a k d : Nat) : (bitsL b a k d).length ≤ d := by
 unfold bitsL
 rw [List.length_map]
 exact Nat.le_trans (List.length_filter_le _ _) (by simp)

theorem bitsR_ok (b : List Int) (a : Int) (h : (bitsR b a).2.2 = true) : 0 ≤ a ∧ a + 8 ≤ (b.length : Int) ∧ (bitsR b a).2.1 = a + 8 := by
 unfold bitsR at h ⊢
 by_cases c : 0 ≤ a ∧ a + 8 ≤ (b.length : Int)
 ·rw [if_pos c]; exact ⟨c.1, c.2, rfl⟩
 ·rw [if_neg c] at h; exact absurd h (by decide)

theorem bitsR_mem (b : List Int) (a : Int) (x : Int) (h : x ∈ (bitsR b a).1) : 1 ≤ x ∧ x ≤ 64 := by
 unfold bitsR at h
 split at h
 ·have := bitsL_mem _ _ _ _ _ h; omega
 ·exact absurd h (List.not_mem_nil)

theorem bitsR_len (b : List Int) (a : Int) : (bitsR b a).1.length ≤ 64 := by
 unfold bitsR
 split
 ·exact bitsL_len _ _ _ _
 ·exact Nat.zero_le _

abbrev NosT := List Int × Int × Bool

def noneN : NosT := (([] : List Int), (0 : Int), false)

def allK (l : List Int) : Bool := l.all fun n => decide (fKind n ≠ 0)

theorem allK_iff (l : List Int) : allK l = true ↔ ∀ n ∈ l, fKind n ≠ 0 := by unfold allK; simp

theorem allK_cons (x : Int) (l : List Int) : allK (x :: l) = (decide (fKind x ≠ 0) && allK l) := rfl

def chkR (l : List Int) (e : Int) : NosT := if allK l = true then (l, e, true) else noneN

theorem chk_ok (l : List Int) (e : Int) (h : allK l = true) : chkR l e = (l, e, true) := by unfold chkR; rw [if_pos h]

theorem chk_no (l : List Int) (e : Int) (h : ¬ allK l = true) : chkR l e = noneN := by unfold chkR; rw [if_neg h]

def moreR (l : List Int) (h : NosT) : NosT := if h.2.2 = true ∧ h.1.length ≠ 0 then chkR (l ++ h.1.map (· + 64)) h.2.1 else noneN

def tailR (b : List Int) (at_ : Int) (l : List Int) (more : Bool) : NosT := if more = true then moreR l (bitsR b at_) else chkR l at_

def no1 (x : Int) : Bool := decide (x ≠ 1)

def nosR (b : List Int) : NosT := if (bitsR b 2).2.2 = true then tailR b (bitsR b 2).2.1 ((bitsR b 2).1.filter no1) (decide ((1 : Int) ∈ (bitsR b 2).1)) else noneN

theorem spec_nos_l2 (at_ : Int) (l : List Int) (hl : l.length ≤ 200) (d : Nat) : ∀ i : Nat, i + d = l.length → Ev (fun k => spec_l04Nos.l2 k at_ l l (l.length : Int) (i : Int)) (if allK (l.drop i) = true then (l, at_, true) else noneN) := by
 induction d with
 | zero =>
  intro i hi
  refine evS ?_
  simp only [spec_l04Nos.l2]
  rw [List.drop_eq_nil_of_le (by omega)]
  exact evN (by omega) (evC rfl)
 | succ d ih =>
  intro i hi
  have hlt : i < l.length := by omega
  have e := ih (i + 1) (by omega)
  refine evS ?_
  simp only [spec_l04Nos.l2, rd_at l i hlt]
  rw [w_id (x := (i : Int) + 1) (by omega) (by omega), List.drop_eq_getElem_cons hlt]
  refine evP (by omega) (evP (by omega) (evP (by omega) (evB (spec_FieldKind_ev _) ?_)))
  by_cases c : fKind l[i] = 0
  ·have : allK (l[i] :: l.drop (i + 1)) = false := by rw [allK_cons]; simp [c]
   rw [this]
   exact evP c (evC rfl)
  ·have : allK (l[i] :: l.drop (i + 1)) = allK (l.drop (i + 1)) := by rw [allK_cons]; simp [c]
   rw [this]
   exact evN c e

theorem spec_nos_j3 (at_ : Int) (l : List Int) (hl : l.length ≤ 200) : Ev (fun k => spec_l04Nos.j3 k at_ l) (chkR l at_) := by
 refine evS ?_
 simp only [spec_l04Nos.j3]
 exact spec_nos_l2 at_ l hl l.length 0 (by omega)

theorem spec_nos_l1 (at_ : Int) (h : List Int) (hh : ∀ x ∈ h, 1 ≤ x ∧ x ≤ 64) (hl : h.length ≤ 64) (d : Nat) : ∀ (i : Nat) (acc : List Int), i + d = h.length → acc.length + d ≤ 200 → Ev (fun k => spec_l04Nos.l1 k acc at_ h (h.length : Int) (i : Int)) (chkR (acc ++ (h.drop i).map (· + 64)) at_) := by
 induction d with
 | zero =>
  intro i acc hi ha
  refine evS ?_
  simp only [spec_l04Nos.l1]
  rw [List.drop_eq_nil_of_le (by omega), List.map_nil, List.append_nil]
  exact evN (by omega) (spec_nos_j3 at_ acc (by omega))
 | succ d ih =>
  intro i acc hi ha
  have hlt : i < h.length := by omega
  have r := hh _ (List.getElem_mem hlt)
  have e := ih (i + 1) (acc ++ [h[i] + 64]) (by omega) (by rw [List.length_append, List.length_singleton]; omega)
  rw [List.append_assoc, List.singleton_append] at e
  refine evS ?_
  simp only [spec_l04Nos.l1, rd_at h i hlt]
  rw [w_id (x := (i : Int) + 1) (by omega) (by omega), w_id (x := h[i] + 64) (by omega) (by omega), List.drop_eq_getElem_cons hlt, List.map_cons]
  exact evP (by omega) (evP (by omega) (evP (by omega) (evP (by omega) e)))

theorem spec_nos_end (b : List Int) (hb : okB b) (hbl : b.length ≤ 1048576) (at_ : Int) (h0 : 0 ≤ at_) (h1 : at_ ≤ 1048576) (acc : List Int) (ha : acc.length ≤ 64) (more : Bool) :
  Ev (fun k => if more = true then (spec_GetBits.f k b at_).bind fun bt => (if bt.2.2 = true then (spec_l04Nos.j1 k acc bt.1 bt.2.1 ((bt.1.length : Int) == 0)) else (spec_l04Nos.j1 k acc bt.1 bt.2.1 true)) else (spec_l04Nos.j3 k at_ acc)) (tailR b at_ acc more) := by
 unfold tailR
 cases more with
 | false => exact evN (by decide) (spec_nos_j3 at_ acc (by omega))
 | true =>
  rw [show (if true = true then moreR acc (bitsR b at_) else chkR acc at_) = moreR acc (bitsR b at_) from rfl]
  refine evP rfl (evB (spec_GetBits_ev b hb hbl at_ (by omega) (by omega)) ?_)
  have hm := bitsR_mem b at_
  have hl := bitsR_len b at_
  generalize bitsR b at_ = r at hm hl ⊢
  by_cases c : r.2.2 = true ∧ r.1.length ≠ 0
  ·have e : moreR acc r = chkR (acc ++ r.1.map (· + 64)) r.2.1 := by unfold moreR; rw [if_pos c]
   rw [e, show ((r.1.length : Int) == 0) = false from by simp; exact fun h => c.2 (by rw [h]; rfl)]
   refine evP c.1 (evS ?_)
   simp only [spec_l04Nos.j1]
   exact evN (by decide) (spec_nos_l1 r.2.1 r.1 hm hl r.1.length 0 acc (by omega) (by omega))
  ·have e : moreR acc r = noneN := by unfold moreR; rw [if_neg c]
   rw [e]
   have bad : Ev (fun k => spec_l04Nos.j1 k acc r.1 r.2.1 true) noneN := by
    refine evS ?_
    simp only [spec_l04Nos.j1]
    exact evP trivial (evC rfl)
   by_cases c2 : r.2.2 = true
   ·have z : r.1.length = 0 := Classical.byContradiction fun h => c ⟨c2, h⟩
    rw [show ((r.1.length : Int) == 0) = true from by rw [z]; rfl]
    exact evP c2 bad
   ·exact evN c2 bad

theorem spec_nos_l0 (b : List Int) (hb : okB b) (hbl : b.length ≤ 1048576) (at_ : Int) (h0 : 0 ≤ at_) (h1 : at_ ≤ 1048576) (l : List Int) (hl : l.length ≤ 64) (d : Nat) : ∀ (i : Nat) (acc : List Int) (more : Bool), i + d = l.length → acc.length + d ≤ 64 → Ev (fun k => spec_l04Nos.l0 k b at_ acc more l (l.length : Int) (i : Int)) (tailR b at_ (acc ++ (l.drop i).filter no1) (more || decide ((1 : Int) ∈ l.drop i))) := by
 induction d with
 | zero =>
  intro i acc more hi ha
  refine evS ?_
  simp only [spec_l04Nos.l0]
  rw [List.drop_eq_nil_of_le (by omega), List.filter_nil, List.append_nil, show (more || decide ((1 : Int) ∈ ([] : List Int))) = more from by simp]
  exact evN (by omega) (spec_nos_end b hb hbl at_ h0 h1 acc (by omega) more)
 | succ d ih =>
  intro i acc more hi ha
  have hlt : i < l.length := by omega
  refine evS ?_
  simp only [spec_l04Nos.l0, rd_at l i hlt]
  rw [w_id (x := (i : Int) + 1) (by omega) (by omega), List.drop_eq_getElem_cons hlt, List.filter_cons]
  refine evP (by omega) (evP (by omega) (evP (by omega) ?_))
  by_cases c : l[i] = 1
  ·have e := ih (i + 1) acc true (by omega) (by omega)
   have z1 : no1 l[i] = false := by unfold no1; simp [c]
   have z2 : (more || decide ((1 : Int) ∈ l[i] :: l.drop (i + 1))) = (true || decide ((1 : Int) ∈ l.drop (i + 1))) := by rw [c]; simp
   rw [z1, if_neg (by decide), z2]
   exact evP c e
  ·have e := ih (i + 1) (acc ++ [l[i]]) more (by omega) (by rw [List.length_append, List.length_singleton]; omega)
   rw [List.append_assoc, List.singleton_append] at e
   have z1 : no1 l[i] = true := by unfold no1; simp [c]
   have z2 : decide ((1 : Int) ∈ l[i] :: l.drop (i + 1)) = decide ((1 : Int) ∈ l.drop (i + 1)) := by
    rw [decide_eq_decide, List.mem_cons]
    exact ⟨fun h => h.resolve_left (fun q => c q.symm), .inr⟩
   rw [z1, if_pos rfl, z2]
   exact evN c (evP (by omega) e)

theorem spec_nos_ev (b : List Int) (hb : okB b) (hbl : b.length ≤ 1048576) : Ev (fun k => spec_l04Nos.f k b) (nosR b) := by
 unfold spec_l04Nos.f nosR
 refine evB (spec_GetBits_ev b hb hbl 2 (by omega) (by omega)) ?_
 have hk := bitsR_ok b 2
 have hl := bitsR_len b 2
 generalize bitsR b 2 = r at hk hl ⊢
 by_cases c : r.2.2 = true
 ·have k := hk c
  have e := spec_nos_l0 b hb hbl r.2.1 (by omega) (by omega) r.1 hl r.1.length 0 [] false (by omega) (by simp; omega)
  rw [List.drop_zero, List.nil_append, Bool.false_or] at e
  rw [show (if r.2.2 = true then tailR b r.2.1 (r.1.filter no1) (decide ((1 : Int) ∈ r.1)) else noneN) = tailR b r.2.1 (r.1.filter no1) (decide ((1 : Int) ∈ r.1)) from if_pos c]
  exact evP c e
 ·rw [show (if r.2.2 = true then tailR b r.2.1 (r.1.filter no1) (decide ((1 : Int) ∈ r.1)) else noneN) = noneN from if_neg c]
  exact evN c (evC rfl)

theorem moreR_cases (l : List Int) (b : List Int) (a : Int) (hl : l.length ≤ 64) : moreR l (bitsR b a) = noneN ∨ ∃ m e, moreR l (bitsR b a) = (m, e, true) ∧ allK m = true ∧ m.length ≤ 128 ∧ 0 ≤ e ∧ e ≤ (b.length : Int) := by
 unfold moreR
 split
 ·rename_i h
  have hk := bitsR_ok b a h.1
  have hn := bitsR_len b a
  unfold chkR
  split
  ·rename_i h2
   exact .inr ⟨_, _, rfl, h2, by rw [List.length_append, List.length_map]; omega, by omega, by omega⟩
  ·exact .inl rfl
 ·exact .inl rfl

theorem nosR_cases (b : List Int) : nosR b = noneN ∨ ∃ l e, nosR b = (l, e, true) ∧ l.length ≤ 128 ∧ 0 ≤ e ∧ e ≤ (b.length : Int) := by
 unfold nosR tailR
 have hf : ((bitsR b 2).1.filter no1).length ≤ 64 := Nat.le_trans (List.length_filter_le _ _) (bitsR_len b 2)
 split
 ·rename_i h
  have hk := bitsR_ok b 2 h
  split
  ·rcases moreR_cases ((bitsR b 2).1.filter no1) b (bitsR b 2).2.1 hf with e | ⟨m, e, q, _, q1, q2, q3⟩
   ·exact .inl e
   ·exact .inr ⟨m, e, q, q1, q2, q3⟩
  ·unfold chkR
   split
   ·exact .inr ⟨_, _, rfl, by omega, by omega, by omega⟩
   ·exact .inl rfl
 ·exact .inl rfl

abbrev MsgT := ByteArray × List S67 × Int

def failM (c : Int) : MsgT := ((⟨#[]⟩ : ByteArray), ([] : List S67), c)

def fieldsR (b : List Int) (m : ByteArray) : List Int → Int → List S67 → MsgT
 | [], e, acc => if e = (b.length : Int) then (m, acc, 0) else failM 4
 | no :: l, e, acc => if (getFieldR b e no).2.2 = true then fieldsR b m l (getFieldR b e no).2.1 (acc ++ [⟨no, (getFieldR b e no).1⟩]) else failM 3

def finR (b : List Int) (m : ByteArray) (t : NosT) : MsgT := if t.2.2 = true then fieldsR b m t.1 t.2.1 [] else failM 2

def parseR (b : List Int) : MsgT := if (bcdR b 0 4).2.2 = true then finR b (bcdR b 0 4).1 (nosR b) else failM 1

theorem spec_fields (b : List Int) (hb : okB b) (hbl : b.length ≤ 1048576) (m : ByteArray) (l : List Int) (hl : l.length ≤ 128) (d : Nat) : ∀ (i : Nat) (e : Int) (acc : List S67), i + d = l.length → acc.length + d ≤ 128 → 0 ≤ e → e ≤ (b.length : Int) → Ev (fun k => spec_Parse.l0 k b e l (l.length : Int) (i : Int) m acc) (fieldsR b m (l.drop i) e acc) := by
 induction d with
 | zero =>
  intro i e acc hi ha h0 h1
  refine evS ?_
  simp only [spec_Parse.l0]
  rw [List.drop_eq_nil_of_le (by omega), fieldsR]
  refine evN (by omega) ?_
  by_cases c : e = (b.length : Int)
  ·rw [show (if e = (b.length : Int) then (m, acc, 0) else failM 4) = (m, acc, 0) from if_pos c]; exact evP c (evC rfl)
  ·rw [show (if e = (b.length : Int) then (m, acc, 0) else failM 4) = failM 4 from if_neg c]; exact evN c (evC rfl)
 | succ d ih =>
  intro i e acc hi ha h0 h1
  have hlt : i < l.length := by omega
  refine evS ?_
  simp only [spec_Parse.l0, rd_at l i hlt]
  rw [w_id (x := (i : Int) + 1) (by omega) (by omega), List.drop_eq_getElem_cons hlt, fieldsR]
  refine evP (by omega) (evP (by omega) (evP (by omega) (evB (spec_GetField_ev b hb hbl e l[i] h0 (by omega)) ?_)))
  rcases getFieldR_cases b hb e l[i] h0 with q | ⟨s, f, q, q1, q2, q3⟩
  ·rw [q, if_neg (by decide)]; exact evN (by decide) (evC rfl)
  ·rw [q, if_pos rfl]
   exact evP rfl (evP (by omega) (ih (i + 1) f _ (by omega) (by rw [List.length_append, List.length_singleton]; omega) q2 q3))

theorem spec_Parse_ev (b : List Int) (hb : okB b) (hbl : b.length ≤ 1048576) : Ev (fun k => spec_Parse.f k b) (parseR b) := by
 unfold spec_Parse.f parseR
 refine evB (spec_GetBcd_ev b hb hbl 0 4 (by omega) (by omega)) ?_
 generalize bcdR b 0 4 = r
 by_cases c : r.2.2 = true
 ·rw [show (if r.2.2 = true then finR b r.1 (nosR b) else failM 1) = finR b r.1 (nosR b) from if_pos c]
  refine evP c (evB (spec_nos_ev b hb hbl) ?_)
  unfold finR
  rcases nosR_cases b with q | ⟨l, e, q, q1, q2, q3⟩
  ·rw [q]; exact evN (by decide) (evC rfl)
  ·rw [q]
   exact evP rfl (spec_fields b hb hbl r.1 l q1 l.length 0 e [] (by omega) (by simp; omega) q2 q3)
 ·rw [show (if r.2.2 = true then finR b r.1 (nosR b) else failM 1) = failM 1 from if_neg c]
  exact evN c (evC rfl)

theorem impl_fields (b : List Int) (hb : okB b) (hbl : b.length ≤ 1048576) (m : ByteArray) (l : List Int) (hl : l.length ≤ 128) (d : Nat) : ∀ (i : Nat) (e : Int) (acc : List S67), i + d = l.length → acc.length + d ≤ 128 → 0 ≤ e → e ≤ (b.length : Int) → Ev (fun k => impl_Parse.l2 k b e l (l.length : Int) (i : Int) m acc) (fieldsR b m (l.drop i) e acc) := by
 induction d with
 | zero =>
  intro i e acc hi ha h0 h1
  refine evS ?_
  simp only [impl_Parse.l2]
  rw [List.drop_eq_nil_of_le (by omega), fieldsR]
  refine evN (by omega) ?_
  by_cases c : e = (b.length : Int)
  ·rw [show (if e = (b.length : Int) then (m, acc, 0) else failM 4) = (m, acc, 0) from if_pos c]; exact evP c (evC rfl)
  ·rw [show (if e = (b.length : Int) then (m, acc, 0) else failM 4) = failM 4 from if_neg c]; exact evN c (evC rfl)
 | succ d ih =>
  intro i e acc hi ha h0 h1
  have hlt : i < l.length := by omega
  refine evS ?_
  simp only [impl_Parse.l2, rd_at l i hlt]
  rw [w_id (x := (i : Int) + 1) (by omega) (by omega), List.drop_eq_getElem_cons hlt, fieldsR]
  refine evP (by omega) (evP (by omega) (evP (by omega) (evB (impl_GetField_ev b hb hbl e l[i] h0 (by omega)) ?_)))
  rcases getFieldR_cases b hb e l[i] h0 with q | ⟨s, f, q, q1, q2, q3⟩
  ·rw [q, if_neg (by decide)]; exact evN (by decide) (evC rfl)
  ·rw [q, if_pos rfl]
   exact evP rfl (evP (by omega) (ih (i + 1) f _ (by omega) (by rw [List.length_append, List.length_singleton]; omega) q2 q3))

theorem impl_parse_j3 (b : List Int) (hb : okB b) (hbl : b.length ≤ 1048576) (m : ByteArray) (l : List Int) (hl : l.length ≤ 128) (e : Int) (h0 : 0 ≤ e) (h1 : e ≤ (b.length : Int)) : Ev (fun k => impl_Parse.j3 k b m e l) (fieldsR b m l e []) := by
 refine evS ?_
 simp only [impl_Parse.j3]
 exact impl_fields b hb hbl m l hl l.length 0 e [] (by omega) (by simp; omega) h0 h1

theorem finR_no (b : List Int) (m : ByteArray) : finR b m noneN = failM 2 := rfl

theorem allK_bad (l : List Int) (x : Int) (h : x ∈ l) (hx : fKind x = 0) : ¬ allK l = true := fun a => (allK_iff l).1 a x h hx

theorem impl_parse_l1 (b : List Int) (hb : okB b) (hbl : b.length ≤ 1048576) (m : ByteArray) (at_ : Int) (h0 : 0 ≤ at_) (h1 : at_ ≤ (b.length : Int)) (h : List Int) (hh : ∀ x ∈ h, 1 ≤ x ∧ x ≤ 64) (hl : h.length ≤ 64) (d : Nat) : ∀ (i : Nat) (acc : List Int), i + d = h.length → acc.length + d ≤ 128 → allK acc = true → Ev (fun k => impl_Parse.l1 k b m at_ acc h (h.length : Int) (i : Int)) (finR b m (chkR (acc ++ (h.drop i).map (· + 64)) at_)) := by
 induction d with
 | zero =>
  intro i acc hi ha hk
  refine evS ?_
  simp only [impl_Parse.l1]
  rw [List.drop_eq_nil_of_le (by omega), List.map_nil, List.append_nil, chk_ok _ _ hk]
  exact evN (by omega) (impl_parse_j3 b hb hbl m acc (by omega) at_ h0 h1)
 | succ d ih =>
  intro i acc hi ha hk
  have hlt : i < h.length := by omega
  have r := hh _ (List.getElem_mem hlt)
  refine evS ?_
  simp only [impl_Parse.l1, rd_at h i hlt]
  rw [w_id (x := (i : Int) + 1) (by omega) (by omega), w_id (x := h[i] + 64) (by omega) (by omega), List.drop_eq_getElem_cons hlt, List.map_cons]
  refine evP (by omega) (evP (by omega) (evP (by omega) (evB (impl_FieldKind_ev _) ?_)))
  by_cases c : fKind (h[i] + 64) = 0
  ·rw [chk_no _ _ (allK_bad _ (h[i] + 64) (by simp) c), finR_no]
   exact evP c (evC rfl)
  ·have e := ih (i + 1) (acc ++ [h[i] + 64]) (by omega) (by rw [List.length_append, List.length_singleton]; omega) (by
    rw [allK_iff] at hk ⊢
    intro n hn
    rcases List.mem_append.1 hn with hn | hn
    ·exact hk n hn
    ·rw [List.mem_singleton.1 hn]; exact c)
   rw [List.append_assoc, List.singleton_append] at e
   exact evN c (evP (by omega) e)

theorem impl_parse_end (b : List Int) (hb : okB b) (hbl : b.length ≤ 1048576) (m : ByteArray) (at_ : Int) (h0 : 0 ≤ at_) (h1 : at_ ≤ (b.length : Int)) (acc : List Int) (ha : acc.length ≤ 64) (hk : allK acc = true) (more : Bool) :
  Ev (fun k => if more = true then (impl_GetBits.f k b at_).bind fun bt => (if bt.2.2 = true then (impl_Parse.j1 k b m bt.2.1 acc bt.1 ((bt.1.length : Int) == 0)) else (impl_Parse.j1 k b m bt.2.1 acc bt.1 true)) else (impl_Parse.j3 k b m at_ acc)) (finR b m (tailR b at_ acc more)) := by
 unfold tailR
 cases more with
 | false =>
  rw [show (if false = true then moreR acc (bitsR b at_) else chkR acc at_) = chkR acc at_ from rfl, chk_ok _ _ hk]
  exact evN (by decide) (impl_parse_j3 b hb hbl m acc (by omega) at_ h0 h1)
 | true =>
  rw [show (if true = true then moreR acc (bitsR b at_) else chkR acc at_) = moreR acc (bitsR b at_) from rfl]
  refine evP rfl (evB (impl_GetBits_ev b hb hbl at_ (by omega) (by omega)) ?_)
  have hm := bitsR_mem b at_
  have hl := bitsR_len b at_
  have hok := bitsR_ok b at_
  generalize bitsR b at_ = r at hm hl hok ⊢
  by_cases c : r.2.2 = true ∧ r.1.length ≠ 0
  ·have e : moreR acc r = chkR (acc ++ r.1.map (· + 64)) r.2.1 := by unfold moreR; rw [if_pos c]
   have o := hok c.1
   rw [e, show ((r.1.length : Int) == 0) = false from by simp; exact fun h => c.2 (by rw [h]; rfl)]
   refine evP c.1 (evS ?_)
   simp only [impl_Parse.j1]
   exact evN (by decide) (impl_parse_l1 b hb hbl m r.2.1 (by omega) (by omega) r.1 hm hl r.1.length 0 acc (by omega) (by omega) hk)
  ·have e : moreR acc r = noneN := by unfold moreR; rw [if_neg c]
   rw [e, finR_no]
   have bad : Ev (fun k => impl_Parse.j1 k b m r.2.1 acc r.1 true) (failM 2) := by
    refine evS ?_
    simp only [impl_Parse.j1]
    exact evP trivial (evC rfl)
   by_cases c2 : r.2.2 = true
   ·have z : r.1.length = 0 := Classical.byContradiction fun h => c ⟨c2, h⟩
    rw [show ((r.1.length : Int) == 0) = true from by rw [z]; rfl]
    exact evP c2 bad
   ·exact evN c2 bad

theorem tailR_bad (b : List Int) (at_ : Int) (l : List Int) (more : Bool) (x : Int) (h : x ∈ l) (hx : fKind x = 0) : tailR b at_ l more = noneN := by
 unfold tailR moreR
 split
 ·split
  ·exact chk_no _ _ (allK_bad _ x (List.mem_append_left _ h) hx)
  ·rfl
 ·exact chk_no _ _ (allK_bad _ x h hx)

theorem impl_parse_l0 (b : List Int) (hb : okB b) (hbl : b.length ≤ 1048576) (m : ByteArray) (at_ : Int) (h0 : 0 ≤ at_) (h1 : at_ ≤ (b.length : Int)) (l : List Int) (hl : l.length ≤ 64) (d : Nat) : ∀ (i : Nat) (acc : List Int) (more : Bool), i + d = l.length → acc.length + d ≤ 64 → allK acc = true → Ev (fun k => impl_Parse.l0 k b m at_ acc more l (l.length : Int) (i : Int)) (finR b m (tailR b at_ (acc ++ (l.drop i).filter no1) (more || decide ((1 : Int) ∈ l.drop i)))) := by
 induction d with
 | zero =>
  intro i acc more hi ha hk
  refine evS ?_
  simp only [impl_Parse.l0]
  rw [List.drop_eq_nil_of_le (by omega), List.filter_nil, List.append_nil, show (more || decide ((1 : Int) ∈ ([] : List Int))) = more from by simp]
  exact evN (by omega) (impl_parse_end b hb hbl m at_ h0 h1 acc (by omega) hk more)
 | succ d ih =>
  intro i acc more hi ha hk
  have hlt : i < l.length := by omega
  refine evS ?_
  simp only [impl_Parse.l0, rd_at l i hlt]
  rw [w_id (x := (i : Int) + 1) (by omega) (by omega), List.drop_eq_getElem_cons hlt, List.filter_cons]
  refine evP (by omega) (evP (by omega) (evP (by omega) ?_))
  by_cases c : l[i] = 1
  ·have e := ih (i + 1) acc true (by omega) (by omega) hk
   have z1 : no1 l[i] = false := by unfold no1; simp [c]
   have z2 : (more || decide ((1 : Int) ∈ l[i] :: l.drop (i + 1))) = (true || decide ((1 : Int) ∈ l.drop (i + 1))) := by rw [c]; simp
   rw [z1, if_neg (by decide), z2]
   exact evP c e
  ·have z1 : no1 l[i] = true := by unfold no1; simp [c]
   have z2 : decide ((1 : Int) ∈ l[i] :: l.drop (i + 1)) = decide ((1 : Int) ∈ l.drop (i + 1)) := by
    rw [decide_eq_decide, List.mem_cons]
    exact ⟨fun h => h.resolve_left (fun q => c q.symm), .inr⟩
   rw [z1, if_pos rfl, z2]
   refine evN c (evB (impl_FieldKind_ev _) ?_)
   by_cases k0 : fKind l[i] = 0
   ·rw [tailR_bad b at_ _ _ l[i] (by simp) k0, finR_no]
    exact evP k0 (evC rfl)
   ·have e := ih (i + 1) (acc ++ [l[i]]) more (by omega) (by rw [List.length_append, List.length_singleton]; omega) (by
     rw [allK_iff] at hk ⊢
     intro n hn
     rcases List.mem_append.1 hn with hn | hn
     ·exact hk n hn
     ·rw [List.mem_singleton.1 hn]; exact k0)
    rw [List.append_assoc, List.singleton_append] at e
    exact evN k0 (evP (by omega) e)

theorem impl_Parse_ev (b : List Int) (hb : okB b) (hbl : b.length ≤ 1048576) : Ev (fun k => impl_Parse.f k b) (parseR b) := by
 unfold impl_Parse.f parseR
 refine evB (impl_GetBcd_ev b hb hbl 0 4 (by omega) (by omega)) ?_
 rcases bcdR_cases b 0 4 hb with q | ⟨s, q, q1, q2, q3, q4, q5, q6⟩
 ·rw [q]; exact evN (by decide) (evC rfl)
 ·rw [q]
  refine evP rfl (evB (impl_GetBits_ev b hb hbl 2 (by omega) (by omega)) ?_)
  show Ev _ (finR b s (nosR b))
  unfold nosR
  have hk := bitsR_ok b 2
  have hl := bitsR_len b 2
  generalize bitsR b 2 = r at hk hl ⊢
  by_cases c : r.2.2 = true
  ·have k := hk c
   have e := impl_parse_l0 b hb hbl s r.2.1 (by omega) (by omega) r.1 hl r.1.length 0 [] false (by omega) (by simp; omega) (by decide)
   rw [List.drop_zero, List.nil_append, Bool.false_or] at e
   rw [show (if r.2.2 = true then tailR b r.2.1 (r.1.filter no1) (decide ((1 : Int) ∈ r.1)) else noneN) = tailR b r.2.1 (r.1.filter no1) (decide ((1 : Int) ∈ r.1)) from if_pos c]
   exact evP c e
  ·rw [show (if r.2.2 = true then tailR b r.2.1 (r.1.filter no1) (decide ((1 : Int) ∈ r.1)) else noneN) = noneN from if_neg c, finR_no]
   exact evN c (evC rfl)

theorem fieldsR_cases (b : List Int) (hb : okB b) (m : ByteArray) (l : List Int) : ∀ (e : Int) (acc : List S67), 0 ≤ e → (∀ y ∈ acc, y.f1.size ≤ 60) → (∃ c, fieldsR b m l e acc = failM c ∧ c ≠ 0) ∨ ∃ ys, fieldsR b m l e acc = (m, ys, 0) ∧ ys.length = acc.length + l.length ∧ ∀ y ∈ ys, y.f1.size ≤ 60 := by
 induction l with
 | nil =>
  intro e acc h0 ha
  rw [fieldsR]
  split
  ·exact .inr ⟨acc, rfl, by simp, ha⟩
  ·exact .inl ⟨4, rfl, by decide⟩
 | cons no l ih =>
  intro e acc h0 ha
  rw [fieldsR]
  rcases getFieldR_cases b hb e no h0 with q | ⟨s, f, q, q1, q2, q3⟩
  ·rw [q, if_neg (by decide)]; exact .inl ⟨3, rfl, by decide⟩
  ·rw [q, if_pos rfl]
   rcases ih f (acc ++ [⟨no, s⟩]) q2 (by
    intro y hy
    rcases List.mem_append.1 hy with hy | hy
    ·exact ha y hy
    ·rw [List.mem_singleton.1 hy]; exact fOk_size no s q1) with h | ⟨ys, h, h1, h2⟩
   ·exact .inl h
   ·exact .inr ⟨ys, h, by rw [h1, List.length_append, List.length_singleton, List.length_cons]; omega, h2⟩

theorem parseR_cases (b : List Int) (hb : okB b) : (∃ c, parseR b = failM c ∧ c ≠ 0) ∨ ∃ m ys, parseR b = (m, ys, 0) ∧ m.size = 4 ∧ digits m = true ∧ ys.length ≤ 128 ∧ ∀ y ∈ ys, y.f1.size ≤ 60 := by
 unfold parseR finR
 rcases bcdR_cases b 0 4 hb with q | ⟨s, q, q1, q2, q3, q4, q5, q6⟩
 ·rw [q]; exact .inl ⟨1, rfl, by decide⟩
 ·rw [q]
  rcases nosR_cases b with q | ⟨l, e, q, w1, w2, w3⟩
  ·rw [q]; exact .inl ⟨2, rfl, by decide⟩
  ·rw [q]
   show (∃ c, fieldsR b s l e [] = failM c ∧ c ≠ 0) ∨ ∃ m ys, fieldsR b s l e [] = (m, ys, 0) ∧ _
   rcases fieldsR_cases b hb s l e [] w2 (by simp) with h | ⟨ys, h, h1, h2⟩
   ·exact .inl h
   ·exact .inr ⟨s, ys, h, by omega, q1, by rw [h1]; simp; omega, h2⟩

/-! ### A field of a message, by its number -/

theorem rdI_Fld (xs : List S67) (i : Nat) (h : i < xs.length) : rd_T67 xs (i : Int) = xs[i] := by unfold rd_T67; exact getD_at _ xs i h

def fieldOfR (no : Int) : List S67 → ByteArray × Bool
 | [] => ((⟨#[]⟩ : ByteArray), false)
 | y :: l => if y.f0 = no then (y.f1, true) else fieldOfR no l

theorem spec_FieldOf_l0 (no : Int) (ys : List S67) (hl : ys.length ≤ 140737488355328) (d : Nat) : ∀ i : Nat, i + d = ys.length → Ev (fun k => spec_FieldOf.l0 k no ys (ys.length : Int) (i : Int)) (fieldOfR no (ys.drop i)) := by
 induction d with
 | zero =>
  intro i hi
  refine evS ?_
  simp only [spec_FieldOf.l0]
  rw [List.drop_eq_nil_of_le (by omega)]
  exact evN (by omega) (evC rfl)
 | succ d ih =>
  intro i hi
  have hlt : i < ys.length := by omega
  refine evS ?_
  simp only [spec_FieldOf.l0, rdI_Fld ys i hlt]
  rw [w_id (x := (i : Int) + 1) (by omega) (by omega), List.drop_eq_getElem_cons hlt, fieldOfR]
  refine evP (by omega) (evP (by omega) (evP (by omega) ?_))
  by_cases c : ys[i].f0 = no
  ·rw [show (if ys[i].f0 = no then (ys[i].f1, true) else fieldOfR no (ys.drop (i + 1))) = (ys[i].f1, true) from if_pos c]; exact evP c (evC rfl)
  ·rw [show (if ys[i].f0 = no then (ys[i].f1, true) else fieldOfR no (ys.drop (i + 1))) = fieldOfR no (ys.drop (i + 1)) from if_neg c]; exact evN c (ih (i + 1) (by omega))

theorem spec_FieldOf_ev (m : ByteArray) (no : Int) (ys : List S67) (hl : ys.length ≤ 140737488355328) : Ev (fun k => spec_FieldOf.f k m ys no) (fieldOfR no ys) := spec_FieldOf_l0 no ys hl ys.length 0 (by omega)

theorem impl_FieldOf_l0 (no : Int) (ys : List S67) (hl : ys.length ≤ 140737488355328) (d : Nat) : ∀ i : Nat, i + d = ys.length → Ev (fun k => impl_FieldOf.l0 k no ys (ys.length : Int) (i : Int)) (fieldOfR no (ys.drop i)) := by
 induction d with
 | zero =>
  intro i hi
  refine evS ?_
  simp only [impl_FieldOf.l0]
  rw [List.drop_eq_nil_of_le (by omega)]
  exact evN (by omega) (evC rfl)
 | succ d ih =>
  intro i hi
  have hlt : i < ys.length := by omega
  refine evS ?_
  simp only [impl_FieldOf.l0, rdI_Fld ys i hlt]
  rw [w_id (x := (i : Int) + 1) (by omega) (by omega), List.drop_eq_getElem_cons hlt, fieldOfR]
  refine evP (by omega) (evP (by omega) (evP (by omega) ?_))
  by_cases c : ys[i].f0 = no
  ·rw [show (if ys[i].f0 = no then (ys[i].f1, true) else fieldOfR no (ys.drop (i + 1))) = (ys[i].f1, true) from if_pos c]; exact evP c (evC rfl)
  ·rw [show (if ys[i].f0 = no then (ys[i].f1, true) else fieldOfR no (ys.drop (i + 1))) = fieldOfR no (ys.drop (i + 1)) from if_neg c]; exact evN c (ih (i + 1) (by omega))

theorem impl_FieldOf_ev (m : ByteArray) (no : Int) (ys : List S67) (hl : ys.length ≤ 140737488355328) : Ev (fun k => impl_FieldOf.f k m ys no) (fieldOfR no ys) := impl_FieldOf_l0 no ys hl ys.length 0 (by omega)

theorem toByteS_l0 (xs : List Int) (hl : xs.length ≤ 1048576) (d : Nat) : ∀ (i : Nat) (ys : List Int), i + d = xs.length → ys.length = xs.length →
  Ev (fun k => laws_toByteS.l0 k xs ys (i : Int)) (ys.take i ++ xs.drop i) := by
 induction d with
 | zero =>
  intro i ys hi hy
  refine evS ?_
  simp only [laws_toByteS.l0]
  refine evN (by omega) (evC ?_)
  rw [List.drop_eq_nil_of_le (by omega), List.take_of_length_le (by omega)]; simp
 | succ d ih =>
  intro i ys hi hy
  have hlt : i < xs.length := by omega
  refine evS ?_
  simp only [laws_toByteS.l0, rd_at xs i hlt, Int.toNat_natCast]
  refine evP (by omega) (evP (by omega) (evP (by omega) ?_))
  rw [w_id (by omega) (by omega)]
  have e := ih (i + 1) (ys.set i xs[i]) (by omega) (by rw [List.length_set]; exact hy)
  rw [take_set ys i _ (by omega), List.append_assoc, List.singleton_append, ← List.drop_eq_getElem_cons hlt] at e
  exact e

theorem toByteS_ev (xs : List Int) (hl : xs.length ≤ 1048576) : Ev (fun k => laws_toByteS.f k xs) xs := by
 unfold laws_toByteS.f
 refine evP (by omega) (evP (by rw [Int.toNat_natCast]; omega) ?_)
 rw [Int.toNat_natCast]
 have e := toByteS_l0 xs hl xs.length 0 (List.replicate xs.length 0) (by omega) (by simp)
 simpa using e

theorem eqByteS_l0 (ys : List Int) (hl : ys.length ≤ 1048576) (d : Nat) : ∀ (i : Nat), i + d = ys.length → Ev (fun k => laws_eqByteS.l0 k ys ys (i : Int)) true := by
 induction d with
 | zero =>
  intro i hi
  refine evS ?_
  simp only [laws_eqByteS.l0]
  exact evN (by omega) (evC rfl)
 | succ d ih =>
  intro i hi
  have hlt : i < ys.length := by omega
  refine evS ?_
  simp only [laws_eqByteS.l0, rd_at ys i hlt]
  refine evP (by omega) (evP (by omega) (evP (by omega) (evP trivial ?_)))
  rw [w_id (by omega) (by omega)]
  exact ih (i + 1) (by omega)

theorem eqByteS_refl (ys : List Int) (hl : ys.length ≤ 1048576) : Ev (fun k => laws_eqByteS.f k ys ys) true := by
 unfold laws_eqByteS.f
 exact evP rfl (eqByteS_l0 ys hl ys.length 0 (by omega))

/-! ### The reply's code -/

def idxT (s : ByteArray) : List ByteArray → Int → Option Int
 | [], _ => none
 | x :: l, i => if s.toList = x.toList then some i else idxT s l (i + 1)

theorem rdS_at (xs : List ByteArray) (i : Nat) (h : i < xs.length) : rdOf ByteArray.empty xs (i : Int) = xs[i] := by unfold rdOf; exact getD_at _ xs i h

theorem idxT_pos (s : ByteArray) (l : List ByteArray) : ∀ (i j : Int), idxT s l i = some j → 0 ≤ i → 0 ≤ j := by
 induction l with
 | nil => intro i j h; exact absurd h (by simp [idxT])
 | cons x l ih =>
  intro i j h h0
  rw [idxT] at h
  split at h
  ·obtain rfl := Option.some.inj h; exact h0
  ·exact ih _ _ h (by omega)

def codeS (o : Option Int) : Int × Bool := match o with | some j => (j, true) | none => (0, false)

def codeI (o : Option Int) : Int := match o with | some j => j | none => -1

theorem spec_TextRs_l0 (s : ByteArray) (xs : List ByteArray) (hl : xs.length ≤ 1000) (d : Nat) : ∀ i : Nat, i + d = xs.length → Ev (fun k => spec_TextRs.l0 k s xs (xs.length : Int) (i : Int)) (codeS (idxT s (xs.drop i) (i : Int))) := by
 induction d with
 | zero =>
  intro i hi
  refine evS ?_
  simp only [spec_TextRs.l0]
  rw [List.drop_eq_nil_of_le (by omega)]
  exact evN (by omega) (evC rfl)
 | succ d ih =>
  intro i hi
  have hlt : i < xs.length := by omega
  have e := ih (i + 1) (by omega)
  refine evS ?_
  simp only [spec_TextRs.l0, rdS_at xs i hlt]
  rw [w_id (x := (i : Int) + 1) (by omega) (by omega), List.drop_eq_getElem_cons hlt, idxT]
  refine evP (by omega) (evP (by omega) (evP (by omega) ?_))
  by_cases c : s.toList = xs[i].toList
  ·rw [show (if s.toList = xs[i].toList then some (i : Int) else idxT s (xs.drop (i + 1)) ((i : Int) + 1)) = some (i : Int) from if_pos c]; exact evP c.symm (evC rfl)
  ·rw [show (if s.toList = xs[i].toList then some (i : Int) else idxT s (xs.drop (i + 1)) ((i : Int) + 1)) = idxT s (xs.drop (i + 1)) ((i : Int) + 1) from if_neg c]; exact evN (fun h => c h.symm) e

theorem Index_str_l0 (s : ByteArray) (xs : List ByteArray) (hl : xs.length ≤ 1000) (d : Nat) : ∀ i : Nat, i + d = xs.length → Ev (fun k => slices_Index_string_string.l0 k xs s (xs.length : Int) (i : Int)) (codeI (idxT s (xs.drop i) (i : Int))) := by
 induction d with
 | zero =>
  intro i hi
  refine evS ?_
  simp only [slices_Index_string_string.l0]
  rw [List.drop_eq_nil_of_le (by omega)]
  exact evN (by omega) (evC rfl)
 | succ d ih =>
  intro i hi
  have hlt : i < xs.length := by omega
  have e := ih (i + 1) (by omega)
  refine evS ?_
  simp only [slices_Index_string_string.l0, rdS_at xs i hlt]
  rw [w_id (x := (i : Int) + 1) (by omega) (by omega), List.drop_eq_getElem_cons hlt, idxT]
  refine evP (by omega) (evP (by omega) (evP (by omega) ?_))
  by_cases c : s.toList = xs[i].toList
  ·rw [show (if s.toList = xs[i].toList then some (i : Int) else idxT s (xs.drop (i + 1)) ((i : Int) + 1)) = some (i : Int) from if_pos c]; exact evP c (evC rfl)
  ·rw [show (if s.toList = xs[i].toList then some (i : Int) else idxT s (xs.drop (i + 1)) ((i : Int) + 1)) = idxT s (xs.drop (i + 1)) ((i : Int) + 1) from if_neg c]; exact evN c e

def rsL : List ByteArray := [⟨#[48, 48]⟩, ⟨#[51, 48]⟩, ⟨#[49, 50]⟩, ⟨#[49, 52]⟩, ⟨#[49, 51]⟩, ⟨#[50, 53]⟩, ⟨#[57, 52]⟩, ⟨#[53, 49]⟩, ⟨#[54, 53]⟩, ⟨#[54, 49]⟩, ⟨#[57, 54]⟩]

theorem spec_TextRs_ev (s : ByteArray) : Ev (fun k => spec_TextRs.f k s) (codeS (idxT s rsL 0)) := by
 unfold spec_TextRs.f
 exact evK (a := rsL) rfl (spec_TextRs_l0 s rsL (by decide) 11 0 rfl)

theorem impl_TextRs_ev (s : ByteArray) : Ev (fun k => impl_TextRs.f k s) (codeS (idxT s rsL 0)) := by
 unfold impl_TextRs.f slices_Index_string_string.f
 refine evK (a := rsL) rfl (evB (Index_str_l0 s rsL (by decide) 11 0 rfl) (evC ?_))
 rw [List.drop_zero]
 have h := idxT_pos s rsL 0
 rw [show ((0 : Nat) : Int) = 0 from rfl]
 cases c : idxT s rsL 0 with
 | none => rfl
 | some j =>
  have := h j c (by omega)
  show some (mx j 0, decide (j ≥ 0)) = some (j, true)
  unfold mx
  simp
  omega

def replyR (b : List Int) : Int × Bool := if (parseR b).2.2 = 0 ∧ (fieldOfR 39 (parseR b).2.1).2 = true then codeS (idxT (fieldOfR 39 (parseR b).2.1).1 rsL 0) else (0, false)

theorem parseR_len (b : List Int) (hb : okB b) : (parseR b).2.1.length ≤ 128 := by
 rcases parseR_cases b hb with ⟨c, e, _⟩ | ⟨m, ys, e, _, _, h, _⟩
 ·rw [e]; exact Nat.zero_le _
 ·rw [e]; exact h

theorem spec_ReplyCode_ev (b : List Int) (hb : okB b) (hbl : b.length ≤ 1048576) : Ev (fun k => spec_ReplyCode.f k b) (replyR b) := by
 have hl := parseR_len b hb
 unfold spec_ReplyCode.f replyR
 refine evB (spec_Parse_ev b hb hbl) (evB (spec_FieldOf_ev _ 39 _ (by omega)) ?_)
 generalize fieldOfR 39 (parseR b).2.1 = g
 generalize parseR b = p
 by_cases c : p.2.2 = 0
 ·by_cases d : g.2 = true
  ·rw [show (if p.2.2 = 0 ∧ g.2 = true then codeS (idxT g.1 rsL 0) else (0, false)) = codeS (idxT g.1 rsL 0) from if_pos ⟨c, d⟩]
   exact evP c (evP d (evB (spec_TextRs_ev g.1) (evC rfl)))
  ·rw [show (if p.2.2 = 0 ∧ g.2 = true then codeS (idxT g.1 rsL 0) else (0, false)) = (0, false) from if_neg (fun h => d h.2)]
   exact evP c (evN d (evC rfl))
 ·rw [show (if p.2.2 = 0 ∧ g.2 = true then codeS (idxT g.1 rsL 0) else (0, false)) = (0, false) from if_neg (fun h => c h.1)]
  exact evN c (evC rfl)

theorem impl_ReplyCode_ev (b : List Int) (hb : okB b) (hbl : b.length ≤ 1048576) : Ev (fun k => impl_ReplyCode.f k b) (replyR b) := by
 have hl := parseR_len b hb
 unfold impl_ReplyCode.f replyR
 refine evB (impl_Parse_ev b hb hbl) (evB (impl_FieldOf_ev _ 39 _ (by omega)) ?_)
 generalize fieldOfR 39 (parseR b).2.1 = g
 generalize parseR b = p
 by_cases c : p.2.2 = 0
 ·by_cases d : g.2 = true
  ·rw [show (if p.2.2 = 0 ∧ g.2 = true then codeS (idxT g.1 rsL 0) else (0, false)) = codeS (idxT g.1 rsL 0) from if_pos ⟨c, d⟩]
   exact evP c (evP d (evB (impl_TextRs_ev g.1) (evC rfl)))
  ·rw [show (if p.2.2 = 0 ∧ g.2 = true then codeS (idxT g.1 rsL 0) else (0, false)) = (0, false) from if_neg (fun h => d h.2)]
   exact evP c (evN d (evC rfl))
 ·rw [show (if p.2.2 = 0 ∧ g.2 = true then codeS (idxT g.1 rsL 0) else (0, false)) = (0, false) from if_neg (fun h => c h.1)]
  exact evN c (evC rfl)

theorem FnExactReplyCode : laws_FnExactReplyCode.Pure := by
 intro b hb
 refine Ev.rounds ?_
 unfold laws_FnExactReplyCode.f
 by_cases c : (b.length : Int) > 1048576
 ·exact evP c (evC rfl)
 have hl : b.length ≤ 1048576 := by omega
 have ok : okB b := fun x hx => u8_range (hb.2 x hx)
 have T := toByteS_ev b hl
 refine evN c (evB T (evB (spec_ReplyCode_ev b ok hl) (evB T (evB (impl_ReplyCode_ev b ok hl) (evP rfl (evS ?_))))))
 simp only [laws_FnExactReplyCode.j0]
 exact evN (by simp) (evB T (evB (eqByteS_refl b hl) (evP rfl (evC rfl))))

end Go.Proofs.YtbjpfknmkpnhjaaDoor.Pure
