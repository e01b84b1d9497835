/- For every hold the program's HoldOk returns what the reference's HoldOk returns. Conditions: none. -/
import Derived.Test.YtbllcjgccpdbkaaQFnExactHoldOkx0
import Derived.Test.YtbllcjgccpdbkaaQFnExactHoldOkx1
import Derived.Laws.BitsLemmas
namespace Go.Proofs.Ytbllcjgccpdbkaa.Pure
open Go.RowKit Go.Proofs.Ytbllcjgccpdbkaa.QFnExactHoldOk Go.Proofs.YtbllcjgccpdbkaaW.PrintWords Go.Proofs.YtbllcjgccpdbkaaW.PrintLast
set_option linter.unusedVariables false
set_option linter.unusedSimpArgs false

theorem w_id {x : Int} (h0 : -9223372036854775808 ≤ x) (h1 : x ≤ 9223372036854775807) : wrap64 x = x := by unfold wrap64; omega
theorem tl_eq (s : ByteArray) : s.toList = s.data.toList := Go.ByteArray.toList_eq s
theorem ba_eq {s t : ByteArray} (h : s.toList = t.toList) : s = t := by
  rw [tl_eq, tl_eq] at h
  cases s; cases t; simp only [Array.toList_inj] at h; subst h; rfl
theorem tl_len (s : ByteArray) : s.toList.length = s.size := by rw [tl_eq]; simp
theorem ne_nil_eq (s : ByteArray) : (s.toList != ([] : List UInt8)) = decide (0 < s.size) := by
  have := tl_len s
  by_cases h : s.size = 0
  · have e : s.toList = [] := List.eq_nil_of_length_eq_zero (by omega)
    rw [e]; simp [h]
  · have e : s.toList ≠ [] := fun e => h (by rw [← tl_len, e]; rfl)
    rw [bne_iff_ne.2 e]; simp; omega
/-- All bytes from i on are as p says. -/
def allFrom (p : Int → Bool) (s : ByteArray) (i : Nat) : Bool := ((List.range s.size).drop i).all fun j => p (bt s (j : Int))
theorem allFrom_end (p : Int → Bool) (s : ByteArray) {i : Nat} (h : s.size ≤ i) : allFrom p s i = true := by
  unfold allFrom; rw [List.drop_eq_nil_of_le (by simpa using h)]; rfl
theorem allFrom_step (p : Int → Bool) (s : ByteArray) {i : Nat} (h : i < s.size) : allFrom p s i = (p (bt s (i : Int)) && allFrom p s (i + 1)) := by
  unfold allFrom; rw [List.drop_eq_getElem_cons (by simpa using h)]; simp

theorem evC {α : Type} {x : Option α} {r : α} (h : x = some r) : Ev (fun _ => x) r := ⟨0, fun _ _ => h⟩
theorem evP {α : Type} {c : Prop} [Decidable c] {f g : Nat → Option α} {r : α} (h : c) (k : Ev f r) : Ev (fun n => if c then f n else g n) r := by
  obtain ⟨K, k⟩ := k
  exact ⟨K, fun n hn => by show (if c then f n else g n) = some r; rw [if_pos h]; exact k n hn⟩
theorem evN {α : Type} {c : Prop} [Decidable c] {f g : Nat → Option α} {r : α} (h : ¬ c) (k : Ev g r) : Ev (fun n => if c then f n else g n) r := by
  obtain ⟨K, k⟩ := k
  exact ⟨K, fun n hn => by show (if c then f n else g n) = some r; rw [if_neg h]; exact k n hn⟩
theorem evS {α : Type} {g : Nat → Option α} {r : α} (h : Ev (fun k => g (k + 1)) r) : Ev g r := by
  obtain ⟨K, h⟩ := h
  refine ⟨K + 1, fun n hn => ?_⟩
  obtain ⟨m, rfl⟩ : ∃ m, n = m + 1 := ⟨n - 1, by omega⟩
  exact h m (by omega)
theorem evB {α β : Type} {g : Nat → Option α} {f : Nat → α → Option β} {a : α} {r : β} (h : Ev g a) (k : Ev (fun n => f n a) r) : Ev (fun n => (g n).bind fun t => f n t) r := Ev.bind h k
/-- A callee without rounds. -/
theorem evK {α β : Type} {x : Option α} {f : Nat → α → Option β} {a : α} {r : β} (h : x = some a) (k : Ev (fun n => f n a) r) : Ev (fun n => x.bind fun t => f n t) r := Ev.bind (evC h) k
theorem evFrom {α : Type} {g : Nat → Option α} {r : α} (K : Nat) (h : ∀ k, K ≤ k → g k = some r) : Ev g r := ⟨K, h⟩
theorem i64_range {n : Int} (h : (Lit.int .i64 n).wf = true) : -9223372036854775808 ≤ n ∧ n ≤ 9223372036854775807 := by
  simp [Lit.wf, IntKind.min, IntKind.max, IntKind.bits, IntKind.signed] at h
  omega
theorem u8_range {n : Int} (h : (Lit.int .u8 n).wf = true) : 0 ≤ n ∧ n ≤ 255 := by
  simp [Lit.wf, IntKind.min, IntKind.max, IntKind.bits, IntKind.signed] at h
  omega
/-- What both tell is alike. -/
theorem ev_same {r : Bool} : Ev (fun _ => if (r != r) = true then some false else some true) true := evC (by simp)
theorem ite_and (a b : Bool) : (if a = true then some b else some false) = some (a && b) := by cases a <;> rfl

theorem spec_In_f (a b c : Int) : spec_l01In.f a b c = some (decide (b ≤ a) && decide (a ≤ c)) := by
  unfold spec_l01In.f
  by_cases h : a ≥ b
  · rw [if_pos h]; have : b ≤ a := h
    simp [this]
  · rw [if_neg h]; have : ¬ b ≤ a := h
    simp [this]
theorem within_f (a b c : Int) : impl_within.f a b c = some (decide (b ≤ a) && decide (a ≤ c)) := by
  unfold impl_within.f
  by_cases h : b ≤ a
  · rw [if_pos h]; simp [h]
  · rw [if_neg h]; simp [h]

def idSign (c : Int) : Bool := (decide (48 ≤ c) && decide (c ≤ 57)) || (decide (97 ≤ c) && decide (c ≤ 122))
def holdIdOk (s : ByteArray) : Bool := allFrom idSign s 0 && (decide (1 ≤ (s.size : Int)) && decide ((s.size : Int) ≤ 6))
theorem idSign_ite {α : Type} (c : Int) (x y : α) :
    (if c < 48 then (if c < 97 then x else (if c > 122 then x else y)) else (if c > 57 then (if c < 97 then x else (if c > 122 then x else y)) else y)) = if idSign c = true then y else x := by
  by_cases h : idSign c = true
  · rw [if_pos h]
    unfold idSign at h
    simp only [Bool.or_eq_true, Bool.and_eq_true, decide_eq_true_eq] at h
    rcases h with h | h
    · rw [if_neg (by omega), if_neg (by omega)]
    · rw [if_neg (by omega), if_pos (by omega), if_neg (by omega), if_neg (by omega)]
  · rw [if_neg h]
    unfold idSign at h
    simp only [Bool.or_eq_true, Bool.and_eq_true, decide_eq_true_eq, not_or, not_and] at h
    obtain ⟨h1, h2⟩ := h
    by_cases a : c < 48
    · rw [if_pos a, if_pos (by omega)]
    · rw [if_neg a]
      by_cases b : c > 57
      · rw [if_pos b]
        by_cases d : c < 97
        · rw [if_pos d]
        · rw [if_neg d]; have := h2 (by omega); rw [if_pos (by omega)]
      · have := h1 (by omega); omega
theorem spec_HoldIdOk_l0 (s : ByteArray) (hs : s.size ≤ 140737488355328) (d : Nat) : ∀ (k i : Nat), i + d = s.size → d < k → spec_HoldIdOk.l0 k s (i : Int) = some (allFrom idSign s i && (decide (1 ≤ (s.size : Int)) && decide ((s.size : Int) ≤ 6))) := by
  induction d with
  | zero =>
    intro k i hi hk
    obtain ⟨k, rfl⟩ : ∃ m, k = m + 1 := ⟨k - 1, by omega⟩
    simp only [spec_HoldIdOk.l0]; rw [if_neg (by omega), allFrom_end _ _ (by omega), spec_In_f]; simp
  | succ d ih =>
    intro k i hi hk
    obtain ⟨k, rfl⟩ : ∃ m, k = m + 1 := ⟨k - 1, by omega⟩
    simp only [spec_HoldIdOk.l0]
    rw [if_pos (by omega), if_pos (by omega), w_id (by omega) (by omega), allFrom_step _ _ (by omega)]
    have e := ih k (i + 1) (by omega) (by omega)
    rw [show ((i : Int) + 1) = ((i + 1 : Nat) : Int) from by omega, e, idSign_ite]
    cases idSign (bt s (i : Int)) <;> simp
theorem spec_HoldIdOk_f (s : ByteArray) (hs : s.size ≤ 140737488355328) (k : Nat) (hk : s.size < k) : spec_HoldIdOk.f k s = some (holdIdOk s) :=
  spec_HoldIdOk_l0 s hs s.size k 0 (by omega) hk
theorem impl_HoldIdOk_l0 (s : ByteArray) (hs : s.size ≤ 140737488355328) (d : Nat) : ∀ (k i : Nat), i + d = s.size → d < k → impl_HoldIdOk.l0 k s (s.size : Int) (i : Int) = some (allFrom idSign s i && (decide (1 ≤ (s.size : Int)) && decide ((s.size : Int) ≤ 6))) := by
  induction d with
  | zero =>
    intro k i hi hk
    obtain ⟨k, rfl⟩ : ∃ m, k = m + 1 := ⟨k - 1, by omega⟩
    simp only [impl_HoldIdOk.l0]; rw [if_neg (by omega), allFrom_end _ _ (by omega), within_f]; simp
  | succ d ih =>
    intro k i hi hk
    obtain ⟨k, rfl⟩ : ∃ m, k = m + 1 := ⟨k - 1, by omega⟩
    simp only [impl_HoldIdOk.l0]
    rw [if_pos (by omega), if_pos (by omega), if_pos (by omega), w_id (by omega) (by omega), allFrom_step _ _ (by omega)]
    have e := ih k (i + 1) (by omega) (by omega)
    rw [show ((i : Int) + 1) = ((i + 1 : Nat) : Int) from by omega, e, idSign_ite]
    cases idSign (bt s (i : Int)) <;> simp
theorem impl_HoldIdOk_f (s : ByteArray) (hs : s.size ≤ 140737488355328) (k : Nat) (hk : s.size < k) : impl_HoldIdOk.f k s = some (holdIdOk s) :=
  impl_HoldIdOk_l0 s hs s.size k 0 (by omega) hk

def isTime (n : Int) : Bool := decide (0 ≤ n) && decide (n ≤ 1000000000)
theorem spec_Time_f (n : Int) : spec_l06Time.f n = some (isTime n) := by unfold spec_l06Time.f; rw [spec_In_f]; rfl
theorem impl_isTime_f (n : Int) : impl_isTime.f n = some (isTime n) := by unfold impl_isTime.f; rw [within_f]; rfl
def holdOk (s : ByteArray) (a d : Int) : Bool := holdIdOk s && ((decide (1 ≤ a) && decide (a ≤ 9007199254740992)) && isTime d)
theorem spec_HoldOk_ev (s : ByteArray) (a d : Int) (hs : s.size ≤ 140737488355328) : Ev (fun k => spec_HoldOk.f k s a d) (holdOk s a d) := by
  refine evFrom (s.size + 1) fun k hk => ?_
  unfold spec_HoldOk.f holdOk
  rw [spec_HoldIdOk_f s hs k (by omega), spec_In_f, spec_Time_f]
  simp only [Option.bind_some, ite_and]
theorem impl_HoldOk_ev (s : ByteArray) (a d : Int) (hs : s.size ≤ 140737488355328) : Ev (fun k => impl_HoldOk.f k s a d) (holdOk s a d) := by
  refine evFrom (s.size + 1) fun k hk => ?_
  unfold impl_HoldOk.f holdOk
  rw [impl_HoldIdOk_f s hs k (by omega), within_f, impl_isTime_f]
  simp only [Option.bind_some, ite_and]

theorem szHold_f (s : ByteArray) (a d left : Int) (hs : s.size ≤ 9223372036854775807) (h0 : 0 ≤ left) (h1 : left ≤ 1048576) :
    ∃ t, laws_szHold.f s a d left = some t ∧ (t < 0 ∨ (0 ≤ t ∧ t ≤ left ∧ (s.size : Int) ≤ left)) := by
  unfold laws_szHold.f
  rw [w_id (by omega) (by omega)]
  by_cases h : left - (s.size : Int) < 0
  · rw [if_pos h]; exact ⟨_, rfl, .inl (by omega)⟩
  · rw [if_neg h]; exact ⟨_, rfl, .inr ⟨by omega, by omega, by omega⟩⟩

theorem FnExactHoldOk : laws_FnExactHoldOk.Pure := by
  intro x hx
  obtain ⟨hs, _, _⟩ := hx
  have hs' : x.f0.size ≤ 9223372036854775807 := hs
  obtain ⟨t, ht, hc⟩ := szHold_f x.f0 x.f1 x.f2 1048576 hs' (by omega) (by omega)
  refine Ev.rounds ?_
  unfold laws_FnExactHoldOk.f
  refine evK ht ?_
  rcases hc with hc | ⟨hc, _, hl⟩
  · exact evP hc (evC rfl)
  · refine evN (by omega) (evK rfl (evB (spec_HoldOk_ev x.f0 x.f1 x.f2 (by omega)) (evK rfl (evB (impl_HoldOk_ev x.f0 x.f1 x.f2 (by omega)) ?_))))
    exact ev_same

end Go.Proofs.Ytbllcjgccpdbkaa.Pure
