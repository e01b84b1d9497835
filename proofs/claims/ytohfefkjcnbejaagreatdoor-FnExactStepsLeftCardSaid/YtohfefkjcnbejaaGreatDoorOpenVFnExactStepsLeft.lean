/- What an argument's data in memory says, kind by kind: whatever reads as data of a type is told by the kind that the print makes for that type. Conditions: none. -/
import Derived.Test.YtohfefkjcnbejaaGreatDoorVFnExactStepsLeftWGuardInvWordsMore
import Derived.OpenShut
import Derived.ChangeArms
import Derived.WideShapes
namespace Go.Proofs.YtohfefkjcnbejaaGreatDoor.Opened
open Go Go.RowKit Go.Proofs.YtohfefkjcnbejaaGreatDoorW.PrintWords
theorem addr_add_add (a : Addr) (i j : Nat) : (a.add i).add j = a.add (i + j) := by
  unfold Addr.add
  by_cases h1 : i = 0 <;> by_cases h2 : j = 0 <;> simp [h1, h2, Nat.add_assoc]

/-- What reads as data of type t is told by the kind k, and is as ok says. -/
def Opens (P : Program) (t : TypeId) {α : Type} (k : Kd α) (ok : α → Prop) : Prop :=
  ∀ (H : Type) (enc : TypeId × Value → H) (w : World) (fuel : Nat) (cs : List Value) (r : DataW H × List MemPlace),
    DataW.trod enc P w 0 (fun _ => true) true fuel t cs = some r → ∃ x, k.K w x cs ∧ ok x

section
variable {P : Program} {t e : TypeId}
theorem opens_int {ik : IntKind} (ht : P.underlying t = some (.int ik)) : Opens P t (Kd.int ik) (fun x => (Lit.int ik x).wf = true) := by
  intro H enc w fuel cs r h
  obtain ⟨n, rfl, _, hw⟩ := DataW.trod_int ht h
  exact ⟨n, rfl, hw⟩
theorem opens_bool (ht : P.underlying t = some .bool) : Opens P t Kd.bool (fun _ => True) := by
  intro H enc w fuel cs r h
  obtain ⟨b, rfl, _⟩ := DataW.trod_bool ht h
  exact ⟨b, rfl, trivial⟩
theorem opens_string (ht : P.underlying t = some .string) : Opens P t Kd.string (fun s => s.size ≤ maxLen) := by
  intro H enc w fuel cs r h
  obtain ⟨s, rfl, _, hs⟩ := DataW.trod_string ht h
  exact ⟨s, rfl, hs⟩
theorem build {α : Type} (Q : Nat → α → Prop) (n : Nat) (h : ∀ i, i < n → ∃ x, Q i x) : ∃ xs : List α, xs.length = n ∧ ∀ i x, xs[i]? = some x → Q i x := by
  induction n with
  | zero => exact ⟨[], rfl, fun i x hx => by simp at hx⟩
  | succ n ih =>
    obtain ⟨xs, hl, hx⟩ := ih (fun i hi => h i (by omega))
    obtain ⟨y, hy⟩ := h n (by omega)
    refine ⟨xs ++ [y], by simp [hl], fun i x hi => ?_⟩
    rcases Nat.lt_or_ge i xs.length with hlt | hge
    · rw [List.getElem?_append_left hlt] at hi
      exact hx i x hi
    · have hi' : i = xs.length := by
        have := (List.getElem?_eq_some_iff.1 hi).1
        rw [List.length_append, List.length_singleton] at this
        omega
      subst hi'
      have : y = x := by simpa using hi
      rw [← this, hl]
      exact hy
theorem cells_at {w : World} {a : Addr} {n : Nat} {c : List Value} (h : w.cells? 0 a n = some c) : c.length = n ∧ ∀ j u, c[j]? = some u → w.cell? (a.add j) = some u := by
  unfold World.cells? at h
  rw [if_pos (Nat.zero_le _)] at h
  have hl : c.length = n := by simpa using mapM_some_length h
  refine ⟨hl, fun j u hj => ?_⟩
  have hjl : j < c.length := (List.getElem?_eq_some_iff.1 hj).1
  have := mapM_some_get h j j (by simp [← hl, hjl])
  rw [this, hj]
theorem opens_slice {α : Type} {k : Kd α} {ok : α → Prop} (ht : P.underlying t = some (.slice e)) (hsz : P.cellsOf e = k.sz) (hin : Opens P e k ok) :
    Opens P t (Kd.slice e k) (fun xs => xs.length ≤ maxLen ∧ ∀ x ∈ xs, ok x) := by
  intro H enc w fuel cs r h
  rcases DataW.trod_slice ht h with ⟨rfl, _⟩ | ⟨a, len, cap, elems, rest, n, rfl, rfl, _, _, hl, hc, hel, hat, _, _⟩
  · exact ⟨[], ⟨none, 0, rfl, Nat.le_refl _, Kd.C_nil k w⟩, by simp [maxLen], by simp⟩
  · have key : ∀ i, i < len → ∃ x, (∃ c, c.length = k.sz ∧ k.K w x c ∧ ∀ j u, c[j]? = some u → w.cell? (a.add (i * k.sz + j)) = some u) ∧ ok x := by
      intro i hi
      have h1 := hat i hi
      rw [List.getElem?_eq_getElem (by omega)] at h1
      obtain ⟨c, hc1, hc2⟩ := Option.bind_eq_some_iff.1 h1
      obtain ⟨hcl, hcc⟩ := cells_at hc1
      obtain ⟨x, hK, hok⟩ := hin H enc w n c _ hc2
      refine ⟨x, ⟨c, by rw [hcl, hsz], hK, fun j u hj => ?_⟩, hok⟩
      have := hcc j u hj
      rw [addr_add_add, hsz] at this
      exact this
    obtain ⟨xs, hxl, hxs⟩ := build _ len key
    refine ⟨xs, ⟨some a, cap, by rw [hxl], by omega, hxl.symm ▸ ⟨hxl, by unfold maxLen at hc; omega, fun _ => ⟨a, rfl, fun j p hj => (hxs j p hj).1⟩⟩⟩, by omega, fun x hx => ?_⟩
    obtain ⟨i, hi, rfl⟩ := List.getElem_of_mem hx
    exact (hxs i _ (List.getElem?_eq_getElem hi)).2
/-- A struct's fields, one by one. -/
theorem fields_of {fs : Array Field} {H : Type} {enc : TypeId × Value → H} {w : World} {fuel : Nat} {cs : List Value} {r : DataW H × List MemPlace} (ht : P.underlying t = some (.struct fs))
    (h : DataW.trod enc P w 0 (fun _ => true) true fuel t cs = some r) :
    cs.length = P.cellsOf t ∧ ∃ n, ∀ (i : Nat) (f : Field), fs[i]? = some f → ∃ r', DataW.trod enc P w 0 (fun _ => true) true n f.type ((cs.drop f.offset).take (P.cellsOf f.type)) = some r' := by
  obtain ⟨xs, n, rfl, _, hl, hx, hat⟩ := DataW.trod_struct ht h
  refine ⟨hl, n, fun i f hf => ?_⟩
  have hi : i < fs.size := (Array.getElem?_eq_some_iff.1 hf).1
  exact ⟨xs[i]'(by omega), by rw [hat i f hf, List.getElem?_eq_getElem (by omega)]⟩
theorem chain_cons {α β : Type} {a : Kd α} {b : Kd β} {w : World} {x : α} {y : β} {cs : List Value} {o n m : Nat} (ha : a.K w x ((cs.drop o).take n)) (hm : o + n = m) (hb : b.K w y (cs.drop m)) : (Kd.pair a b).K w (x, y) (cs.drop o) := by
  refine ⟨(cs.drop o).take n, (cs.drop o).drop n, (List.take_append_drop n _).symm, ha, ?_⟩
  rw [List.drop_drop, hm]
  exact hb
theorem chain_last {α : Type} {a : Kd α} {w : World} {x : α} {cs : List Value} {o n m : Nat} (ha : a.K w x ((cs.drop o).take n)) (hl : cs.length = m) (hm : o + n = m) : a.K w x (cs.drop o) := by
  rw [List.take_of_length_le (by rw [List.length_drop]; omega)] at ha
  exact ha
end
end Go.Proofs.YtohfefkjcnbejaaGreatDoor.Opened
