/- slices.symMergeCmpFunc at []int, its main way. Conditions: none. -/
import Derived.Test.YtepjnalkpfnmcaaProg
import Derived.Sort.LotA
import Derived.Shelf.SlSortCmp.Insertion1
import Derived.Sort.WalkB2
import Derived.Sort.WalkB12
import Derived.Deep.LoopGhost
import Derived.Test.YtepjnalkpfnmcaaStableA
set_option linter.unusedVariables false
set_option linter.unusedSimpArgs false
namespace Go.Proofs.Ytepjnalkpfnmcaa.StableSort
open Go Go.Sort Go.Shelf Go.RowKit Go.Lib Go.Proofs
theorem T_dn (n m k : Nat) (h : n < m) : T n m (m + 1) k = if k = n then T (n + 1) m (m + 1) (n + 1) else if k = n + 1 then T (n + 1) m (m + 1) n else T (n + 1) m (m + 1) k := by
 unfold T; (repeat' split) <;> omega
section
variable {key : Int → Int}
/-- What symMerge tells. -/
def Done (key : Int → Int) (a b : Nat) (d d' : Array Int) : Prop := PermIn a b d d' ∧ SortedIn (ltK key) a b d' ∧ St key d'
theorem key_le {d : Array Int} {a b i j : Nat} (h : SortedIn (ltK key) a b d) (hi : a ≤ i) (hij : i ≤ j) (hj : j < b) : key d[i]! ≤ key d[j]! := by
 rcases Nat.lt_or_ge i j with hl | hl
 ·exact (ltK_f key).1 (h i j hi hl hj)
 ·obtain rfl : i = j := by omega
  exact Int.le_refl _
theorem done_a {a i b : Nat} {d d' : Array Int} (hai : a + 1 ≤ i) (hib : i ≤ b) (hz : b ≤ d.size) (hl : SortedIn (ltK key) a (a + 1) d) (hr : SortedIn (ltK key) (a + 1) b d) (hst : St key d) (hd : d'.size = d.size) (hp : PermIn a b d d')
  (ht : ∀ k, k < d.size → d'[k]! = d[T a (a + 1) i k]!) (h1 : ∀ q, a + 1 ≤ q → q < i → key d[q]! < key d[a]!) (h2 : ∀ q, i ≤ q → q < b → key d[a]! ≤ key d[q]!) : Done key a b d d' := by
 have hx : ∀ r q, a + 1 ≤ r → r < i → a ≤ q → q < a + 1 → key d[r]! < key d[q]! := fun r q g1 g2 g3 g4 => by
  obtain rfl : q = a := by omega
  exact h1 r g1 g2
 obtain ⟨_, c2, _, c4, c5⟩ := core (Nat.le_refl a) (Nat.le_succ a) hai hib hz hl hr ht hx (fun q r g1 g2 => by omega)
 refine ⟨hp, ?_, st_rot key (by omega) hai (by omega) hst hd ht hx⟩
 have hm : a + (i - (a + 1)) = i - 1 := by omega
 rw [hm] at c2 c5
 have e1 : d'[i - 1]! = d[a]! := by rw [ht (i - 1) (by omega)]; congr 1; unfold T; (repeat' split) <;> omega
 refine join (mid := i - 1) (by omega) (by omega) (by omega) (permIn_refl d' a (i - 1)) c2 (permIn_refl d' (i - 1) b) (fun p q hp1 hpq hq => ?_) c5
 by_cases hp2 : p = i - 1
 ·subst hp2
  rw [ltK_f, e1, ht q (by omega), show T a (a + 1) i q = q by unfold T; (repeat' split) <;> omega]
  exact h2 q (by omega) hq
 ·exact c4 p q (by omega) hpq hq
theorem done_b {a i m : Nat} {d d' : Array Int} (hai : a ≤ i) (hib : i ≤ m) (hz : m + 1 ≤ d.size) (hl : SortedIn (ltK key) a m d) (hr : SortedIn (ltK key) m (m + 1) d) (hst : St key d) (hd : d'.size = d.size) (hp : PermIn a (m + 1) d d')
  (ht : ∀ k, k < d.size → d'[k]! = d[T i m (m + 1) k]!) (h1 : ∀ q, a ≤ q → q < i → key d[q]! ≤ key d[m]!) (h2 : ∀ q, i ≤ q → q < m → key d[m]! < key d[q]!) : Done key a (m + 1) d d' := by
 have hx : ∀ r q, m ≤ r → r < m + 1 → i ≤ q → q < m → key d[r]! < key d[q]! := fun r q g1 g2 g3 g4 => by
  obtain rfl : r = m := by omega
  exact h2 q g3 g4
 obtain ⟨c1, _, c3, _, c5⟩ := core hai hib (Nat.le_succ m) (Nat.le_refl _) hz hl hr ht hx (fun q r g1 g2 => by omega)
 refine ⟨hp, ?_, st_rot key hib (by omega) hz hst hd ht hx⟩
 have hm : i + (m + 1 - m) = i + 1 := by omega
 rw [hm] at c3 c5
 have e1 : d'[i]! = d[m]! := by rw [ht i (by omega)]; congr 1; unfold T; (repeat' split) <;> omega
 refine join (mid := i + 1) (by omega) (by omega) (by omega) (permIn_refl d' a (i + 1)) (fun p q hp1 hpq hq => ?_) (permIn_refl d' (i + 1) (m + 1)) c3 c5
 by_cases hq2 : q = i
 ·subst hq2
  rw [ltK_f, e1, ht p (by omega), show T q m (m + 1) p = p by unfold T; (repeat' split) <;> omega]
  exact h1 p hp1 hpq
 ·exact c1 p q hp1 hpq (by omega)
/-- The main way: behind the rotation d1, behind the first half's merge d2, behind the second's d3. -/
theorem done_c {a mid b : Nat} {d d1 d2 d3 : Array Int} (ham : a ≤ mid) (hmb : mid ≤ b) (hz : b ≤ d.size) (hp : PermIn a b d d1) (hd : d1.size = d.size) (h2 : Done key a mid d1 d2) (h3 : Done key mid b d2 d3)
  (hc : ∀ p q, a ≤ p → p < mid → mid ≤ q → q < b → ltK key d1[q]! d1[p]! = false) : Done key a b d d3 := by
 refine ⟨permIn_trans _ _ _ a b hp (permIn_trans _ _ _ a b (permIn_mono _ _ _ _ a b (Nat.le_refl _) (by omega) (by omega) h2.1) (permIn_mono _ _ _ _ a b (by omega) (Nat.le_refl _) (by rw [h2.1.1]; omega) h3.1)), ?_, h3.2.2⟩
 exact join (by omega) (by omega) (by omega) h2.1 h2.2.1 h3.1 h3.2.1 hc
/-- A run that is empty: nothing is merged. -/
theorem done_left {a m b : Nat} {d : Array Int} (h : ¬ (a < m ∧ m < b)) (hl : SortedIn (ltK key) a m d) (hr : SortedIn (ltK key) m b d) (ham : a ≤ m) (hmb : m ≤ b) (hst : St key d) : Done key a b d d := by
 refine ⟨permIn_refl d a b, ?_, hst⟩
 by_cases h1 : a < m
 ·obtain rfl : m = b := by omega
  exact hl
 ·obtain rfl : a = m := by omega
  exact hr
theorem sorted_of_perm {lt : Int → Int → Bool} {a b i j : Nat} {d d' : Array Int} (hp : PermIn a b d d') (h : SortedIn lt i j d) (hij : j ≤ a ∨ b ≤ i) : SortedIn lt i j d' := fun p q h1 h2 h3 => by
 rw [hp.2.1 q (by omega), hp.2.1 p (by omega)]
 exact h p q h1 h2 h3
end
set_option maxHeartbeats 64000000 in
set_option maxRecDepth 1000000 in
theorem symMain (enc : Int → Value) (key : Int → Int) (cf : Int → Int → Int) (hlk : ∀ x y, cf x y < 0 ↔ key x < key y) (g : Nat) (cb : Array Value) (blk off cap : Nat) (d0 : Array Int) (w0 : World) (eg : ∀ args w, (callFunc g args).run Try.prog w = .ok (.enter g args) w) (hcmp : CmpLays1 Try.prog g cb enc cf blk off d0.size w0) (R : Row1 enc w0 blk off d0) (hsz : d0.size < 1152921504606846976)
  (N a m b : Nat) (d : Array Int) (w : World) (ih : ∀ (a m b : Nat) (d : Array Int) (w : World), b - a ≤ N → a < m → m < b → b ≤ d0.size → d.size = d0.size → SW enc w0 blk off d w → SortedIn (ltK key) a m d → SortedIn (ltK key) m b d → St key d →
   Calls Try.prog 217 #[.slice (some ⟨blk, off, none⟩) d0.size cap, .int .i64 a, .int .i64 m, .int .i64 b, .func (.func g) #[] cb] w fun e w' => e = .returned (.tuple #[]) ∧ ∃ d' : Array Int, SW enc w0 blk off d' w' ∧ d'.size = d0.size ∧ Done key a b d d')
  (hN : b - a ≤ N + 1) (ham : a < m) (hmb : m < b) (hb : b ≤ d0.size) (hs : d.size = d0.size) (S : SW enc w0 blk off d w) (hl : SortedIn (ltK key) a m d) (hr : SortedIn (ltK key) m b d) (hst2 : St key d) (c1 : ¬ m = a + 1) (c2 : ¬ b = m + 1) :
  Calls Try.prog 217 #[.slice (some ⟨blk, off, none⟩) d0.size cap, .int .i64 a, .int .i64 m, .int .i64 b, .func (.func g) #[] cb] w fun e w' => e = .returned (.tuple #[]) ∧ ∃ d' : Array Int, SW enc w0 blk off d' w' ∧ d'.size = d0.size ∧ Done key a b d d' := by
 have mixed : Try.prog.follows .mixedOrders = true := by kernel_rfl
 have hu32 := Try.underlying32
 have hcl0 := R.hO.cells
 simp only [Value.cells] at hcl0
 have hst := R.hO.store Try.prog
 have HC : Aside _ := hcmp
 have HLK : Aside _ := hlk
 have IH : Aside _ := ih
 have HL : Aside _ := hl
 have HR : Aside _ := hr
 have HT : Aside _ := hst2
 have S0 : Aside (SW enc w0 blk off d w) := S
 clear S hl hr hst2 ih hcmp hlk
 have r0 : IntKind.i64.wrap ((m : Int) - (a : Int)) = ((m - a : Nat) : Int) := by rw [IntKind.wrap_i64]; omega
 have r0n : ¬ ((m - a : Nat) : Int) = 1 := by omega
 have r0b : (((m - a : Nat) : Int) == 1) = false := by simp; omega
 have r1 : IntKind.i64.wrap ((b : Int) - (m : Int)) = ((b - m : Nat) : Int) := by rw [IntKind.wrap_i64]; omega
 have r1n : ¬ ((b - m : Nat) : Int) = 1 := by omega
 have r1b : (((b - m : Nat) : Int) == 1) = false := by simp; omega
 clear c1 c2
 obtain ⟨mid, hmid⟩ : ∃ q : Nat, (a + b) / 2 = q := ⟨_, rfl⟩
 have hmz : ((a : Int) + (b : Int)) / 2 = (mid : Int) := by omega
 obtain ⟨n, hn⟩ : ∃ q : Nat, mid + m = q := ⟨_, rfl⟩
 have r3 : IntKind.i64.wrap ((mid : Int) + (m : Int)) = (n : Int) := by rw [IntKind.wrap_i64]; omega
 have r5 : IntKind.i64.wrap ((n : Int) - 1) = ((n - 1 : Nat) : Int) := by rw [IntKind.wrap_i64]; omega
 have HM : Aside (mid + m = n ∧ (a + b) / 2 = mid) := ⟨hn, hmid⟩
 clear hn hmid
 go_enter Try.func217, Try.ntmps217
 by_cases gt : mid < m
 ·have hm' := HM.out
  obtain ⟨hn, hmid⟩ := hm'
  have gz : (mid : Int) < (m : Int) := by omega
  have r4 : IntKind.i64.wrap ((n : Int) - (b : Int)) = ((n - b : Nat) : Int) := by rw [IntKind.wrap_i64]; omega
  have HA : Aside (a ≤ n - 1 ∧ n - 1 < b + m) := ⟨by omega, by omega⟩
  clear hn hmid
  go_wp2
  go_loopg [20, 21] (mid - (n - b)) (fun kx s20 s21 wr => ∃ (s r : Nat), s20 = .int .i64 s ∧ s21 = .int .i64 r ∧ (n - b) ≤ s ∧ s ≤ r ∧ r ≤ mid ∧ r - s ≤ kx ∧ Aside (SW enc w0 blk off d wr) ∧ Aside (∀ c, (n - b) ≤ c → c < s → key d[c]! ≤ key d[n - 1 - c]!) ∧ Aside (∀ c, r ≤ c → c < mid → key d[n - 1 - c]! < key d[c]!))
  case atStart => exact ⟨(n - b), mid, by first | rfl | go_num | (congr 1; omega), rfl, by omega, by have := HM.out; omega, by omega, by omega, S0, fun q h1 h2 => absurd h2 (by omega), fun q h1 h2 => absurd h2 (by omega)⟩
  case round =>
   clear S0
   obtain ⟨s, r, rfl, rfl, hls, hsr, hrh, hkx, S1, I1, I2⟩ := hrel
   have hm' := HM.out
   obtain ⟨hn, hmid⟩ := hm'
   by_cases hlt : s < r
   ·have hltz : (s : Int) < (r : Int) := by omega
    obtain ⟨c, hc⟩ : ∃ c : Nat, (s + r) / 2 = c := ⟨_, rfl⟩
    have hcz : ((s : Int) + (r : Int)) / 2 = (c : Int) := by omega
    have rp : IntKind.i64.wrap (((n - 1 : Nat) : Int) - (c : Int)) = ((n - 1 - c : Nat) : Int) := by rw [IntKind.wrap_i64]; omega
    have hb1 : n - 1 - c < b ∧ m ≤ n - 1 - c ∧ c < m ∧ a ≤ c := by omega
    have HN : Aside (mid + m = n ∧ (a + b) / 2 = mid) := ⟨hn, hmid⟩
    clear hn hmid
    by_cases hv : key d[n - 1 - c]! < key d[c]!
    ·have HV : Aside _ := hv
     clear hv
     obtain ⟨iN7, hiN7⟩ : ∃ q, q = n - 1 - c := ⟨_, rfl⟩
     obtain ⟨jN7, hjN7⟩ : ∃ q, q = c := ⟨_, rfl⟩
     have ea7 : (((n - 1 - c : Nat) : Int)).toNat = iN7 := by omega
     have pa7 : (0 : Int) ≤ ((n - 1 - c : Nat) : Int) := by omega
     have ba7 : ((n - 1 - c : Nat) : Int) < (d0.size : Int) := by omega
     have ra7 : IntKind.i64.wrap (((n - 1 - c : Nat) : Int)) = ((n - 1 - c : Nat) : Int) := by rw [IntKind.wrap_i64]; omega
     have ec7 : ((c : Int)).toNat = jN7 := by omega
     have pc7 : (0 : Int) ≤ (c : Int) := by omega
     have bc7 : (c : Int) < (d0.size : Int) := by omega
     have rc7 : IntKind.i64.wrap ((c : Int)) = (c : Int) := by rw [IntKind.wrap_i64]; omega
     obtain ⟨x7, hx7⟩ : ∃ x, x = d[n - 1 - c]! := ⟨_, rfl⟩
     obtain ⟨y7, hy7⟩ : ∃ x, x = d[c]! := ⟨_, rfl⟩
     have l7a := S1.out.cl R (by omega) (n - 1 - c) (by omega)
     have l7b := S1.out.cl R (by omega) (c) (by omega)
     rw [← hx7, ← hiN7] at l7a
     rw [← hy7, ← hjN7] at l7b
     have hc7 := S1.out.cmp HC.out (by omega) x7 y7
     have hv7 : cf x7 y7 < 0 := by rw [hx7, hy7]; exact (HLK.out _ _).2 HV.out
     have hd7 : decide (cf x7 y7 < 0) = true := decide_eq_true hv7
     clear hx7 hy7 hiN7 hjN7
     go_wp2_with fail
     go_quiet_grown (first | (go_at_fn g; refine Calls.grown_of (hc7 _ _)))
     have S2 : Aside (SW enc w0 blk off d (grow (wr.drewN nq) osq)) := S1.out.grown nq osq
     clear l7a l7b hc7 S1
     generalize grow (wr.drewN nq) osq = w2 at S2 ⊢
     clear nq osq
     clear ea7 ec7
     go_wp2
     go_roundg (c - s)
     case measure => omega
     case rel => exact ⟨s, c, rfl, by first | rfl | go_num | (congr 1; omega), hls, by omega, by omega, Nat.le_refl _, S2, I1.out, fun q h1 h2 => Int.lt_of_le_of_lt (key_le HR.out (show m ≤ n - 1 - q by have := HN.out; omega) (show n - 1 - q ≤ n - 1 - c by omega) hb1.1) (Int.lt_of_lt_of_le HV.out (key_le HL.out hb1.2.2.2 h1 (by have := HN.out; omega)))⟩
    ·have HV : Aside _ := hv
     clear hv
     obtain ⟨iN8, hiN8⟩ : ∃ q, q = n - 1 - c := ⟨_, rfl⟩
     obtain ⟨jN8, hjN8⟩ : ∃ q, q = c := ⟨_, rfl⟩
     have ea8 : (((n - 1 - c : Nat) : Int)).toNat = iN8 := by omega
     have pa8 : (0 : Int) ≤ ((n - 1 - c : Nat) : Int) := by omega
     have ba8 : ((n - 1 - c : Nat) : Int) < (d0.size : Int) := by omega
     have ra8 : IntKind.i64.wrap (((n - 1 - c : Nat) : Int)) = ((n - 1 - c : Nat) : Int) := by rw [IntKind.wrap_i64]; omega
     have ec8 : ((c : Int)).toNat = jN8 := by omega
     have pc8 : (0 : Int) ≤ (c : Int) := by omega
     have bc8 : (c : Int) < (d0.size : Int) := by omega
     have rc8 : IntKind.i64.wrap ((c : Int)) = (c : Int) := by rw [IntKind.wrap_i64]; omega
     obtain ⟨x8, hx8⟩ : ∃ x, x = d[n - 1 - c]! := ⟨_, rfl⟩
     obtain ⟨y8, hy8⟩ : ∃ x, x = d[c]! := ⟨_, rfl⟩
     have l8a := S1.out.cl R (by omega) (n - 1 - c) (by omega)
     have l8b := S1.out.cl R (by omega) (c) (by omega)
     rw [← hx8, ← hiN8] at l8a
     rw [← hy8, ← hjN8] at l8b
     have hc8 := S1.out.cmp HC.out (by omega) x8 y8
     have hv8 : ¬ cf x8 y8 < 0 := by rw [hx8, hy8]; exact fun h_ => HV.out ((HLK.out _ _).1 h_)
     have hd8 : decide (cf x8 y8 < 0) = false := decide_eq_false hv8
     clear hx8 hy8 hiN8 hjN8
     go_wp2_with fail
     go_quiet_grown (first | (go_at_fn g; refine Calls.grown_of (hc8 _ _)))
     have S2 : Aside (SW enc w0 blk off d (grow (wr.drewN nq) osq)) := S1.out.grown nq osq
     clear l8a l8b hc8 S1
     generalize grow (wr.drewN nq) osq = w2 at S2 ⊢
     clear nq osq
     clear ea8 ec8
     go_wp2
     go_roundg (r - (c + 1))
     case measure => omega
     case rel => exact ⟨c + 1, r, by first | rfl | go_num | (congr 1; omega), rfl, by omega, by omega, hrh, Nat.le_refl _, S2, fun q h1 h2 => Int.le_trans (key_le HL.out (show a ≤ q by have := HN.out; omega) (show q ≤ c by omega) hb1.2.2.1) (Int.le_trans (Int.not_lt.1 HV.out) (key_le HR.out hb1.2.1 (by omega) (by have := HN.out; omega))), I2.out⟩
   ·have hltz : ¬ (s : Int) < (r : Int) := by omega
    obtain rfl : s = r := by omega
    have r6 : IntKind.i64.wrap ((n : Int) - (s : Int)) = ((n - s : Nat) : Int) := by rw [IntKind.wrap_i64]; omega
    have hx : ∀ p q, m ≤ p → p < n - s → s ≤ q → q < m → key d[p]! < key d[q]! := fun p q h1 h2 h3 h4 => by
     by_cases e_ : s < mid
     ·exact Int.lt_of_le_of_lt (key_le HR.out h1 (show p ≤ n - 1 - s by omega) (by omega)) (Int.lt_of_lt_of_le (I2.out s (Nat.le_refl _) e_) (key_le HL.out (by omega) h3 h4))
     ·omega
    have hy : ∀ q p, a ≤ q → q < s → n - s ≤ p → p < b → key d[q]! ≤ key d[p]! := fun q p h1 h2 h3 h4 => by
     by_cases e_ : (n - b) < s
     ·exact Int.le_trans (key_le HL.out h1 (show q ≤ s - 1 by omega) (by omega)) (Int.le_trans (I1.out (s - 1) (by omega) (by omega)) (key_le HR.out (by omega) (show n - 1 - (s - 1) ≤ p by omega) h4))
     ·omega
    have HX : Aside _ := hx
    have HY : Aside _ := hy
    clear hx hy hltz
    by_cases u1 : s < mid
    ·by_cases u2 : a < s
     ·by_cases u3 : n - s < b
      ·have z1 : ((s : Int)) < ((m : Int)) := by omega
       have z2 : ((m : Int)) < (((n - s : Nat) : Int)) := by omega
       have z3 : ((a : Int)) < ((s : Int)) := by omega
       have z4 : ((s : Int)) < ((mid : Int)) := by omega
       have z5 : ((mid : Int)) < (((n - s : Nat) : Int)) := by omega
       have z6 : (((n - s : Nat) : Int)) < ((b : Int)) := by omega
       go_wp2_with (first | (go_at_call 219; (with_reducible refine (rotate enc g cb blk off cap s m (n - s) d0 d w0 _ R hs S1.out ?h1 ?h2 ?h3 hsz).mono ?_); (case h1 => omega); (case h2 => omega); (case h3 => omega); rintro e w2 ⟨rfl, d1, hS_, hz1, hE_, hP_⟩; have SA : Aside _ := hS_; have HE : Aside _ := hE_; obtain ⟨c1_, c2_, c3_, c4_, c5_⟩ := core (s := s) (m := m) (e := n - s) (by omega) (by omega) (by omega) (by omega) (by omega) HL.out HR.out (fun k hk => HE.out k (by omega)) HX.out HY.out; have em : s + (n - s - m) = mid := (by omega); rw [em] at c2_ c3_ c5_; clear em; have K1 : Aside _ := c1_; have K2 : Aside _ := c2_; have K3 : Aside _ := c3_; have K4 : Aside _ := c4_; have K5 : Aside _ := c5_; clear c1_ c2_ c3_ c4_ c5_; have PA : Aside (PermIn a b d d1) := permIn_mono _ _ _ _ a b (by omega) (by omega) (by omega) hP_; have TA : Aside (St key d1) := st_rot key (s := s) (m := m) (e := n - s) (by omega) (by omega) (by omega) HT.out (by omega) (fun k hk => HE.out k (by omega)) HX.out; clear hS_ hE_ hP_) | (go_at_call 217; (with_reducible refine (IH.out a s mid d1 _ ?h1 ?h2 ?h3 ?h4 ?k0 ?k1 ?k2 ?k3 ?k4).mono ?_); (case h1 => omega); (case h2 => omega); (case h3 => omega); (case h4 => omega); (case k0 => exact hz1); (case k1 => exact SA.out); (case k2 => exact K1.out); (case k3 => exact K2.out); (case k4 => exact TA.out); rintro e w3 ⟨rfl, d2, hS_, hz2, hD_⟩; have SB : Aside _ := hS_; have DB : Aside _ := hD_; clear hS_ hD_) | (go_at_call 217; (with_reducible refine (IH.out mid (n - s) b d2 _ ?h1 ?h2 ?h3 hb ?k0 ?k1 ?k2 ?k3 ?k4).mono ?_); (case h1 => omega); (case h2 => omega); (case h3 => omega); (case k0 => exact hz2); (case k1 => exact SB.out); (case k2 => exact (sorted_of_perm DB.out.1 K3.out (.inr (Nat.le_refl _)))); (case k3 => exact (sorted_of_perm DB.out.1 K4.out (.inr (by omega)))); (case k4 => exact DB.out.2.2); rintro e w4 ⟨rfl, d3, hS_, hz3, hD_⟩; have SC : Aside _ := hS_; have DC : Aside _ := hD_; clear hS_ hD_))
       go_end0
       exact ⟨rfl, d3, SC.out, hz3, done_c (by omega) (by omega) (by omega) PA.out (by omega) DB.out DC.out K5.out⟩
      ·have z1 : ((s : Int)) < ((m : Int)) := by omega
       have z2 : ((m : Int)) < (((n - s : Nat) : Int)) := by omega
       have z3 : ((a : Int)) < ((s : Int)) := by omega
       have z4 : ((s : Int)) < ((mid : Int)) := by omega
       have z5 : ((mid : Int)) < (((n - s : Nat) : Int)) := by omega
       have z6 : ¬ (((n - s : Nat) : Int)) < ((b : Int)) := by omega
       go_wp2_with (first | (go_at_call 219; (with_reducible refine (rotate enc g cb blk off cap s m (n - s) d0 d w0 _ R hs S1.out ?h1 ?h2 ?h3 hsz).mono ?_); (case h1 => omega); (case h2 => omega); (case h3 => omega); rintro e w2 ⟨rfl, d1, hS_, hz1, hE_, hP_⟩; have SA : Aside _ := hS_; have HE : Aside _ := hE_; obtain ⟨c1_, c2_, c3_, c4_, c5_⟩ := core (s := s) (m := m) (e := n - s) (by omega) (by omega) (by omega) (by omega) (by omega) HL.out HR.out (fun k hk => HE.out k (by omega)) HX.out HY.out; have em : s + (n - s - m) = mid := (by omega); rw [em] at c2_ c3_ c5_; clear em; have K1 : Aside _ := c1_; have K2 : Aside _ := c2_; have K3 : Aside _ := c3_; have K4 : Aside _ := c4_; have K5 : Aside _ := c5_; clear c1_ c2_ c3_ c4_ c5_; have PA : Aside (PermIn a b d d1) := permIn_mono _ _ _ _ a b (by omega) (by omega) (by omega) hP_; have TA : Aside (St key d1) := st_rot key (s := s) (m := m) (e := n - s) (by omega) (by omega) (by omega) HT.out (by omega) (fun k hk => HE.out k (by omega)) HX.out; clear hS_ hE_ hP_) | (go_at_call 217; (with_reducible refine (IH.out a s mid d1 _ ?h1 ?h2 ?h3 ?h4 ?k0 ?k1 ?k2 ?k3 ?k4).mono ?_); (case h1 => omega); (case h2 => omega); (case h3 => omega); (case h4 => omega); (case k0 => exact hz1); (case k1 => exact SA.out); (case k2 => exact K1.out); (case k3 => exact K2.out); (case k4 => exact TA.out); rintro e w3 ⟨rfl, d2, hS_, hz2, hD_⟩; have SB : Aside _ := hS_; have DB : Aside _ := hD_; clear hS_ hD_))
       go_end0
       have DC : Aside (Done key mid b d2 d2) := done_left (m := n - s) (by omega) (sorted_of_perm DB.out.1 K3.out (.inr (Nat.le_refl _))) (sorted_of_perm DB.out.1 K4.out (.inr (by omega))) (by omega) (by omega) DB.out.2.2
       have SC : Aside _ := SB.out
       have hz3 : d2.size = d0.size := hz2
       exact ⟨rfl, d2, SC.out, hz3, done_c (by omega) (by omega) (by omega) PA.out (by omega) DB.out DC.out K5.out⟩
     ·by_cases u3 : n - s < b
      ·have z1 : ((s : Int)) < ((m : Int)) := by omega
       have z2 : ((m : Int)) < (((n - s : Nat) : Int)) := by omega
       have z3 : ¬ ((a : Int)) < ((s : Int)) := by omega
       have z5 : ((mid : Int)) < (((n - s : Nat) : Int)) := by omega
       have z6 : (((n - s : Nat) : Int)) < ((b : Int)) := by omega
       go_wp2_with (first | (go_at_call 219; (with_reducible refine (rotate enc g cb blk off cap s m (n - s) d0 d w0 _ R hs S1.out ?h1 ?h2 ?h3 hsz).mono ?_); (case h1 => omega); (case h2 => omega); (case h3 => omega); rintro e w2 ⟨rfl, d1, hS_, hz1, hE_, hP_⟩; have SA : Aside _ := hS_; have HE : Aside _ := hE_; obtain ⟨c1_, c2_, c3_, c4_, c5_⟩ := core (s := s) (m := m) (e := n - s) (by omega) (by omega) (by omega) (by omega) (by omega) HL.out HR.out (fun k hk => HE.out k (by omega)) HX.out HY.out; have em : s + (n - s - m) = mid := (by omega); rw [em] at c2_ c3_ c5_; clear em; have K1 : Aside _ := c1_; have K2 : Aside _ := c2_; have K3 : Aside _ := c3_; have K4 : Aside _ := c4_; have K5 : Aside _ := c5_; clear c1_ c2_ c3_ c4_ c5_; have PA : Aside (PermIn a b d d1) := permIn_mono _ _ _ _ a b (by omega) (by omega) (by omega) hP_; have TA : Aside (St key d1) := st_rot key (s := s) (m := m) (e := n - s) (by omega) (by omega) (by omega) HT.out (by omega) (fun k hk => HE.out k (by omega)) HX.out; clear hS_ hE_ hP_; have DB : Aside (Done key a mid d1 d1) := done_left (m := s) (by omega) K1.out K2.out (by omega) (by omega) TA.out; have SB : Aside _ := SA.out; have hz2 : d1.size = d0.size := hz1) | (go_at_call 217; (with_reducible refine (IH.out mid (n - s) b d1 _ ?h1 ?h2 ?h3 hb ?k0 ?k1 ?k2 ?k3 ?k4).mono ?_); (case h1 => omega); (case h2 => omega); (case h3 => omega); (case k0 => exact hz2); (case k1 => exact SB.out); (case k2 => exact (sorted_of_perm DB.out.1 K3.out (.inr (Nat.le_refl _)))); (case k3 => exact (sorted_of_perm DB.out.1 K4.out (.inr (by omega)))); (case k4 => exact DB.out.2.2); rintro e w4 ⟨rfl, d3, hS_, hz3, hD_⟩; have SC : Aside _ := hS_; have DC : Aside _ := hD_; clear hS_ hD_))
       go_end0
       exact ⟨rfl, d3, SC.out, hz3, done_c (by omega) (by omega) (by omega) PA.out (by omega) DB.out DC.out K5.out⟩
      ·have z1 : ((s : Int)) < ((m : Int)) := by omega
       have z2 : ((m : Int)) < (((n - s : Nat) : Int)) := by omega
       have z3 : ¬ ((a : Int)) < ((s : Int)) := by omega
       have z5 : ((mid : Int)) < (((n - s : Nat) : Int)) := by omega
       have z6 : ¬ (((n - s : Nat) : Int)) < ((b : Int)) := by omega
       go_wp2_with (first | (go_at_call 219; (with_reducible refine (rotate enc g cb blk off cap s m (n - s) d0 d w0 _ R hs S1.out ?h1 ?h2 ?h3 hsz).mono ?_); (case h1 => omega); (case h2 => omega); (case h3 => omega); rintro e w2 ⟨rfl, d1, hS_, hz1, hE_, hP_⟩; have SA : Aside _ := hS_; have HE : Aside _ := hE_; obtain ⟨c1_, c2_, c3_, c4_, c5_⟩ := core (s := s) (m := m) (e := n - s) (by omega) (by omega) (by omega) (by omega) (by omega) HL.out HR.out (fun k hk => HE.out k (by omega)) HX.out HY.out; have em : s + (n - s - m) = mid := (by omega); rw [em] at c2_ c3_ c5_; clear em; have K1 : Aside _ := c1_; have K2 : Aside _ := c2_; have K3 : Aside _ := c3_; have K4 : Aside _ := c4_; have K5 : Aside _ := c5_; clear c1_ c2_ c3_ c4_ c5_; have PA : Aside (PermIn a b d d1) := permIn_mono _ _ _ _ a b (by omega) (by omega) (by omega) hP_; have TA : Aside (St key d1) := st_rot key (s := s) (m := m) (e := n - s) (by omega) (by omega) (by omega) HT.out (by omega) (fun k hk => HE.out k (by omega)) HX.out; clear hS_ hE_ hP_; have DB : Aside (Done key a mid d1 d1) := done_left (m := s) (by omega) K1.out K2.out (by omega) (by omega) TA.out; have SB : Aside _ := SA.out; have hz2 : d1.size = d0.size := hz1))
       go_end0
       have DC : Aside (Done key mid b d1 d1) := done_left (m := n - s) (by omega) (sorted_of_perm DB.out.1 K3.out (.inr (Nat.le_refl _))) (sorted_of_perm DB.out.1 K4.out (.inr (by omega))) (by omega) (by omega) DB.out.2.2
       have SC : Aside _ := SB.out
       have hz3 : d1.size = d0.size := hz2
       exact ⟨rfl, d1, SC.out, hz3, done_c (by omega) (by omega) (by omega) PA.out (by omega) DB.out DC.out K5.out⟩
    ·by_cases u2 : a < s
     ·by_cases u3 : n - s < b
      ·have z1 : ((s : Int)) < ((m : Int)) := by omega
       have z2 : ¬ ((m : Int)) < (((n - s : Nat) : Int)) := by omega
       have z3 : ((a : Int)) < ((s : Int)) := by omega
       have z4 : ¬ ((s : Int)) < ((mid : Int)) := by omega
       have z5 : ((mid : Int)) < (((n - s : Nat) : Int)) := by omega
       have z6 : (((n - s : Nat) : Int)) < ((b : Int)) := by omega
       have HE : Aside (∀ k, k < d.size → d[k]! = d[T s m (n - s) k]!) := fun k hk => by rw [show T s m (n - s) k = k by unfold T; (repeat' split) <;> omega]
       obtain ⟨c1_, c2_, c3_, c4_, c5_⟩ := core (s := s) (m := m) (e := n - s) (by omega) (by omega) (by omega) (by omega) (by omega) HL.out HR.out HE.out HX.out HY.out
       have em : s + (n - s - m) = mid := (by omega)
       rw [em] at c2_ c3_ c5_
       clear em
       have K1 : Aside _ := c1_
       have K2 : Aside _ := c2_
       have K3 : Aside _ := c3_
       have K4 : Aside _ := c4_
       have K5 : Aside _ := c5_
       clear c1_ c2_ c3_ c4_ c5_
       have PA : Aside (PermIn a b d d) := permIn_refl d a b
       have TA : Aside (St key d) := HT.out
       have SA : Aside _ := S1.out
       have hz1 : d.size = d0.size := hs
       have DB : Aside (Done key a mid d d) := done_left (m := s) (by omega) K1.out K2.out (by omega) (by omega) TA.out
       have SB : Aside _ := SA.out
       have hz2 : d.size = d0.size := hz1
       go_wp2_with (first | (go_at_call 217; (with_reducible refine (IH.out mid (n - s) b d _ ?h1 ?h2 ?h3 hb ?k0 ?k1 ?k2 ?k3 ?k4).mono ?_); (case h1 => omega); (case h2 => omega); (case h3 => omega); (case k0 => exact hz2); (case k1 => exact SB.out); (case k2 => exact (sorted_of_perm DB.out.1 K3.out (.inr (Nat.le_refl _)))); (case k3 => exact (sorted_of_perm DB.out.1 K4.out (.inr (by omega)))); (case k4 => exact DB.out.2.2); rintro e w4 ⟨rfl, d3, hS_, hz3, hD_⟩; have SC : Aside _ := hS_; have DC : Aside _ := hD_; clear hS_ hD_))
       go_end0
       exact ⟨rfl, d3, SC.out, hz3, done_c (by omega) (by omega) (by omega) PA.out (by omega) DB.out DC.out K5.out⟩
      ·have z1 : ((s : Int)) < ((m : Int)) := by omega
       have z2 : ¬ ((m : Int)) < (((n - s : Nat) : Int)) := by omega
       have z3 : ((a : Int)) < ((s : Int)) := by omega
       have z4 : ¬ ((s : Int)) < ((mid : Int)) := by omega
       have z5 : ((mid : Int)) < (((n - s : Nat) : Int)) := by omega
       have z6 : ¬ (((n - s : Nat) : Int)) < ((b : Int)) := by omega
       have HE : Aside (∀ k, k < d.size → d[k]! = d[T s m (n - s) k]!) := fun k hk => by rw [show T s m (n - s) k = k by unfold T; (repeat' split) <;> omega]
       obtain ⟨c1_, c2_, c3_, c4_, c5_⟩ := core (s := s) (m := m) (e := n - s) (by omega) (by omega) (by omega) (by omega) (by omega) HL.out HR.out HE.out HX.out HY.out
       have em : s + (n - s - m) = mid := (by omega)
       rw [em] at c2_ c3_ c5_
       clear em
       have K1 : Aside _ := c1_
       have K2 : Aside _ := c2_
       have K3 : Aside _ := c3_
       have K4 : Aside _ := c4_
       have K5 : Aside _ := c5_
       clear c1_ c2_ c3_ c4_ c5_
       have PA : Aside (PermIn a b d d) := permIn_refl d a b
       have TA : Aside (St key d) := HT.out
       have SA : Aside _ := S1.out
       have hz1 : d.size = d0.size := hs
       have DB : Aside (Done key a mid d d) := done_left (m := s) (by omega) K1.out K2.out (by omega) (by omega) TA.out
       have SB : Aside _ := SA.out
       have hz2 : d.size = d0.size := hz1
       go_wp2
       go_end0
       have DC : Aside (Done key mid b d d) := done_left (m := n - s) (by omega) (sorted_of_perm DB.out.1 K3.out (.inr (Nat.le_refl _))) (sorted_of_perm DB.out.1 K4.out (.inr (by omega))) (by omega) (by omega) DB.out.2.2
       have SC : Aside _ := SB.out
       have hz3 : d.size = d0.size := hz2
       exact ⟨rfl, d, SC.out, hz3, done_c (by omega) (by omega) (by omega) PA.out (by omega) DB.out DC.out K5.out⟩
     ·by_cases u3 : n - s < b
      ·have z1 : ((s : Int)) < ((m : Int)) := by omega
       have z2 : ¬ ((m : Int)) < (((n - s : Nat) : Int)) := by omega
       have z3 : ¬ ((a : Int)) < ((s : Int)) := by omega
       have z5 : ((mid : Int)) < (((n - s : Nat) : Int)) := by omega
       have z6 : (((n - s : Nat) : Int)) < ((b : Int)) := by omega
       have HE : Aside (∀ k, k < d.size → d[k]! = d[T s m (n - s) k]!) := fun k hk => by rw [show T s m (n - s) k = k by unfold T; (repeat' split) <;> omega]
       obtain ⟨c1_, c2_, c3_, c4_, c5_⟩ := core (s := s) (m := m) (e := n - s) (by omega) (by omega) (by omega) (by omega) (by omega) HL.out HR.out HE.out HX.out HY.out
       have em : s + (n - s - m) = mid := (by omega)
       rw [em] at c2_ c3_ c5_
       clear em
       have K1 : Aside _ := c1_
       have K2 : Aside _ := c2_
       have K3 : Aside _ := c3_
       have K4 : Aside _ := c4_
       have K5 : Aside _ := c5_
       clear c1_ c2_ c3_ c4_ c5_
       have PA : Aside (PermIn a b d d) := permIn_refl d a b
       have TA : Aside (St key d) := HT.out
       have SA : Aside _ := S1.out
       have hz1 : d.size = d0.size := hs
       have DB : Aside (Done key a mid d d) := done_left (m := s) (by omega) K1.out K2.out (by omega) (by omega) TA.out
       have SB : Aside _ := SA.out
       have hz2 : d.size = d0.size := hz1
       go_wp2_with (first | (go_at_call 217; (with_reducible refine (IH.out mid (n - s) b d _ ?h1 ?h2 ?h3 hb ?k0 ?k1 ?k2 ?k3 ?k4).mono ?_); (case h1 => omega); (case h2 => omega); (case h3 => omega); (case k0 => exact hz2); (case k1 => exact SB.out); (case k2 => exact (sorted_of_perm DB.out.1 K3.out (.inr (Nat.le_refl _)))); (case k3 => exact (sorted_of_perm DB.out.1 K4.out (.inr (by omega)))); (case k4 => exact DB.out.2.2); rintro e w4 ⟨rfl, d3, hS_, hz3, hD_⟩; have SC : Aside _ := hS_; have DC : Aside _ := hD_; clear hS_ hD_))
       go_end0
       exact ⟨rfl, d3, SC.out, hz3, done_c (by omega) (by omega) (by omega) PA.out (by omega) DB.out DC.out K5.out⟩
      ·have z1 : ((s : Int)) < ((m : Int)) := by omega
       have z2 : ¬ ((m : Int)) < (((n - s : Nat) : Int)) := by omega
       have z3 : ¬ ((a : Int)) < ((s : Int)) := by omega
       have z5 : ((mid : Int)) < (((n - s : Nat) : Int)) := by omega
       have z6 : ¬ (((n - s : Nat) : Int)) < ((b : Int)) := by omega
       have HE : Aside (∀ k, k < d.size → d[k]! = d[T s m (n - s) k]!) := fun k hk => by rw [show T s m (n - s) k = k by unfold T; (repeat' split) <;> omega]
       obtain ⟨c1_, c2_, c3_, c4_, c5_⟩ := core (s := s) (m := m) (e := n - s) (by omega) (by omega) (by omega) (by omega) (by omega) HL.out HR.out HE.out HX.out HY.out
       have em : s + (n - s - m) = mid := (by omega)
       rw [em] at c2_ c3_ c5_
       clear em
       have K1 : Aside _ := c1_
       have K2 : Aside _ := c2_
       have K3 : Aside _ := c3_
       have K4 : Aside _ := c4_
       have K5 : Aside _ := c5_
       clear c1_ c2_ c3_ c4_ c5_
       have PA : Aside (PermIn a b d d) := permIn_refl d a b
       have TA : Aside (St key d) := HT.out
       have SA : Aside _ := S1.out
       have hz1 : d.size = d0.size := hs
       have DB : Aside (Done key a mid d d) := done_left (m := s) (by omega) K1.out K2.out (by omega) (by omega) TA.out
       have SB : Aside _ := SA.out
       have hz2 : d.size = d0.size := hz1
       go_wp2
       go_end0
       have DC : Aside (Done key mid b d d) := done_left (m := n - s) (by omega) (sorted_of_perm DB.out.1 K3.out (.inr (Nat.le_refl _))) (sorted_of_perm DB.out.1 K4.out (.inr (by omega))) (by omega) (by omega) DB.out.2.2
       have SC : Aside _ := SB.out
       have hz3 : d.size = d0.size := hz2
       exact ⟨rfl, d, SC.out, hz3, done_c (by omega) (by omega) (by omega) PA.out (by omega) DB.out DC.out K5.out⟩
 ·have hm' := HM.out
  obtain ⟨hn, hmid⟩ := hm'
  have gz : ¬ (mid : Int) < (m : Int) := by omega
  have HA : Aside (a ≤ n - 1 ∧ n - 1 < b + m) := ⟨by omega, by omega⟩
  clear hn hmid
  go_wp2
  go_loopg [20, 21] (m - a) (fun kx s20 s21 wr => ∃ (s r : Nat), s20 = .int .i64 s ∧ s21 = .int .i64 r ∧ a ≤ s ∧ s ≤ r ∧ r ≤ m ∧ r - s ≤ kx ∧ Aside (SW enc w0 blk off d wr) ∧ Aside (∀ c, a ≤ c → c < s → key d[c]! ≤ key d[n - 1 - c]!) ∧ Aside (∀ c, r ≤ c → c < m → key d[n - 1 - c]! < key d[c]!))
  case atStart => exact ⟨a, m, by first | rfl | go_num | (congr 1; omega), rfl, by omega, by have := HM.out; omega, by omega, by omega, S0, fun q h1 h2 => absurd h2 (by omega), fun q h1 h2 => absurd h2 (by omega)⟩
  case round =>
   clear S0
   obtain ⟨s, r, rfl, rfl, hls, hsr, hrh, hkx, S1, I1, I2⟩ := hrel
   have hm' := HM.out
   obtain ⟨hn, hmid⟩ := hm'
   by_cases hlt : s < r
   ·have hltz : (s : Int) < (r : Int) := by omega
    obtain ⟨c, hc⟩ : ∃ c : Nat, (s + r) / 2 = c := ⟨_, rfl⟩
    have hcz : ((s : Int) + (r : Int)) / 2 = (c : Int) := by omega
    have rp : IntKind.i64.wrap (((n - 1 : Nat) : Int) - (c : Int)) = ((n - 1 - c : Nat) : Int) := by rw [IntKind.wrap_i64]; omega
    have hb1 : n - 1 - c < b ∧ m ≤ n - 1 - c ∧ c < m ∧ a ≤ c := by omega
    have HN : Aside (mid + m = n ∧ (a + b) / 2 = mid) := ⟨hn, hmid⟩
    clear hn hmid
    by_cases hv : key d[n - 1 - c]! < key d[c]!
    ·have HV : Aside _ := hv
     clear hv
     obtain ⟨iN7, hiN7⟩ : ∃ q, q = n - 1 - c := ⟨_, rfl⟩
     obtain ⟨jN7, hjN7⟩ : ∃ q, q = c := ⟨_, rfl⟩
     have ea7 : (((n - 1 - c : Nat) : Int)).toNat = iN7 := by omega
     have pa7 : (0 : Int) ≤ ((n - 1 - c : Nat) : Int) := by omega
     have ba7 : ((n - 1 - c : Nat) : Int) < (d0.size : Int) := by omega
     have ra7 : IntKind.i64.wrap (((n - 1 - c : Nat) : Int)) = ((n - 1 - c : Nat) : Int) := by rw [IntKind.wrap_i64]; omega
     have ec7 : ((c : Int)).toNat = jN7 := by omega
     have pc7 : (0 : Int) ≤ (c : Int) := by omega
     have bc7 : (c : Int) < (d0.size : Int) := by omega
     have rc7 : IntKind.i64.wrap ((c : Int)) = (c : Int) := by rw [IntKind.wrap_i64]; omega
     obtain ⟨x7, hx7⟩ : ∃ x, x = d[n - 1 - c]! := ⟨_, rfl⟩
     obtain ⟨y7, hy7⟩ : ∃ x, x = d[c]! := ⟨_, rfl⟩
     have l7a := S1.out.cl R (by omega) (n - 1 - c) (by omega)
     have l7b := S1.out.cl R (by omega) (c) (by omega)
     rw [← hx7, ← hiN7] at l7a
     rw [← hy7, ← hjN7] at l7b
     have hc7 := S1.out.cmp HC.out (by omega) x7 y7
     have hv7 : cf x7 y7 < 0 := by rw [hx7, hy7]; exact (HLK.out _ _).2 HV.out
     have hd7 : decide (cf x7 y7 < 0) = true := decide_eq_true hv7
     clear hx7 hy7 hiN7 hjN7
     go_wp2_with fail
     go_quiet_grown (first | (go_at_fn g; refine Calls.grown_of (hc7 _ _)))
     have S2 : Aside (SW enc w0 blk off d (grow (wr.drewN nq) osq)) := S1.out.grown nq osq
     clear l7a l7b hc7 S1
     generalize grow (wr.drewN nq) osq = w2 at S2 ⊢
     clear nq osq
     clear ea7 ec7
     go_wp2
     go_roundg (c - s)
     case measure => omega
     case rel => exact ⟨s, c, rfl, by first | rfl | go_num | (congr 1; omega), hls, by omega, by omega, Nat.le_refl _, S2, I1.out, fun q h1 h2 => Int.lt_of_le_of_lt (key_le HR.out (show m ≤ n - 1 - q by have := HN.out; omega) (show n - 1 - q ≤ n - 1 - c by omega) hb1.1) (Int.lt_of_lt_of_le HV.out (key_le HL.out hb1.2.2.2 h1 (by have := HN.out; omega)))⟩
    ·have HV : Aside _ := hv
     clear hv
     obtain ⟨iN8, hiN8⟩ : ∃ q, q = n - 1 - c := ⟨_, rfl⟩
     obtain ⟨jN8, hjN8⟩ : ∃ q, q = c := ⟨_, rfl⟩
     have ea8 : (((n - 1 - c : Nat) : Int)).toNat = iN8 := by omega
     have pa8 : (0 : Int) ≤ ((n - 1 - c : Nat) : Int) := by omega
     have ba8 : ((n - 1 - c : Nat) : Int) < (d0.size : Int) := by omega
     have ra8 : IntKind.i64.wrap (((n - 1 - c : Nat) : Int)) = ((n - 1 - c : Nat) : Int) := by rw [IntKind.wrap_i64]; omega
     have ec8 : ((c : Int)).toNat = jN8 := by omega
     have pc8 : (0 : Int) ≤ (c : Int) := by omega
     have bc8 : (c : Int) < (d0.size : Int) := by omega
     have rc8 : IntKind.i64.wrap ((c : Int)) = (c : Int) := by rw [IntKind.wrap_i64]; omega
     obtain ⟨x8, hx8⟩ : ∃ x, x = d[n - 1 - c]! := ⟨_, rfl⟩
     obtain ⟨y8, hy8⟩ : ∃ x, x = d[c]! := ⟨_, rfl⟩
     have l8a := S1.out.cl R (by omega) (n - 1 - c) (by omega)
     have l8b := S1.out.cl R (by omega) (c) (by omega)
     rw [← hx8, ← hiN8] at l8a
     rw [← hy8, ← hjN8] at l8b
     have hc8 := S1.out.cmp HC.out (by omega) x8 y8
     have hv8 : ¬ cf x8 y8 < 0 := by rw [hx8, hy8]; exact fun h_ => HV.out ((HLK.out _ _).1 h_)
     have hd8 : decide (cf x8 y8 < 0) = false := decide_eq_false hv8
     clear hx8 hy8 hiN8 hjN8
     go_wp2_with fail
     go_quiet_grown (first | (go_at_fn g; refine Calls.grown_of (hc8 _ _)))
     have S2 : Aside (SW enc w0 blk off d (grow (wr.drewN nq) osq)) := S1.out.grown nq osq
     clear l8a l8b hc8 S1
     generalize grow (wr.drewN nq) osq = w2 at S2 ⊢
     clear nq osq
     clear ea8 ec8
     go_wp2
     go_roundg (r - (c + 1))
     case measure => omega
     case rel => exact ⟨c + 1, r, by first | rfl | go_num | (congr 1; omega), rfl, by omega, by omega, hrh, Nat.le_refl _, S2, fun q h1 h2 => Int.le_trans (key_le HL.out (show a ≤ q by have := HN.out; omega) (show q ≤ c by omega) hb1.2.2.1) (Int.le_trans (Int.not_lt.1 HV.out) (key_le HR.out hb1.2.1 (by omega) (by have := HN.out; omega))), I2.out⟩
   ·have hltz : ¬ (s : Int) < (r : Int) := by omega
    obtain rfl : s = r := by omega
    have r6 : IntKind.i64.wrap ((n : Int) - (s : Int)) = ((n - s : Nat) : Int) := by rw [IntKind.wrap_i64]; omega
    have hx : ∀ p q, m ≤ p → p < n - s → s ≤ q → q < m → key d[p]! < key d[q]! := fun p q h1 h2 h3 h4 => by
     by_cases e_ : s < m
     ·exact Int.lt_of_le_of_lt (key_le HR.out h1 (show p ≤ n - 1 - s by omega) (by omega)) (Int.lt_of_lt_of_le (I2.out s (Nat.le_refl _) e_) (key_le HL.out (by omega) h3 h4))
     ·omega
    have hy : ∀ q p, a ≤ q → q < s → n - s ≤ p → p < b → key d[q]! ≤ key d[p]! := fun q p h1 h2 h3 h4 => by
     by_cases e_ : a < s
     ·exact Int.le_trans (key_le HL.out h1 (show q ≤ s - 1 by omega) (by omega)) (Int.le_trans (I1.out (s - 1) (by omega) (by omega)) (key_le HR.out (by omega) (show n - 1 - (s - 1) ≤ p by omega) h4))
     ·omega
    have HX : Aside _ := hx
    have HY : Aside _ := hy
    clear hx hy hltz
    by_cases u1 : s < m
    ·by_cases u2 : a < s
     ·by_cases u3 : n - s < b
      ·have z1 : ((s : Int)) < ((m : Int)) := by omega
       have z2 : ((m : Int)) < (((n - s : Nat) : Int)) := by omega
       have z3 : ((a : Int)) < ((s : Int)) := by omega
       have z4 : ((s : Int)) < ((mid : Int)) := by omega
       have z5 : ((mid : Int)) < (((n - s : Nat) : Int)) := by omega
       have z6 : (((n - s : Nat) : Int)) < ((b : Int)) := by omega
       go_wp2_with (first | (go_at_call 219; (with_reducible refine (rotate enc g cb blk off cap s m (n - s) d0 d w0 _ R hs S1.out ?h1 ?h2 ?h3 hsz).mono ?_); (case h1 => omega); (case h2 => omega); (case h3 => omega); rintro e w2 ⟨rfl, d1, hS_, hz1, hE_, hP_⟩; have SA : Aside _ := hS_; have HE : Aside _ := hE_; obtain ⟨c1_, c2_, c3_, c4_, c5_⟩ := core (s := s) (m := m) (e := n - s) (by omega) (by omega) (by omega) (by omega) (by omega) HL.out HR.out (fun k hk => HE.out k (by omega)) HX.out HY.out; have em : s + (n - s - m) = mid := (by omega); rw [em] at c2_ c3_ c5_; clear em; have K1 : Aside _ := c1_; have K2 : Aside _ := c2_; have K3 : Aside _ := c3_; have K4 : Aside _ := c4_; have K5 : Aside _ := c5_; clear c1_ c2_ c3_ c4_ c5_; have PA : Aside (PermIn a b d d1) := permIn_mono _ _ _ _ a b (by omega) (by omega) (by omega) hP_; have TA : Aside (St key d1) := st_rot key (s := s) (m := m) (e := n - s) (by omega) (by omega) (by omega) HT.out (by omega) (fun k hk => HE.out k (by omega)) HX.out; clear hS_ hE_ hP_) | (go_at_call 217; (with_reducible refine (IH.out a s mid d1 _ ?h1 ?h2 ?h3 ?h4 ?k0 ?k1 ?k2 ?k3 ?k4).mono ?_); (case h1 => omega); (case h2 => omega); (case h3 => omega); (case h4 => omega); (case k0 => exact hz1); (case k1 => exact SA.out); (case k2 => exact K1.out); (case k3 => exact K2.out); (case k4 => exact TA.out); rintro e w3 ⟨rfl, d2, hS_, hz2, hD_⟩; have SB : Aside _ := hS_; have DB : Aside _ := hD_; clear hS_ hD_) | (go_at_call 217; (with_reducible refine (IH.out mid (n - s) b d2 _ ?h1 ?h2 ?h3 hb ?k0 ?k1 ?k2 ?k3 ?k4).mono ?_); (case h1 => omega); (case h2 => omega); (case h3 => omega); (case k0 => exact hz2); (case k1 => exact SB.out); (case k2 => exact (sorted_of_perm DB.out.1 K3.out (.inr (Nat.le_refl _)))); (case k3 => exact (sorted_of_perm DB.out.1 K4.out (.inr (by omega)))); (case k4 => exact DB.out.2.2); rintro e w4 ⟨rfl, d3, hS_, hz3, hD_⟩; have SC : Aside _ := hS_; have DC : Aside _ := hD_; clear hS_ hD_))
       go_end0
       exact ⟨rfl, d3, SC.out, hz3, done_c (by omega) (by omega) (by omega) PA.out (by omega) DB.out DC.out K5.out⟩
      ·have z1 : ((s : Int)) < ((m : Int)) := by omega
       have z2 : ((m : Int)) < (((n - s : Nat) : Int)) := by omega
       have z3 : ((a : Int)) < ((s : Int)) := by omega
       have z4 : ((s : Int)) < ((mid : Int)) := by omega
       have z5 : ((mid : Int)) < (((n - s : Nat) : Int)) := by omega
       have z6 : ¬ (((n - s : Nat) : Int)) < ((b : Int)) := by omega
       go_wp2_with (first | (go_at_call 219; (with_reducible refine (rotate enc g cb blk off cap s m (n - s) d0 d w0 _ R hs S1.out ?h1 ?h2 ?h3 hsz).mono ?_); (case h1 => omega); (case h2 => omega); (case h3 => omega); rintro e w2 ⟨rfl, d1, hS_, hz1, hE_, hP_⟩; have SA : Aside _ := hS_; have HE : Aside _ := hE_; obtain ⟨c1_, c2_, c3_, c4_, c5_⟩ := core (s := s) (m := m) (e := n - s) (by omega) (by omega) (by omega) (by omega) (by omega) HL.out HR.out (fun k hk => HE.out k (by omega)) HX.out HY.out; have em : s + (n - s - m) = mid := (by omega); rw [em] at c2_ c3_ c5_; clear em; have K1 : Aside _ := c1_; have K2 : Aside _ := c2_; have K3 : Aside _ := c3_; have K4 : Aside _ := c4_; have K5 : Aside _ := c5_; clear c1_ c2_ c3_ c4_ c5_; have PA : Aside (PermIn a b d d1) := permIn_mono _ _ _ _ a b (by omega) (by omega) (by omega) hP_; have TA : Aside (St key d1) := st_rot key (s := s) (m := m) (e := n - s) (by omega) (by omega) (by omega) HT.out (by omega) (fun k hk => HE.out k (by omega)) HX.out; clear hS_ hE_ hP_) | (go_at_call 217; (with_reducible refine (IH.out a s mid d1 _ ?h1 ?h2 ?h3 ?h4 ?k0 ?k1 ?k2 ?k3 ?k4).mono ?_); (case h1 => omega); (case h2 => omega); (case h3 => omega); (case h4 => omega); (case k0 => exact hz1); (case k1 => exact SA.out); (case k2 => exact K1.out); (case k3 => exact K2.out); (case k4 => exact TA.out); rintro e w3 ⟨rfl, d2, hS_, hz2, hD_⟩; have SB : Aside _ := hS_; have DB : Aside _ := hD_; clear hS_ hD_))
       go_end0
       have DC : Aside (Done key mid b d2 d2) := done_left (m := n - s) (by omega) (sorted_of_perm DB.out.1 K3.out (.inr (Nat.le_refl _))) (sorted_of_perm DB.out.1 K4.out (.inr (by omega))) (by omega) (by omega) DB.out.2.2
       have SC : Aside _ := SB.out
       have hz3 : d2.size = d0.size := hz2
       exact ⟨rfl, d2, SC.out, hz3, done_c (by omega) (by omega) (by omega) PA.out (by omega) DB.out DC.out K5.out⟩
     ·by_cases u3 : n - s < b
      ·have z1 : ((s : Int)) < ((m : Int)) := by omega
       have z2 : ((m : Int)) < (((n - s : Nat) : Int)) := by omega
       have z3 : ¬ ((a : Int)) < ((s : Int)) := by omega
       have z5 : ((mid : Int)) < (((n - s : Nat) : Int)) := by omega
       have z6 : (((n - s : Nat) : Int)) < ((b : Int)) := by omega
       go_wp2_with (first | (go_at_call 219; (with_reducible refine (rotate enc g cb blk off cap s m (n - s) d0 d w0 _ R hs S1.out ?h1 ?h2 ?h3 hsz).mono ?_); (case h1 => omega); (case h2 => omega); (case h3 => omega); rintro e w2 ⟨rfl, d1, hS_, hz1, hE_, hP_⟩; have SA : Aside _ := hS_; have HE : Aside _ := hE_; obtain ⟨c1_, c2_, c3_, c4_, c5_⟩ := core (s := s) (m := m) (e := n - s) (by omega) (by omega) (by omega) (by omega) (by omega) HL.out HR.out (fun k hk => HE.out k (by omega)) HX.out HY.out; have em : s + (n - s - m) = mid := (by omega); rw [em] at c2_ c3_ c5_; clear em; have K1 : Aside _ := c1_; have K2 : Aside _ := c2_; have K3 : Aside _ := c3_; have K4 : Aside _ := c4_; have K5 : Aside _ := c5_; clear c1_ c2_ c3_ c4_ c5_; have PA : Aside (PermIn a b d d1) := permIn_mono _ _ _ _ a b (by omega) (by omega) (by omega) hP_; have TA : Aside (St key d1) := st_rot key (s := s) (m := m) (e := n - s) (by omega) (by omega) (by omega) HT.out (by omega) (fun k hk => HE.out k (by omega)) HX.out; clear hS_ hE_ hP_; have DB : Aside (Done key a mid d1 d1) := done_left (m := s) (by omega) K1.out K2.out (by omega) (by omega) TA.out; have SB : Aside _ := SA.out; have hz2 : d1.size = d0.size := hz1) | (go_at_call 217; (with_reducible refine (IH.out mid (n - s) b d1 _ ?h1 ?h2 ?h3 hb ?k0 ?k1 ?k2 ?k3 ?k4).mono ?_); (case h1 => omega); (case h2 => omega); (case h3 => omega); (case k0 => exact hz2); (case k1 => exact SB.out); (case k2 => exact (sorted_of_perm DB.out.1 K3.out (.inr (Nat.le_refl _)))); (case k3 => exact (sorted_of_perm DB.out.1 K4.out (.inr (by omega)))); (case k4 => exact DB.out.2.2); rintro e w4 ⟨rfl, d3, hS_, hz3, hD_⟩; have SC : Aside _ := hS_; have DC : Aside _ := hD_; clear hS_ hD_))
       go_end0
       exact ⟨rfl, d3, SC.out, hz3, done_c (by omega) (by omega) (by omega) PA.out (by omega) DB.out DC.out K5.out⟩
      ·have z1 : ((s : Int)) < ((m : Int)) := by omega
       have z2 : ((m : Int)) < (((n - s : Nat) : Int)) := by omega
       have z3 : ¬ ((a : Int)) < ((s : Int)) := by omega
       have z5 : ((mid : Int)) < (((n - s : Nat) : Int)) := by omega
       have z6 : ¬ (((n - s : Nat) : Int)) < ((b : Int)) := by omega
       go_wp2_with (first | (go_at_call 219; (with_reducible refine (rotate enc g cb blk off cap s m (n - s) d0 d w0 _ R hs S1.out ?h1 ?h2 ?h3 hsz).mono ?_); (case h1 => omega); (case h2 => omega); (case h3 => omega); rintro e w2 ⟨rfl, d1, hS_, hz1, hE_, hP_⟩; have SA : Aside _ := hS_; have HE : Aside _ := hE_; obtain ⟨c1_, c2_, c3_, c4_, c5_⟩ := core (s := s) (m := m) (e := n - s) (by omega) (by omega) (by omega) (by omega) (by omega) HL.out HR.out (fun k hk => HE.out k (by omega)) HX.out HY.out; have em : s + (n - s - m) = mid := (by omega); rw [em] at c2_ c3_ c5_; clear em; have K1 : Aside _ := c1_; have K2 : Aside _ := c2_; have K3 : Aside _ := c3_; have K4 : Aside _ := c4_; have K5 : Aside _ := c5_; clear c1_ c2_ c3_ c4_ c5_; have PA : Aside (PermIn a b d d1) := permIn_mono _ _ _ _ a b (by omega) (by omega) (by omega) hP_; have TA : Aside (St key d1) := st_rot key (s := s) (m := m) (e := n - s) (by omega) (by omega) (by omega) HT.out (by omega) (fun k hk => HE.out k (by omega)) HX.out; clear hS_ hE_ hP_; have DB : Aside (Done key a mid d1 d1) := done_left (m := s) (by omega) K1.out K2.out (by omega) (by omega) TA.out; have SB : Aside _ := SA.out; have hz2 : d1.size = d0.size := hz1))
       go_end0
       have DC : Aside (Done key mid b d1 d1) := done_left (m := n - s) (by omega) (sorted_of_perm DB.out.1 K3.out (.inr (Nat.le_refl _))) (sorted_of_perm DB.out.1 K4.out (.inr (by omega))) (by omega) (by omega) DB.out.2.2
       have SC : Aside _ := SB.out
       have hz3 : d1.size = d0.size := hz2
       exact ⟨rfl, d1, SC.out, hz3, done_c (by omega) (by omega) (by omega) PA.out (by omega) DB.out DC.out K5.out⟩
    ·by_cases u4 : s < mid
     ·have z1 : ¬ ((s : Int)) < ((m : Int)) := by omega
      have z3 : ((a : Int)) < ((s : Int)) := by omega
      have z4 : ((s : Int)) < ((mid : Int)) := by omega
      have z5 : ¬ ((mid : Int)) < (((n - s : Nat) : Int)) := by omega
      have HE : Aside (∀ k, k < d.size → d[k]! = d[T s m (n - s) k]!) := fun k hk => by rw [show T s m (n - s) k = k by unfold T; (repeat' split) <;> omega]
      obtain ⟨c1_, c2_, c3_, c4_, c5_⟩ := core (s := s) (m := m) (e := n - s) (by omega) (by omega) (by omega) (by omega) (by omega) HL.out HR.out HE.out HX.out HY.out
      have em : s + (n - s - m) = mid := (by omega)
      rw [em] at c2_ c3_ c5_
      clear em
      have K1 : Aside _ := c1_
      have K2 : Aside _ := c2_
      have K3 : Aside _ := c3_
      have K4 : Aside _ := c4_
      have K5 : Aside _ := c5_
      clear c1_ c2_ c3_ c4_ c5_
      have PA : Aside (PermIn a b d d) := permIn_refl d a b
      have TA : Aside (St key d) := HT.out
      have SA : Aside _ := S1.out
      have hz1 : d.size = d0.size := hs
      go_wp2_with (first | (go_at_call 217; (with_reducible refine (IH.out a s mid d _ ?h1 ?h2 ?h3 ?h4 ?k0 ?k1 ?k2 ?k3 ?k4).mono ?_); (case h1 => omega); (case h2 => omega); (case h3 => omega); (case h4 => omega); (case k0 => exact hz1); (case k1 => exact SA.out); (case k2 => exact K1.out); (case k3 => exact K2.out); (case k4 => exact TA.out); rintro e w3 ⟨rfl, d2, hS_, hz2, hD_⟩; have SB : Aside _ := hS_; have DB : Aside _ := hD_; clear hS_ hD_))
      go_end0
      have DC : Aside (Done key mid b d2 d2) := done_left (m := n - s) (by omega) (sorted_of_perm DB.out.1 K3.out (.inr (Nat.le_refl _))) (sorted_of_perm DB.out.1 K4.out (.inr (by omega))) (by omega) (by omega) DB.out.2.2
      have SC : Aside _ := SB.out
      have hz3 : d2.size = d0.size := hz2
      exact ⟨rfl, d2, SC.out, hz3, done_c (by omega) (by omega) (by omega) PA.out (by omega) DB.out DC.out K5.out⟩
     ·have z1 : ¬ ((s : Int)) < ((m : Int)) := by omega
      have z3 : ((a : Int)) < ((s : Int)) := by omega
      have z4 : ¬ ((s : Int)) < ((mid : Int)) := by omega
      have z5 : ¬ ((mid : Int)) < (((n - s : Nat) : Int)) := by omega
      have HE : Aside (∀ k, k < d.size → d[k]! = d[T s m (n - s) k]!) := fun k hk => by rw [show T s m (n - s) k = k by unfold T; (repeat' split) <;> omega]
      obtain ⟨c1_, c2_, c3_, c4_, c5_⟩ := core (s := s) (m := m) (e := n - s) (by omega) (by omega) (by omega) (by omega) (by omega) HL.out HR.out HE.out HX.out HY.out
      have em : s + (n - s - m) = mid := (by omega)
      rw [em] at c2_ c3_ c5_
      clear em
      have K1 : Aside _ := c1_
      have K2 : Aside _ := c2_
      have K3 : Aside _ := c3_
      have K4 : Aside _ := c4_
      have K5 : Aside _ := c5_
      clear c1_ c2_ c3_ c4_ c5_
      have PA : Aside (PermIn a b d d) := permIn_refl d a b
      have TA : Aside (St key d) := HT.out
      have SA : Aside _ := S1.out
      have hz1 : d.size = d0.size := hs
      have DB : Aside (Done key a mid d d) := done_left (m := s) (by omega) K1.out K2.out (by omega) (by omega) TA.out
      have SB : Aside _ := SA.out
      have hz2 : d.size = d0.size := hz1
      go_wp2
      go_end0
      have DC : Aside (Done key mid b d d) := done_left (m := n - s) (by omega) (sorted_of_perm DB.out.1 K3.out (.inr (Nat.le_refl _))) (sorted_of_perm DB.out.1 K4.out (.inr (by omega))) (by omega) (by omega) DB.out.2.2
      have SC : Aside _ := SB.out
      have hz3 : d.size = d0.size := hz2
      exact ⟨rfl, d, SC.out, hz3, done_c (by omega) (by omega) (by omega) PA.out (by omega) DB.out DC.out K5.out⟩
end Go.Proofs.Ytepjnalkpfnmcaa.StableSort
