/- The plain half of a stable sort by symmetric merges, and the walks of slices.swapRangeCmpFunc and slices.rotateCmpFunc at []int. Conditions: none. -/
import Derived.Test.YtepjnalkpfnmcaaProg
import Derived.Sort.LotA
import Derived.Shelf.SlSortCmp.Insertion1
import Derived.Sort.WalkB2
import Derived.Sort.WalkB12
import Derived.Deep.LoopGhost
set_option linter.unusedVariables false
set_option linter.unusedSimpArgs false
namespace Go.Proofs.Ytepjnalkpfnmcaa.StableSort
open Go Go.Sort Go.Shelf Go.RowKit Go.Lib Go.Proofs
set_option linter.unusedVariables false
set_option linter.unusedSimpArgs false
/-- How two blocks change their places: what lies at k was at T s m e k. -/
def T (s m e k : Nat) : Nat := if s ≤ k ∧ k < s + (e - m) then k + (m - s) else if s + (e - m) ≤ k ∧ k < e then k - (e - m) else k
/-- .. two runs of n places each. -/
def G (a b n k : Nat) : Nat := if a ≤ k ∧ k < a + n then k + b - a else if b ≤ k ∧ k < b + n then k + a - b else k
theorem G_step (a b i : Nat) (hab : a + (i + 1) ≤ b) (k : Nat) : G a b (i + 1) k = if k = b + i then G a b i (a + i) else if k = a + i then G a b i (b + i) else G a b i k := by
 unfold G; (repeat' split) <;> omega
theorem T_more (m i j k : Nat) (hj : j < i) (hi : i ≤ m) : G (m - i) m j (T (m - (i - j)) m (m + j) k) = T (m - i) m (m + j) k := by
 unfold G T; (repeat' split) <;> omega
theorem T_less (m i j k : Nat) (hj : i < j) (hi : i ≤ m) : G (m - i) (m + j - i) i (T (m - i) m (m + (j - i)) k) = T (m - i) m (m + j) k := by
 unfold G T; (repeat' split) <;> omega
theorem T_end (m i k : Nat) (hi : i ≤ m) : G (m - i) m i k = T (m - i) m (m + i) k := by
 unfold G T; (repeat' split) <;> omega
theorem T_up (a k n : Nat) (h : a ≤ n) : T a (a + 1) (n + 2) k = if k = n + 1 then T a (a + 1) (n + 1) n else if k = n then T a (a + 1) (n + 1) (n + 1) else T a (a + 1) (n + 1) k := by
 unfold T; (repeat' split) <;> omega
theorem T_id (s m k : Nat) : T s m m k = k := by
 unfold T; (repeat' split) <;> omega
theorem T_one (a k : Nat) : T a (a + 1) (a + 1) k = k := by
 unfold T; (repeat' split) <;> omega
theorem T_self (m k : Nat) : T m m (m + 1) k = k := by
 unfold T; (repeat' split) <;> omega
theorem T_down (i m k : Nat) (hi : i < m) : T i (m + 1) (m + 2) k = T i (m + 1) (m + 2) k := rfl
variable (key : Int → Int)
/-- Of equal keys the lesser number comes first. -/
def St (d : Array Int) : Prop := ∀ p q, p < q → q < d.size → key d[p]! = key d[q]! → d[p]! < d[q]!
def ltK (x y : Int) : Bool := decide (key x < key y)
theorem swoK : SWO (ltK key) where
 irrefl x := by simp [ltK]
 trans x y z h1 h2 := by simp only [ltK, decide_eq_true_eq] at *; omega
 ntrans x y z h1 h2 := by simp only [ltK, decide_eq_false_iff_not] at *; omega
theorem ltK_t {x y : Int} : ltK key x y = true ↔ key x < key y := by simp [ltK]
theorem ltK_f {x y : Int} : ltK key x y = false ↔ key y ≤ key x := by simp [ltK]
theorem st_rot {d d' : Array Int} {s m e : Nat} (hs : s ≤ m) (he : m ≤ e) (hz : e ≤ d.size) (h : St key d) (hd : d'.size = d.size) (ht : ∀ k, k < d.size → d'[k]! = d[T s m e k]!) (hx : ∀ r q, m ≤ r → r < e → s ≤ q → q < m → key d[r]! < key d[q]!) : St key d' := by
 intro p q hpq hq hk
 rw [ht p (by omega), ht q (by omega)] at hk ⊢
 by_cases c : T s m e p < T s m e q
 ·refine h _ _ c ?_ hk
  unfold T
  (repeat' split) <;> omega
 ·have := hx (T s m e p) (T s m e q) (by unfold T at *; (repeat' split at *) <;> omega) (by unfold T at *; (repeat' split at *) <;> omega) (by unfold T at *; (repeat' split at *) <;> omega) (by unfold T at *; (repeat' split at *) <;> omega)
  omega

variable {key}
theorem join {a mid b : Nat} {d' d1 d2 : Array Int} (ham : a ≤ mid) (hmb : mid ≤ b) (hz : b ≤ d'.size) (h1 : PermIn a mid d' d1) (s1 : SortedIn (ltK key) a mid d1) (h2 : PermIn mid b d1 d2) (s2 : SortedIn (ltK key) mid b d2)
  (hc : ∀ p q, a ≤ p → p < mid → mid ≤ q → q < b → ltK key d'[q]! d'[p]! = false) : SortedIn (ltK key) a b d2 := by
 have e1 : ∀ i, i < a ∨ mid ≤ i → d1[i]! = d'[i]! := h1.2.1
 have e2 : ∀ i, i < mid ∨ b ≤ i → d2[i]! = d1[i]! := h2.2.1
 have c1 : ∀ q, mid ≤ q → q < b → ∀ p, a ≤ p → p < mid → ltK key d1[q]! d1[p]! = false := fun q hq1 hq2 p hp1 hp2 => by
  rw [e1 q (.inr hq1)]
  exact permIn_all d' d1 a mid (fun x => ltK key d'[q]! x = false) (by omega) h1 (fun i h1 h2 => hc i q h1 h2 hq1 hq2) p hp1 hp2
 have c2 : ∀ p, a ≤ p → p < mid → ∀ q, mid ≤ q → q < b → ltK key d2[q]! d2[p]! = false := fun p hp1 hp2 q hq1 hq2 => by
  rw [e2 p (.inl hp2)]
  exact permIn_all d1 d2 mid b (fun x => ltK key x d1[p]! = false) (by rw [h1.1]; exact hz) h2 (fun i h1 h2 => c1 i h1 h2 p hp1 hp2) q hq1 hq2
 intro i j hi hij hj
 by_cases hjm : j < mid
 ·rw [e2 j (.inl hjm), e2 i (.inl (by omega))]; exact s1 i j hi hij hjm
 ·by_cases him : i < mid
  ·exact c2 i hi him j (by omega) hj
  ·exact s2 i j (by omega) hij hj
/-- Behind the change of places: four runs in order, and the first half below the second. -/
theorem core {a s m e b : Nat} {d d' : Array Int} (has : a ≤ s) (hsm : s ≤ m) (hme : m ≤ e) (heb : e ≤ b) (hz : b ≤ d.size) (hl : SortedIn (ltK key) a m d) (hr : SortedIn (ltK key) m b d)
  (ht : ∀ k, k < d.size → d'[k]! = d[T s m e k]!) (hx : ∀ r q, m ≤ r → r < e → s ≤ q → q < m → key d[r]! < key d[q]!) (hy : ∀ q r, a ≤ q → q < s → e ≤ r → r < b → key d[q]! ≤ key d[r]!) :
  SortedIn (ltK key) a s d' ∧ SortedIn (ltK key) s (s + (e - m)) d' ∧ SortedIn (ltK key) (s + (e - m)) e d' ∧ SortedIn (ltK key) e b d' ∧ ∀ p q, a ≤ p → p < s + (e - m) → s + (e - m) ≤ q → q < b → ltK key d'[q]! d'[p]! = false := by
 have tl : ∀ k, k < s → T s m e k = k := fun k h => by unfold T; (repeat' split) <;> omega
 have t1 : ∀ k, s ≤ k → k < s + (e - m) → T s m e k = k + (m - s) := fun k h h2 => by unfold T; (repeat' split) <;> omega
 have t2 : ∀ k, s + (e - m) ≤ k → k < e → T s m e k = k - (e - m) := fun k h h2 => by unfold T; (repeat' split) <;> omega
 have t3 : ∀ k, e ≤ k → T s m e k = k := fun k h => by unfold T; (repeat' split) <;> omega
 refine ⟨fun i j hi hij hj => ?_, fun i j hi hij hj => ?_, fun i j hi hij hj => ?_, fun i j hi hij hj => ?_, fun p q hp1 hp2 hq1 hq2 => ?_⟩
 ·rw [ht j (by omega), ht i (by omega), tl j hj, tl i (by omega)]; exact hl i j hi hij (by omega)
 ·rw [ht j (by omega), ht i (by omega), t1 j (by omega) hj, t1 i hi (by omega)]; exact hr _ _ (by omega) (by omega) (by omega)
 ·rw [ht j (by omega), ht i (by omega), t2 j (by omega) hj, t2 i hi (by omega)]; exact hl _ _ (by omega) (by omega) (by omega)
 ·rw [ht j (by omega), ht i (by omega), t3 j (by omega), t3 i hi]; exact hr _ _ (by omega) (by omega) (by omega)
 ·rw [ltK_f, ht q (by omega), ht p (by omega)]
  by_cases hps : p < s
  ·rw [tl p hps]
   by_cases hqe : q < e
   ·rw [t2 q hq1 hqe]
    exact (ltK_f key).1 (hl p _ hp1 (by omega) (by omega))
   ·rw [t3 q (by omega)]
    exact hy p q hp1 hps (by omega) hq2
  ·rw [t1 p (by omega) hp2]
   by_cases hqe : q < e
   ·rw [t2 q hq1 hqe]
    exact Int.le_of_lt (hx _ _ (by omega) (by omega) (by omega) (by omega))
   ·rw [t3 q (by omega)]
    exact (ltK_f key).1 (hr _ q (by omega) (by omega) hq2)
theorem st_swp {d : Array Int} {j : Nat} (hj : j + 1 < d.size) (h : St key d) (hl : key d[j + 1]! < key d[j]!) : St key (swp d (j + 1) j) := by
 refine st_rot key (s := j) (m := j + 1) (e := j + 2) (by omega) (by omega) (by omega) h (swp_size d _ _) (fun k hk => ?_) (fun r q h1 h2 h3 h4 => ?_)
 ·rw [swp_get d hj (by omega)]
  unfold T
  by_cases c1 : k = j
  ·subst c1; rw [if_pos rfl, if_pos (by omega), show k + (k + 1 - k) = k + 1 by omega]
  ·by_cases c2 : k = j + 1
   ·subst c2; rw [if_neg c1, if_pos rfl, if_neg (by omega), if_pos (by omega), show j + 1 - (j + 2 - (j + 1)) = j by omega]
   ·rw [if_neg c1, if_neg c2, if_neg (by omega), if_neg (by omega)]
 ·obtain rfl : r = j + 1 := by omega
  obtain rfl : q = j := by omega
  exact hl
theorem st_inner (a : Nat) : ∀ (j : Nat) (d : Array Int), j < d.size → St key d → St key (insInner (ltK key) a j d)
 | 0, d, _, h => by unfold insInner; exact h
 | j + 1, d, hj, h => by
  unfold insInner
  split
  ·rename_i hc
   simp only [Bool.and_eq_true, decide_eq_true_eq] at hc
   exact st_inner a j _ (by rw [swp_size]; omega) (st_swp hj h ((ltK_t key).1 hc.2))
  ·exact h
theorem inner_size (a : Nat) : ∀ (j : Nat) (d : Array Int), (insInner (ltK key) a j d).size = d.size
 | 0, d => by unfold insInner; rfl
 | j + 1, d => by
  unfold insInner
  split
  ·rw [inner_size a j, swp_size]
  ·rfl
theorem st_outer (a b : Nat) : ∀ (n i : Nat) (d : Array Int), b - i = n → b ≤ d.size → St key d → St key (insOuter (ltK key) a b i d)
 | 0, i, d, hn, hb, h => by rw [insOuter, if_neg (by omega)]; exact h
 | n + 1, i, d, hn, hb, h => by
  rw [insOuter, if_pos (by omega)]
  exact st_outer a b n (i + 1) _ (by omega) (by rw [inner_size]; exact hb) (st_inner a i d (by omega) h)
theorem st_ins {d : Array Int} {a b : Nat} (hb : b ≤ d.size) (h : St key d) : St key (insertionSort (ltK key) d a b) := st_outer a b _ _ d rfl hb h
set_option maxHeartbeats 8000000 in
set_option maxRecDepth 1000000 in
theorem swapRange (enc : Int → Value) (g : Nat) (cb : Array Value) (blk off cap a b n : Nat) (d0 d : Array Int) (w0 w : World) (R : Row1 enc w0 blk off d0) (hs : d.size = d0.size) (S : SW enc w0 blk off d w) (hab : a + n ≤ b) (hb : b + n ≤ d0.size) (hsz : d0.size < 1152921504606846976) :
  Calls Try.prog 220 #[.slice (some ⟨blk, off, none⟩) d0.size cap, .int .i64 a, .int .i64 b, .int .i64 n, .func (.func g) #[] cb] w fun e w' => e = .returned (.tuple #[]) ∧ ∃ d' : Array Int, SW enc w0 blk off d' w' ∧ d'.size = d0.size ∧ (∀ k, k < d0.size → d'[k]! = d[G a b n k]!) ∧ ∀ lo hi, lo ≤ a → b + n ≤ hi → hi ≤ d0.size → PermIn lo hi d d' := by
 have mixed : Try.prog.follows .mixedOrders = true := by kernel_rfl
 have hu32 := Try.underlying32
 have hcl0 := R.hO.cells
 simp only [Value.cells] at hcl0
 have hst := R.hO.store Try.prog
 have S0 : Aside (SW enc w0 blk off d w) := S
 clear S
 go_enter Try.func220, Try.ntmps220
 go_wp2
 go_loopg [10] n (fun kx s10 wr => ∃ (i : Nat) (dk : Array Int), s10 = .int .i64 i ∧ i ≤ n ∧ n - i ≤ kx ∧ dk.size = d0.size ∧ Aside (SW enc w0 blk off dk wr) ∧ Aside (∀ k, k < d0.size → dk[k]! = d[G a b i k]!) ∧ Aside (∀ lo hi, lo ≤ a → b + n ≤ hi → hi ≤ d0.size → PermIn lo hi d dk))
 case atStart => exact ⟨0, d, rfl, by omega, by omega, hs, S0, fun k hk => by rw [show G a b 0 k = k by unfold G; (repeat' split) <;> omega], fun lo hi _ _ _ => permIn_refl d lo hi⟩
 case round =>
  clear S0
  obtain ⟨i, dk, rfl, hin, hkx, hds, S1, HE, HP⟩ := hrel
  by_cases hlt : i < n
  ·have hltz : (i : Int) < (n : Int) := by omega
   go_wp2_with fail
   obtain ⟨iN1, hiN1⟩ : ∃ q, q = a + i := ⟨_, rfl⟩
   obtain ⟨jN1, hjN1⟩ : ∃ q, q = b + i := ⟨_, rfl⟩
   have ea1 : ((a : Int) + (i : Int)).toNat = iN1 := by omega
   have pa1 : (0 : Int) ≤ (a : Int) + (i : Int) := by omega
   have ba1 : (a : Int) + (i : Int) < (d0.size : Int) := by omega
   have ra1 : IntKind.i64.wrap ((a : Int) + (i : Int)) = (a : Int) + (i : Int) := by rw [IntKind.wrap_i64]; omega
   have ec1 : ((b : Int) + (i : Int)).toNat = jN1 := by omega
   have pc1 : (0 : Int) ≤ (b : Int) + (i : Int) := by omega
   have bc1 : (b : Int) + (i : Int) < (d0.size : Int) := by omega
   have rc1 : IntKind.i64.wrap ((b : Int) + (i : Int)) = (b : Int) + (i : Int) := by rw [IntKind.wrap_i64]; omega
   obtain ⟨x1, hx1⟩ : ∃ x, x = dk[a + i]! := ⟨_, rfl⟩
   obtain ⟨y1, hy1⟩ : ∃ x, x = dk[b + i]! := ⟨_, rfl⟩
   have S2 : Aside (SW enc w0 blk off (swp dk (a + i) (b + i)) ((wr.setCell ⟨blk, off + iN1, none⟩ (enc y1)).setCell ⟨blk, off + jN1, none⟩ (enc x1)).drew) := by rw [hiN1, hjN1, hx1, hy1]; exact S1.out.swapped R (a + i) (b + i) (by omega) (by omega)
   have c1a : wr.cell? _ = some (enc _) := S1.out.c1 R (by omega) (a + i) (by omega)
   have c1b : wr.cell? _ = some (enc _) := S1.out.c1 R (by omega) (b + i) (by omega)
   have f1a := S1.out.f1 R (by omega) (a + i) (by omega)
   have f1b := S1.out.f1 R (by omega) (b + i) (by omega)
   obtain ⟨u1, c1c⟩ := S1.out.c2 R (by omega) (a + i) (b + i) (by omega) (by omega) (enc y1)
   rw [← hjN1, ← hiN1] at c1c
   rw [← hx1, ← hiN1] at c1a
   rw [← hy1, ← hjN1] at c1b
   rw [← hiN1] at f1a
   rw [← hjN1] at f1b
   clear S1 hx1 hy1 hiN1 hjN1
   go_wp2_with fail
   go_big_region_o
   clear c1a c1b c1c f1a f1b
   generalize ((wr.setCell ⟨blk, off + iN1, none⟩ (enc y1)).setCell ⟨blk, off + jN1, none⟩ (enc x1)).drew = w2 at S2 ⊢
   clear ea1 ec1
   go_wp2
   go_roundg (n - (i + 1))
   case measure => omega
   case rel =>
    refine ⟨i + 1, swp dk (a + i) (b + i), by first | rfl | go_num | (congr 1; omega), by omega, Nat.le_refl _, by rw [swp_size]; exact hds, S2, fun k hk => ?_, fun lo hi h1 h2 h3 => permIn_trans _ _ _ lo hi (HP.out lo hi h1 h2 h3) (swp_permIn dk lo hi (a + i) (b + i) (by omega) (by omega) (by omega) (by omega) (by omega))⟩
    rw [swp_get dk (by omega) (by omega), G_step a b i (by omega)]
    by_cases k1 : k = b + i
    ·rw [if_pos k1, if_pos k1]; exact HE.out (a + i) (by omega)
    ·rw [if_neg k1, if_neg k1]
     by_cases k2 : k = a + i
     ·rw [if_pos k2, if_pos k2]; exact HE.out (b + i) (by omega)
     ·rw [if_neg k2, if_neg k2]; exact HE.out k hk
  ·have hltz : ¬ (i : Int) < (n : Int) := by omega
   obtain rfl : i = n := by omega
   go_wp2
   go_end0
   exact ⟨rfl, dk, S1.out, hds, HE.out, HP.out⟩
set_option maxHeartbeats 8000000 in
set_option maxRecDepth 1000000 in
theorem rotate (enc : Int → Value) (g : Nat) (cb : Array Value) (blk off cap a m b : Nat) (d0 d : Array Int) (w0 w : World) (R : Row1 enc w0 blk off d0) (hs : d.size = d0.size) (S : SW enc w0 blk off d w) (ham : a < m) (hmb : m < b) (hb : b ≤ d0.size) (hsz : d0.size < 1152921504606846976) :
  Calls Try.prog 219 #[.slice (some ⟨blk, off, none⟩) d0.size cap, .int .i64 a, .int .i64 m, .int .i64 b, .func (.func g) #[] cb] w fun e w' => e = .returned (.tuple #[]) ∧ ∃ d' : Array Int, SW enc w0 blk off d' w' ∧ d'.size = d0.size ∧ (∀ k, k < d0.size → d'[k]! = d[T a m b k]!) ∧ PermIn a b d d' := by
 have mixed : Try.prog.follows .mixedOrders = true := by kernel_rfl
 have hu32 := Try.underlying32
 have hcl0 := R.hO.cells
 simp only [Value.cells] at hcl0
 have hst := R.hO.store Try.prog
 have S0 : Aside (SW enc w0 blk off d w) := S
 clear S hcl0 hst
 have r1 : IntKind.i64.wrap ((m : Int) - (a : Int)) = ((m - a : Nat) : Int) := by rw [IntKind.wrap_i64]; omega
 have r2 : IntKind.i64.wrap ((b : Int) - (m : Int)) = ((b - m : Nat) : Int) := by rw [IntKind.wrap_i64]; omega
 go_enter Try.func219, Try.ntmps219
 go_wp2
 go_loopg [10, 11] (b - a) (fun kx s10 s11 wr => ∃ (i j : Nat) (dk : Array Int), s10 = .int .i64 i ∧ s11 = .int .i64 j ∧ 0 < i ∧ 0 < j ∧ a + i ≤ m ∧ m + j ≤ b ∧ i + j ≤ kx ∧ dk.size = d0.size ∧ Aside (SW enc w0 blk off dk wr) ∧ Aside (∀ k, k < d0.size → d[T a m b k]! = dk[T (m - i) m (m + j) k]!) ∧ Aside (PermIn a b d dk))
 case atStart => exact ⟨m - a, b - m, d, by first | rfl | go_num | (congr 1; omega), by first | rfl | go_num | (congr 1; omega), by omega, by omega, by omega, by omega, by omega, hs, S0, fun k hk => by rw [show m - (m - a) = a by omega, show m + (b - m) = b by omega], permIn_refl d a b⟩
 case round =>
  clear S0
  obtain ⟨i, j, dk, rfl, rfl, hi0, hj0, hi, hj, hkx, hds, S1, HE, HP⟩ := hrel
  have q1 : IntKind.i64.wrap ((m : Int) - (i : Int)) = ((m - i : Nat) : Int) := by rw [IntKind.wrap_i64]; omega
  by_cases hij : i = j
  ·subst hij
   have hne : ¬ ((i : Int) ≠ (i : Int)) := by omega
   go_wp2_with (first | (go_at_call 220; (with_reducible refine (swapRange enc g cb blk off cap (m - i) m i d0 dk w0 _ R ?hs S1.out ?h1 ?h2 hsz).mono ?_); (case hs => omega); (case h1 => omega); (case h2 => omega); rintro e w2 ⟨rfl, d2, hS, hz2, hE2, hP2⟩))
   go_end0
   refine ⟨rfl, d2, hS, by omega, fun k hk => ?_, permIn_trans _ _ _ a b HP.out (hP2 a b (by omega) (by omega) (by omega))⟩
   rw [hE2 k (by omega), HE.out k hk, T_end m i k (by omega)]
  ·have hne : ((i : Int) ≠ (j : Int)) := by omega
   have hne2 : ¬ ((i : Int) = (j : Int)) := by omega
   by_cases hgt : j < i
   ·have hgz : (j : Int) < (i : Int) := by omega
    have q2 : IntKind.i64.wrap ((i : Int) - (j : Int)) = ((i - j : Nat) : Int) := by rw [IntKind.wrap_i64]; omega
    go_wp2_with (first | (go_at_call 220; (with_reducible refine (swapRange enc g cb blk off cap (m - i) m j d0 dk w0 _ R ?hs S1.out ?h1 ?h2 hsz).mono ?_); (case hs => omega); (case h1 => omega); (case h2 => omega); rintro e w2 ⟨rfl, d2, hS, hz2, hE2, hP2⟩))
    go_roundg (i - j + j)
    case measure => omega
    case rel =>
     refine ⟨i - j, j, d2, by first | rfl | go_num | (congr 1; omega), rfl, by omega, hj0, by omega, hj, Nat.le_refl _, by omega, hS, fun k hk => ?_, permIn_trans _ _ _ a b HP.out (hP2 a b (by omega) (by omega) (by omega))⟩
     rw [HE.out k hk, hE2 _ (by unfold T; (repeat' split) <;> omega), T_more m i j k hgt (by omega)]
   ·have hgz : ¬ (j : Int) < (i : Int) := by omega
    have q2 : IntKind.i64.wrap ((j : Int) - (i : Int)) = ((j - i : Nat) : Int) := by rw [IntKind.wrap_i64]; omega
    have q3 : IntKind.i64.wrap ((m : Int) + (j : Int)) = (m : Int) + (j : Int) := by rw [IntKind.wrap_i64]; omega
    have q4 : IntKind.i64.wrap ((m : Int) + (j : Int) - (i : Int)) = ((m + j - i : Nat) : Int) := by rw [IntKind.wrap_i64]; omega
    go_wp2_with (first | (go_at_call 220; (with_reducible refine (swapRange enc g cb blk off cap (m - i) (m + j - i) i d0 dk w0 _ R ?hs S1.out ?h1 ?h2 hsz).mono ?_); (case hs => omega); (case h1 => omega); (case h2 => omega); rintro e w2 ⟨rfl, d2, hS, hz2, hE2, hP2⟩))
    go_roundg (i + (j - i))
    case measure => omega
    case rel =>
     refine ⟨i, j - i, d2, rfl, by first | rfl | go_num | (congr 1; omega), hi0, by omega, hi, by omega, Nat.le_refl _, by omega, hS, fun k hk => ?_, permIn_trans _ _ _ a b HP.out (hP2 a b (by omega) (by omega) (by omega))⟩
     rw [HE.out k hk, hE2 _ (by unfold T; (repeat' split) <;> omega), T_less m i j k (by omega) (by omega)]
end Go.Proofs.Ytepjnalkpfnmcaa.StableSort
