/- slices.symMergeCmpFunc at []int: what it merges is in order, and stays stable. Conditions: none. -/
import Derived.Test.YtepjnalkpfnmcaaProg
import Derived.Sort.LotA
import Derived.Shelf.SlSortCmp.Insertion1
import Derived.Sort.WalkB2
import Derived.Sort.WalkB12
import Derived.Deep.LoopGhost
import Derived.Test.YtepjnalkpfnmcaaStableB
set_option linter.unusedVariables false
set_option linter.unusedSimpArgs false
namespace Go.Proofs.Ytepjnalkpfnmcaa.StableSort
open Go Go.Sort Go.Shelf Go.RowKit Go.Lib Go.Proofs
set_option maxHeartbeats 32000000 in
set_option maxRecDepth 1000000 in
theorem symMerge (enc : Int → Value) (key : Int → Int) (cf : Int → Int → Int) (hlk : ∀ x y, cf x y < 0 ↔ key x < key y) (g : Nat) (cb : Array Value) (blk off cap : Nat) (d0 : Array Int) (w0 : World) (eg : ∀ args w, (callFunc g args).run Try.prog w = .ok (.enter g args) w) (hcmp : CmpLays1 Try.prog g cb enc cf blk off d0.size w0) (R : Row1 enc w0 blk off d0) (hsz : d0.size < 1152921504606846976) :
  ∀ (N a m b : Nat) (d : Array Int) (w : World), b - a ≤ N → a < m → m < b → b ≤ d0.size → d.size = d0.size → SW enc w0 blk off d w → SortedIn (ltK key) a m d → SortedIn (ltK key) m b d → St key d →
  Calls Try.prog 217 #[.slice (some ⟨blk, off, none⟩) d0.size cap, .int .i64 a, .int .i64 m, .int .i64 b, .func (.func g) #[] cb] w fun e w' => e = .returned (.tuple #[]) ∧ ∃ d' : Array Int, SW enc w0 blk off d' w' ∧ d'.size = d0.size ∧ Done key a b d d' := by
 intro N
 induction N with
 | zero => intro a m b d w hN ham hmb; omega
 | succ N ih =>
  intro a m b d w hN ham hmb hb hs S hl hr hst2
  by_cases hmain : ¬ m = a + 1 ∧ ¬ b = m + 1
  ·exact symMain enc key cf hlk g cb blk off cap d0 w0 eg hcmp R hsz N a m b d w ih hN ham hmb hb hs S hl hr hst2 hmain.1 hmain.2
  have HMN : Aside _ := hmain
  clear hmain
  have mixed : Try.prog.follows .mixedOrders = true := by kernel_rfl
  have hu32 := Try.underlying32
  have hcl0 := R.hO.cells
  simp only [Value.cells] at hcl0
  have hst := R.hO.store Try.prog
  have HC : Aside _ := hcmp
  have HLK : Aside _ := hlk
  have IH : Aside _ := ih
  have HL : Aside _ := hl
  have HR : Aside _ := hr
  have HT : Aside _ := hst2
  have S0 : Aside (SW enc w0 blk off d w) := S
  clear S hl hr hst2 ih hcmp hlk
  go_enter Try.func217, Try.ntmps217
  by_cases c1 : m = a + 1
  ·have r0 : IntKind.i64.wrap ((m : Int) - (a : Int)) = 1 := by rw [IntKind.wrap_i64]; omega
   have C1 : Aside _ := c1
   clear c1
   go_wp2
   go_loopg [10, 11] (b - m) (fun kx s10 s11 wr => ∃ (i j : Nat), s10 = .int .i64 i ∧ s11 = .int .i64 j ∧ m ≤ i ∧ i ≤ j ∧ j ≤ b ∧ j - i ≤ kx ∧ Aside (SW enc w0 blk off d wr) ∧ Aside (∀ q, m ≤ q → q < i → key d[q]! < key d[a]!) ∧ Aside (∀ q, j ≤ q → q < b → key d[a]! ≤ key d[q]!))
   case atStart => exact ⟨m, b, rfl, rfl, by omega, by omega, by omega, by omega, S0, fun q h1 h2 => absurd h2 (by omega), fun q h1 h2 => absurd h2 (by omega)⟩
   case round =>
    clear S0
    obtain ⟨i, j, rfl, rfl, hmi, hij, hjb, hkx, S1, I1, I2⟩ := hrel
    by_cases hlt : i < j
    ·have hltz : (i : Int) < (j : Int) := by omega
     obtain ⟨h, hh⟩ : ∃ h : Nat, (i + j) / 2 = h := ⟨_, rfl⟩
     have hhz : ((i : Int) + (j : Int)) / 2 = (h : Int) := by omega
     by_cases hv : key d[h]! < key d[a]!
     ·have HV : Aside _ := hv
      clear hv
      obtain ⟨iN1, hiN1⟩ : ∃ q, q = h := ⟨_, rfl⟩
      obtain ⟨jN1, hjN1⟩ : ∃ q, q = a := ⟨_, rfl⟩
      have ea1 : ((h : Int)).toNat = iN1 := by omega
      have pa1 : (0 : Int) ≤ (h : Int) := by omega
      have ba1 : (h : Int) < (d0.size : Int) := by omega
      have ra1 : IntKind.i64.wrap ((h : Int)) = (h : Int) := by rw [IntKind.wrap_i64]; omega
      have ec1 : ((a : Int)).toNat = jN1 := by omega
      have pc1 : (0 : Int) ≤ (a : Int) := by omega
      have bc1 : (a : Int) < (d0.size : Int) := by omega
      have rc1 : IntKind.i64.wrap ((a : Int)) = (a : Int) := by rw [IntKind.wrap_i64]; omega
      obtain ⟨x1, hx1⟩ : ∃ x, x = d[h]! := ⟨_, rfl⟩
      obtain ⟨y1, hy1⟩ : ∃ x, x = d[a]! := ⟨_, rfl⟩
      have l1a := S1.out.cl R (by omega) (h) (by omega)
      have l1b := S1.out.cl R (by omega) (a) (by omega)
      rw [← hx1, ← hiN1] at l1a
      rw [← hy1, ← hjN1] at l1b
      have hc1 := S1.out.cmp HC.out (by omega) x1 y1
      have hv1 : cf x1 y1 < 0 := by rw [hx1, hy1]; exact (HLK.out _ _).2 HV.out
      have hd1 : decide (cf x1 y1 < 0) = true := decide_eq_true hv1
      clear hx1 hy1 hiN1 hjN1
      go_wp2_with fail
      go_quiet_grown (first | (go_at_fn g; refine Calls.grown_of (hc1 _ _)))
      have S2 : Aside (SW enc w0 blk off d (grow (wr.drewN nq) osq)) := S1.out.grown nq osq
      clear l1a l1b hc1 S1
      generalize grow (wr.drewN nq) osq = w2 at S2 ⊢
      clear nq osq
      clear ea1 ec1
      go_wp2
      go_roundg (j - (h + 1))
      case measure => omega
      case rel => exact ⟨h + 1, j, by first | rfl | go_num | (congr 1; omega), rfl, by omega, by omega, hjb, Nat.le_refl _, S2, fun q h1 h2 => Int.lt_of_le_of_lt (key_le HR.out h1 (by omega) (by omega)) HV.out, I2.out⟩
     ·have HV : Aside _ := hv
      clear hv
      obtain ⟨iN2, hiN2⟩ : ∃ q, q = h := ⟨_, rfl⟩
      obtain ⟨jN2, hjN2⟩ : ∃ q, q = a := ⟨_, rfl⟩
      have ea2 : ((h : Int)).toNat = iN2 := by omega
      have pa2 : (0 : Int) ≤ (h : Int) := by omega
      have ba2 : (h : Int) < (d0.size : Int) := by omega
      have ra2 : IntKind.i64.wrap ((h : Int)) = (h : Int) := by rw [IntKind.wrap_i64]; omega
      have ec2 : ((a : Int)).toNat = jN2 := by omega
      have pc2 : (0 : Int) ≤ (a : Int) := by omega
      have bc2 : (a : Int) < (d0.size : Int) := by omega
      have rc2 : IntKind.i64.wrap ((a : Int)) = (a : Int) := by rw [IntKind.wrap_i64]; omega
      obtain ⟨x2, hx2⟩ : ∃ x, x = d[h]! := ⟨_, rfl⟩
      obtain ⟨y2, hy2⟩ : ∃ x, x = d[a]! := ⟨_, rfl⟩
      have l2a := S1.out.cl R (by omega) (h) (by omega)
      have l2b := S1.out.cl R (by omega) (a) (by omega)
      rw [← hx2, ← hiN2] at l2a
      rw [← hy2, ← hjN2] at l2b
      have hc2 := S1.out.cmp HC.out (by omega) x2 y2
      have hv2 : ¬ cf x2 y2 < 0 := by rw [hx2, hy2]; exact fun h_ => HV.out ((HLK.out _ _).1 h_)
      have hd2 : decide (cf x2 y2 < 0) = false := decide_eq_false hv2
      clear hx2 hy2 hiN2 hjN2
      go_wp2_with fail
      go_quiet_grown (first | (go_at_fn g; refine Calls.grown_of (hc2 _ _)))
      have S2 : Aside (SW enc w0 blk off d (grow (wr.drewN nq) osq)) := S1.out.grown nq osq
      clear l2a l2b hc2 S1
      generalize grow (wr.drewN nq) osq = w2 at S2 ⊢
      clear nq osq
      clear ea2 ec2
      go_wp2
      go_roundg (h - i)
      case measure => omega
      case rel => exact ⟨i, h, rfl, by first | rfl | go_num | (congr 1; omega), hmi, by omega, by omega, Nat.le_refl _, S2, I1.out, fun q h1 h2 => Int.le_trans (Int.not_lt.1 HV.out) (key_le HR.out (by omega) h1 h2)⟩
    ·have hltz : ¬ (i : Int) < (j : Int) := by omega
     obtain rfl : i = j := by omega
     have r3 : IntKind.i64.wrap ((i : Int) - 1) = ((i - 1 : Nat) : Int) := by rw [IntKind.wrap_i64]; omega
     go_wp2
     go_loopg [13] (i - 1 - a) (fun kx s13 wr => ∃ (kk : Nat) (dk : Array Int), s13 = .int .i64 kk ∧ a ≤ kk ∧ kk ≤ i - 1 ∧ i - 1 - kk ≤ kx ∧ dk.size = d0.size ∧ Aside (SW enc w0 blk off dk wr) ∧ Aside (PermIn a b d dk) ∧ Aside (∀ k, k < d.size → dk[k]! = d[T a (a + 1) (kk + 1) k]!))
     case atStart => exact ⟨a, d, rfl, by omega, by omega, by omega, hs, S1, permIn_refl d a b, fun k hk => by rw [T_one]⟩
     case round =>
      clear S1
      obtain ⟨kk, dk, rfl, hk1, hk2, hkx2, hds, S1, HP, HE⟩ := hrel
      by_cases hlt2 : kk < i - 1
      ·have hltz2 : (kk : Int) < ((i - 1 : Nat) : Int) := by omega
       go_wp2_with fail
       obtain ⟨iN3, hiN3⟩ : ∃ q, q = kk := ⟨_, rfl⟩
       obtain ⟨jN3, hjN3⟩ : ∃ q, q = kk + 1 := ⟨_, rfl⟩
       have ea3 : ((kk : Int)).toNat = iN3 := by omega
       have pa3 : (0 : Int) ≤ (kk : Int) := by omega
       have ba3 : (kk : Int) < (d0.size : Int) := by omega
       have ra3 : IntKind.i64.wrap ((kk : Int)) = (kk : Int) := by rw [IntKind.wrap_i64]; omega
       have ec3 : ((kk : Int) + 1).toNat = jN3 := by omega
       have pc3 : (0 : Int) ≤ (kk : Int) + 1 := by omega
       have bc3 : (kk : Int) + 1 < (d0.size : Int) := by omega
       have rc3 : IntKind.i64.wrap ((kk : Int) + 1) = (kk : Int) + 1 := by rw [IntKind.wrap_i64]; omega
       obtain ⟨x3, hx3⟩ : ∃ x, x = dk[kk]! := ⟨_, rfl⟩
       obtain ⟨y3, hy3⟩ : ∃ x, x = dk[kk + 1]! := ⟨_, rfl⟩
       have S2 : Aside (SW enc w0 blk off (swp dk (kk) (kk + 1)) ((wr.setCell ⟨blk, off + iN3, none⟩ (enc y3)).setCell ⟨blk, off + jN3, none⟩ (enc x3)).drew) := by rw [hiN3, hjN3, hx3, hy3]; exact S1.out.swapped R (kk) (kk + 1) (by omega) (by omega)
       have c3a : wr.cell? _ = some (enc _) := S1.out.c1 R (by omega) (kk) (by omega)
       have c3b : wr.cell? _ = some (enc _) := S1.out.c1 R (by omega) (kk + 1) (by omega)
       have f3a := S1.out.f1 R (by omega) (kk) (by omega)
       have f3b := S1.out.f1 R (by omega) (kk + 1) (by omega)
       obtain ⟨u3, c3c⟩ := S1.out.c2 R (by omega) (kk) (kk + 1) (by omega) (by omega) (enc y3)
       rw [← hjN3, ← hiN3] at c3c
       rw [← hx3, ← hiN3] at c3a
       rw [← hy3, ← hjN3] at c3b
       rw [← hiN3] at f3a
       rw [← hjN3] at f3b
       clear S1 hx3 hy3 hiN3 hjN3
       go_wp2_with fail
       go_big_region_o
       clear c3a c3b c3c f3a f3b
       generalize ((wr.setCell ⟨blk, off + iN3, none⟩ (enc y3)).setCell ⟨blk, off + jN3, none⟩ (enc x3)).drew = w2 at S2 ⊢
       clear ea3 ec3
       go_wp2
       go_roundg (i - 1 - (kk + 1))
       case measure => omega
       case rel =>
        refine ⟨kk + 1, swp dk kk (kk + 1), by first | rfl | go_num | (congr 1; omega), by omega, by omega, Nat.le_refl _, by rw [swp_size]; exact hds, S2, permIn_trans _ _ _ a b HP.out (swp_permIn dk a b kk (kk + 1) (by omega) (by omega) (by omega) (by omega) (by omega)), fun k hk => ?_⟩
        rw [swp_get dk (by omega) (by omega), T_up a k kk hk1]
        by_cases k1 : k = kk + 1
        ·rw [if_pos k1, if_pos k1]; exact HE.out kk (by omega)
        ·rw [if_neg k1, if_neg k1]
         by_cases k2 : k = kk
         ·rw [if_pos k2, if_pos k2]; exact HE.out (kk + 1) (by omega)
         ·rw [if_neg k2, if_neg k2]; exact HE.out k hk
      ·have hltz2 : ¬ (kk : Int) < ((i - 1 : Nat) : Int) := by omega
       obtain rfl : kk = i - 1 := by omega
       go_wp2
       (try simp only [Exit.inBlock, Exit.then])
       refine bodyPost_ret (results_none rfl _ _ _) rfl ?_
       refine ⟨rfl, dk, S1.out, hds, ?_⟩
       obtain rfl := C1.out
       exact done_a (i := i) (by omega) hjb (by omega) HL.out HR.out HT.out (by omega) HP.out (fun k hk => by rw [HE.out k hk, show i - 1 + 1 = i by omega]) I1.out I2.out
  ·have r0 : IntKind.i64.wrap ((m : Int) - (a : Int)) = ((m - a : Nat) : Int) := by rw [IntKind.wrap_i64]; omega
   have r0n : ¬ ((m - a : Nat) : Int) = 1 := by omega
   have r0b : (((m - a : Nat) : Int) == 1) = false := by simp; omega
   by_cases c2 : b = m + 1
   ·have r1 : IntKind.i64.wrap ((b : Int) - (m : Int)) = 1 := by rw [IntKind.wrap_i64]; omega
    have C2 : Aside _ := c2
    clear c2 c1
    go_wp2
    go_loopg [14, 15] (m - a) (fun kx s10 s11 wr => ∃ (i j : Nat), s10 = .int .i64 i ∧ s11 = .int .i64 j ∧ a ≤ i ∧ i ≤ j ∧ j ≤ m ∧ j - i ≤ kx ∧ Aside (SW enc w0 blk off d wr) ∧ Aside (∀ q, a ≤ q → q < i → key d[q]! ≤ key d[m]!) ∧ Aside (∀ q, j ≤ q → q < m → key d[m]! < key d[q]!))
    case atStart => exact ⟨a, m, rfl, rfl, by omega, by omega, by omega, by omega, S0, fun q h1 h2 => absurd h2 (by omega), fun q h1 h2 => absurd h2 (by omega)⟩
    case round =>
     clear S0
     obtain ⟨i, j, rfl, rfl, hmi, hij, hjb, hkx, S1, I1, I2⟩ := hrel
     by_cases hlt : i < j
     ·have hltz : (i : Int) < (j : Int) := by omega
      obtain ⟨h, hh⟩ : ∃ h : Nat, (i + j) / 2 = h := ⟨_, rfl⟩
      have hhz : ((i : Int) + (j : Int)) / 2 = (h : Int) := by omega
      by_cases hv : key d[m]! < key d[h]!
      ·have HV : Aside _ := hv
       clear hv
       obtain ⟨iN4, hiN4⟩ : ∃ q, q = m := ⟨_, rfl⟩
       obtain ⟨jN4, hjN4⟩ : ∃ q, q = h := ⟨_, rfl⟩
       have ea4 : ((m : Int)).toNat = iN4 := by omega
       have pa4 : (0 : Int) ≤ (m : Int) := by omega
       have ba4 : (m : Int) < (d0.size : Int) := by omega
       have ra4 : IntKind.i64.wrap ((m : Int)) = (m : Int) := by rw [IntKind.wrap_i64]; omega
       have ec4 : ((h : Int)).toNat = jN4 := by omega
       have pc4 : (0 : Int) ≤ (h : Int) := by omega
       have bc4 : (h : Int) < (d0.size : Int) := by omega
       have rc4 : IntKind.i64.wrap ((h : Int)) = (h : Int) := by rw [IntKind.wrap_i64]; omega
       obtain ⟨x4, hx4⟩ : ∃ x, x = d[m]! := ⟨_, rfl⟩
       obtain ⟨y4, hy4⟩ : ∃ x, x = d[h]! := ⟨_, rfl⟩
       have l4a := S1.out.cl R (by omega) (m) (by omega)
       have l4b := S1.out.cl R (by omega) (h) (by omega)
       rw [← hx4, ← hiN4] at l4a
       rw [← hy4, ← hjN4] at l4b
       have hc4 := S1.out.cmp HC.out (by omega) x4 y4
       have hv4 : cf x4 y4 < 0 := by rw [hx4, hy4]; exact (HLK.out _ _).2 HV.out
       have hd4 : decide (cf x4 y4 < 0) = true := decide_eq_true hv4
       clear hx4 hy4 hiN4 hjN4
       go_wp2_with fail
       go_quiet_grown (first | (go_at_fn g; refine Calls.grown_of (hc4 _ _)))
       have S2 : Aside (SW enc w0 blk off d (grow (wr.drewN nq) osq)) := S1.out.grown nq osq
       clear l4a l4b hc4 S1
       generalize grow (wr.drewN nq) osq = w2 at S2 ⊢
       clear nq osq
       clear ea4 ec4
       go_wp2
       go_roundg (h - i)
       case measure => omega
       case rel => exact ⟨i, h, rfl, by first | rfl | go_num | (congr 1; omega), hmi, by omega, by omega, Nat.le_refl _, S2, I1.out, fun q h1 h2 => Int.lt_of_lt_of_le HV.out (key_le HL.out (by omega) h1 h2)⟩
      ·have HV : Aside _ := hv
       clear hv
       obtain ⟨iN5, hiN5⟩ : ∃ q, q = m := ⟨_, rfl⟩
       obtain ⟨jN5, hjN5⟩ : ∃ q, q = h := ⟨_, rfl⟩
       have ea5 : ((m : Int)).toNat = iN5 := by omega
       have pa5 : (0 : Int) ≤ (m : Int) := by omega
       have ba5 : (m : Int) < (d0.size : Int) := by omega
       have ra5 : IntKind.i64.wrap ((m : Int)) = (m : Int) := by rw [IntKind.wrap_i64]; omega
       have ec5 : ((h : Int)).toNat = jN5 := by omega
       have pc5 : (0 : Int) ≤ (h : Int) := by omega
       have bc5 : (h : Int) < (d0.size : Int) := by omega
       have rc5 : IntKind.i64.wrap ((h : Int)) = (h : Int) := by rw [IntKind.wrap_i64]; omega
       obtain ⟨x5, hx5⟩ : ∃ x, x = d[m]! := ⟨_, rfl⟩
       obtain ⟨y5, hy5⟩ : ∃ x, x = d[h]! := ⟨_, rfl⟩
       have l5a := S1.out.cl R (by omega) (m) (by omega)
       have l5b := S1.out.cl R (by omega) (h) (by omega)
       rw [← hx5, ← hiN5] at l5a
       rw [← hy5, ← hjN5] at l5b
       have hc5 := S1.out.cmp HC.out (by omega) x5 y5
       have hv5 : ¬ cf x5 y5 < 0 := by rw [hx5, hy5]; exact fun h_ => HV.out ((HLK.out _ _).1 h_)
       have hd5 : decide (cf x5 y5 < 0) = false := decide_eq_false hv5
       clear hx5 hy5 hiN5 hjN5
       go_wp2_with fail
       go_quiet_grown (first | (go_at_fn g; refine Calls.grown_of (hc5 _ _)))
       have S2 : Aside (SW enc w0 blk off d (grow (wr.drewN nq) osq)) := S1.out.grown nq osq
       clear l5a l5b hc5 S1
       generalize grow (wr.drewN nq) osq = w2 at S2 ⊢
       clear nq osq
       clear ea5 ec5
       go_wp2
       go_roundg (j - (h + 1))
       case measure => omega
       case rel => exact ⟨h + 1, j, by first | rfl | go_num | (congr 1; omega), rfl, by omega, by omega, hjb, Nat.le_refl _, S2, fun q h1 h2 => Int.le_trans (key_le HL.out h1 (show q ≤ h by omega) (by omega)) (Int.not_lt.1 HV.out), I2.out⟩
     ·have hltz : ¬ (i : Int) < (j : Int) := by omega
      obtain rfl : i = j := by omega
      go_wp2
      go_loopg [17] (m - i) (fun kx s13 wr => ∃ (kk : Nat) (dk : Array Int), s13 = .int .i64 kk ∧ i ≤ kk ∧ kk ≤ m ∧ kk - i ≤ kx ∧ dk.size = d0.size ∧ Aside (SW enc w0 blk off dk wr) ∧ Aside (PermIn a b d dk) ∧ Aside (∀ k, k < d.size → dk[k]! = d[T kk m (m + 1) k]!))
      case atStart => exact ⟨m, d, rfl, by omega, by omega, by omega, hs, S1, permIn_refl d a b, fun k hk => by rw [T_self]⟩
      case round =>
       clear S1
       obtain ⟨kk, dk, rfl, hk1, hk2, hkx2, hds, S1, HP, HE⟩ := hrel
       by_cases hlt2 : i < kk
       ·obtain ⟨kp, hkp⟩ : ∃ q, q + 1 = kk := ⟨kk - 1, by omega⟩
        have zkp : (kk : Int) = (kp : Int) + 1 := by omega
        have hltz2 : (i : Int) < (kp : Int) + 1 := by omega
        have hltz3 : (i : Int) < (kk : Int) := by omega
        go_wp2_with fail
        obtain ⟨iN6, hiN6⟩ : ∃ q, q = kk := ⟨_, rfl⟩
        obtain ⟨jN6, hjN6⟩ : ∃ q, q = kk - 1 := ⟨_, rfl⟩
        have ea6 : ((kp : Int) + 1).toNat = iN6 := by omega
        have pa6 : (0 : Int) ≤ (kp : Int) + 1 := by omega
        have ba6 : (kp : Int) + 1 < (d0.size : Int) := by omega
        have ra6 : IntKind.i64.wrap ((kp : Int) + 1) = (kp : Int) + 1 := by rw [IntKind.wrap_i64]; omega
        have ec6 : ((kp : Int)).toNat = jN6 := by omega
        have pc6 : (0 : Int) ≤ (kp : Int) := by omega
        have bc6 : (kp : Int) < (d0.size : Int) := by omega
        have rc6 : IntKind.i64.wrap ((kp : Int)) = (kp : Int) := by rw [IntKind.wrap_i64]; omega
        obtain ⟨x6, hx6⟩ : ∃ x, x = dk[kk]! := ⟨_, rfl⟩
        obtain ⟨y6, hy6⟩ : ∃ x, x = dk[kk - 1]! := ⟨_, rfl⟩
        have S2 : Aside (SW enc w0 blk off (swp dk (kk) (kk - 1)) ((wr.setCell ⟨blk, off + iN6, none⟩ (enc y6)).setCell ⟨blk, off + jN6, none⟩ (enc x6)).drew) := by rw [hiN6, hjN6, hx6, hy6]; exact S1.out.swapped R (kk) (kk - 1) (by omega) (by omega)
        have c6a : wr.cell? _ = some (enc _) := S1.out.c1 R (by omega) (kk) (by omega)
        have c6b : wr.cell? _ = some (enc _) := S1.out.c1 R (by omega) (kk - 1) (by omega)
        have f6a := S1.out.f1 R (by omega) (kk) (by omega)
        have f6b := S1.out.f1 R (by omega) (kk - 1) (by omega)
        obtain ⟨u6, c6c⟩ := S1.out.c2 R (by omega) (kk) (kk - 1) (by omega) (by omega) (enc y6)
        rw [← hjN6, ← hiN6] at c6c
        rw [← hx6, ← hiN6] at c6a
        rw [← hy6, ← hjN6] at c6b
        rw [← hiN6] at f6a
        rw [← hjN6] at f6b
        clear S1 hx6 hy6 hiN6 hjN6
        go_wp2_with fail
        go_big_region_o
        clear c6a c6b c6c f6a f6b
        generalize ((wr.setCell ⟨blk, off + iN6, none⟩ (enc y6)).setCell ⟨blk, off + jN6, none⟩ (enc x6)).drew = w2 at S2 ⊢
        clear ea6 ec6
        go_wp2
        go_roundg (kp - i)
        case measure => omega
        case rel =>
         have e1_ : kk - 1 = kp := by omega
         rw [e1_] at S2
         subst hkp
         refine ⟨kp, swp dk (kp + 1) kp, by first | rfl | go_num | (congr 1; omega), by omega, by omega, Nat.le_refl _, by rw [swp_size]; exact hds, S2, permIn_trans _ _ _ a b HP.out (swp_permIn dk a b (kp + 1) kp (by omega) (by omega) (by omega) (by omega) (by omega)), fun k hk => ?_⟩
         rw [swp_get dk (by omega) (by omega), T_dn kp m k (by omega)]
         by_cases k1 : k = kp
         ·rw [if_pos k1, if_pos k1]; exact HE.out (kp + 1) (by omega)
         ·rw [if_neg k1, if_neg k1]
          by_cases k2 : k = kp + 1
          ·rw [if_pos k2, if_pos k2]; exact HE.out kp (by omega)
          ·rw [if_neg k2, if_neg k2]; exact HE.out k hk
       ·have hltz2 : ¬ (i : Int) < (kk : Int) := by omega
        obtain rfl : kk = i := by omega
        go_wp2
        (try simp only [Exit.inBlock, Exit.then])
        refine bodyPost_ret (results_none rfl _ _ _) rfl ?_
        refine ⟨rfl, dk, S1.out, hds, ?_⟩
        obtain rfl := C2.out
        exact done_b (i := kk) hmi hjb (by omega) HL.out HR.out HT.out (by omega) HP.out HE.out I1.out I2.out
   ·exact absurd ⟨c1, c2⟩ HMN.out
end Go.Proofs.Ytepjnalkpfnmcaa.StableSort
