/- slices.SortStableFunc at []int: it sorts, stably. Conditions: none. -/
import Derived.Test.YtepjnalkpfnmcaaProg
import Derived.Sort.LotA
import Derived.Shelf.SlSortCmp.Insertion1
import Derived.Sort.WalkB2
import Derived.Sort.WalkB12
import Derived.Deep.LoopGhost
import Derived.Test.YtepjnalkpfnmcaaStableC
import Derived.Test.YtepjnalkpfnmcaaShelfIns
set_option linter.unusedVariables false
set_option linter.unusedSimpArgs false
namespace Go.Proofs.Ytepjnalkpfnmcaa.StableSort
open Go Go.Sort Go.Shelf Go.RowKit Go.Lib Go.Proofs
section
variable {key : Int → Int}
def Rest (key : Int → Int) (a bs n : Nat) (d : Array Int) : Prop := ∀ t, SortedIn (ltK key) (a + t * bs) (min (a + (t + 1) * bs) n) d
def DoneTo (key : Int → Int) (u k : Nat) (d : Array Int) : Prop := ∀ t, t < u → SortedIn (ltK key) (t * k) ((t + 1) * k) d
theorem sorted_sub {lt : Int → Int → Bool} {a b a' b' : Nat} {d : Array Int} (h : SortedIn lt a b d) (ha : a ≤ a') (hb : b' ≤ b ∨ b' ≤ a') : SortedIn lt a' b' d := fun i j h1 h2 h3 => h i j (by omega) h2 (by omega)
theorem rest_0 {a bs n : Nat} {d : Array Int} (h : Rest key a bs n d) : SortedIn (ltK key) a (min (a + bs) n) d := by
 have := h 0
 simpa using this
theorem rest_1 {a bs n : Nat} {d : Array Int} (h : Rest key a bs n d) : SortedIn (ltK key) (a + bs) (min (a + 2 * bs) n) d := by
 have := h 1
 simpa using this
theorem rest_step {a bs n : Nat} {d d' : Array Int} (h : Rest key a bs n d) (hp : PermIn a (a + 2 * bs) d d') : Rest key (a + 2 * bs) bs n d' := fun t => by
 have h2 := h (t + 2)
 have e1 : a + (t + 2) * bs = a + 2 * bs + t * bs := by rw [Nat.add_mul]; omega
 have e2 : a + (t + 2 + 1) * bs = a + 2 * bs + (t + 1) * bs := by rw [show t + 2 + 1 = (t + 1) + 2 by omega, Nat.add_mul (t + 1) 2 bs]; omega
 rw [e1, e2] at h2
 exact sorted_of_perm hp h2 (.inr (Nat.le_add_right _ _))
theorem done_step {u k b : Nat} {d d' : Array Int} (h : DoneTo key u k d) (hp : PermIn (u * k) b d d') (hs : SortedIn (ltK key) (u * k) (u * k + k) d') : DoneTo key (u + 1) k d' := fun t ht => by
 by_cases e : t = u
 ·subst e
  rw [Nat.succ_mul]
  exact hs
 ·exact sorted_of_perm hp (h t (by omega)) (.inl (Nat.mul_le_mul_right k (by omega)))
theorem blk_of {u k n : Nat} {d : Array Int} (h : DoneTo key u k d) (h1 : u * k ≤ n) (h2 : n < u * k + k) (hs : SortedIn (ltK key) (u * k) n d) : Rest key 0 k n d := fun t => by
 rw [Nat.zero_add, Nat.zero_add]
 by_cases e : t < u
 ·exact sorted_sub (h t e) (Nat.le_refl _) (.inl (Nat.min_le_left _ _))
 ·by_cases e2 : t = u
  ·subst e2
   exact sorted_sub hs (Nat.le_refl _) (.inl (Nat.min_le_right _ _))
  ·have : (u + 1) * k ≤ t * k := Nat.mul_le_mul_right k (by omega)
   rw [Nat.succ_mul] at this
   intro i j g1 g2 g3
   have := Nat.min_le_right ((t + 1) * k) n
   omega
theorem done_to_perm {u k b : Nat} {d d' : Array Int} (h : DoneTo key u k d) (hp : PermIn (u * k) b d d') : DoneTo key u k d' := fun t ht => sorted_of_perm hp (h t ht) (.inl (Nat.mul_le_mul_right k (by omega)))
end
theorem insSort (enc : Int → Value) (key : Int → Int) (cf : Int → Int → Int) (hlk : ∀ x y, cf x y < 0 ↔ key x < key y) (g : Nat) (cb : Array Value) (blk off cap a b : Nat) (d0 d : Array Int) (w0 w : World) (eg : ∀ args w, (callFunc g args).run Try.prog w = .ok (.enter g args) w) (hcmp : CmpLays1 Try.prog g cb enc cf blk off d0.size w0) (R : Row1 enc w0 blk off d0) (hs : d.size = d0.size) (S : SW enc w0 blk off d w) (hst : St key d) (hab : a ≤ b) (hb : b ≤ d0.size) (hsz : d0.size < 1152921504606846976) :
  Calls Try.prog 216 #[.slice (some ⟨blk, off, none⟩) d0.size cap, .int .i64 a, .int .i64 b, .func (.func g) #[] cb] w fun e w' => e = .returned (.tuple #[]) ∧ ∃ d' : Array Int, SW enc w0 blk off d' w' ∧ d'.size = d0.size ∧ Done key a b d d' := by
 have h := Any.insertionSortCmpFunc_s Go.Proofs.Ytepjnalkpfnmcaa.Shelf.laysIns enc cf g cb blk off cap a b d0 d w0 w eg hcmp R hs.symm S hab (by omega) (by omega)
 rw [hs] at h
 have hlt : ltOf cf = ltK key := by
  funext x y
  unfold ltOf ltK
  by_cases c : key x < key y
  ·rw [decide_eq_true c, decide_eq_true ((hlk x y).2 c)]
  ·rw [decide_eq_false c, decide_eq_false (fun q => c ((hlk x y).1 q))]
 rw [hlt] at h
 have hI := insertionSort_holds (lt := ltK key) (swoK key) d a b hab (by omega)
 exact h.mono (fun e w' he => ⟨he.1, _, he.2, by rw [hI.1.1]; exact hs, hI.1, hI.2, st_ins (by omega) hst⟩)
theorem insSort' (enc : Int → Value) (key : Int → Int) (cf : Int → Int → Int) (hlk : ∀ x y, cf x y < 0 ↔ key x < key y) (g : Nat) (cb : Array Value) (blk off cap a b n : Nat) (d0 d : Array Int) (w0 w : World) (eg : ∀ args w, (callFunc g args).run Try.prog w = .ok (.enter g args) w) (hcmp : CmpLays1 Try.prog g cb enc cf blk off d0.size w0) (R : Row1 enc w0 blk off d0) (hn : n = d0.size) (hs : d.size = d0.size) (S : SW enc w0 blk off d w) (hst : St key d) (hab : a ≤ b) (hb : b ≤ n) (hsz : d0.size < 1152921504606846976) (bz : Int) (hz : bz = (b : Int)) :
  Calls Try.prog 216 #[.slice (some ⟨blk, off, none⟩) n cap, .int .i64 a, .int .i64 bz, .func (.func g) #[] cb] w fun e w' => e = .returned (.tuple #[]) ∧ ∃ d' : Array Int, SW enc w0 blk off d' w' ∧ d'.size = d0.size ∧ Done key a b d d' := by
 subst hn hz
 exact insSort enc key cf hlk g cb blk off cap a b d0 d w0 w eg hcmp R hs S hst hab hb hsz
theorem symMerge' (enc : Int → Value) (key : Int → Int) (cf : Int → Int → Int) (hlk : ∀ x y, cf x y < 0 ↔ key x < key y) (g : Nat) (cb : Array Value) (blk off cap n : Nat) (d0 : Array Int) (w0 : World) (eg : ∀ args w, (callFunc g args).run Try.prog w = .ok (.enter g args) w) (hcmp : CmpLays1 Try.prog g cb enc cf blk off d0.size w0) (R : Row1 enc w0 blk off d0) (hn : n = d0.size) (hsz : d0.size < 1152921504606846976)
  (a m b : Nat) (mz bz : Int) (hm : mz = (m : Int)) (hbz : bz = (b : Int)) (d : Array Int) (w : World) (h1 : a < m) (h2 : m < b) (h3 : b ≤ n) (hs : d.size = d0.size) (S : SW enc w0 blk off d w) (hl : SortedIn (ltK key) a m d) (hr : SortedIn (ltK key) m b d) (ht : St key d) :
  Calls Try.prog 217 #[.slice (some ⟨blk, off, none⟩) n cap, .int .i64 a, .int .i64 mz, .int .i64 bz, .func (.func g) #[] cb] w fun e w' => e = .returned (.tuple #[]) ∧ ∃ d' : Array Int, SW enc w0 blk off d' w' ∧ d'.size = d0.size ∧ Done key a b d d' := by
 subst hn hm hbz
 exact symMerge enc key cf hlk g cb blk off cap d0 w0 eg hcmp R hsz (b - a) a m b d w (Nat.le_refl _) h1 h2 h3 hs S hl hr ht
set_option maxHeartbeats 32000000 in
set_option maxRecDepth 1000000 in
theorem stable (enc : Int → Value) (key : Int → Int) (cf : Int → Int → Int) (hlk : ∀ x y, cf x y < 0 ↔ key x < key y) (g : Nat) (cb : Array Value) (blk off cap : Nat) (d0 d : Array Int) (w0 w : World) (eg : ∀ args w, (callFunc g args).run Try.prog w = .ok (.enter g args) w) (hcmp : CmpLays1 Try.prog g cb enc cf blk off d0.size w0) (R : Row1 enc w0 blk off d0) (hs : d.size = d0.size) (S : SW enc w0 blk off d w) (hst2 : St key d) (hsz : d0.size < 1152921504606846976) :
  Calls Try.prog 204 #[.slice (some ⟨blk, off, none⟩) d0.size cap, .int .i64 d0.size, .func (.func g) #[] cb] w fun e w' => e = .returned (.tuple #[]) ∧ ∃ d' : Array Int, SW enc w0 blk off d' w' ∧ d'.size = d0.size ∧ Done key 0 d0.size d d' := by
 have mixed : Try.prog.follows .mixedOrders = true := by kernel_rfl
 have hu32 := Try.underlying32
 obtain ⟨n, hn⟩ : ∃ n, n = d0.size := ⟨_, rfl⟩
 have HN : Aside (n = d0.size) := hn
 rw [← hn]
 have hsz' : n < 1152921504606846976 := by omega
 have HC : Aside _ := hcmp
 have HLK : Aside _ := hlk
 have HS : Aside (d.size = d0.size) := hs
 have HT : Aside _ := hst2
 have S0 : Aside (SW enc w0 blk off d w) := S
 have HZ : Aside _ := hsz
 clear S hst2 hcmp hlk hs hn hsz
 go_enter Try.func204, Try.ntmps204
 go_wp2
 go_loopg [7, 8] n (fun kx s7 s8 wr => ∃ (a : Nat) (dk : Array Int), s7 = .int .i64 a ∧ s8 = .int .i64 ((a : Int) + 20) ∧ a ≤ n ∧ n - a ≤ kx ∧ Aside (∃ u, a = u * 20 ∧ DoneTo key u 20 dk) ∧ Aside (dk.size = d0.size) ∧ Aside (SW enc w0 blk off dk wr) ∧ Aside (PermIn 0 n d dk) ∧ Aside (St key dk))
 case atStart => exact ⟨0, d, rfl, rfl, by omega, by omega, ⟨0, rfl, fun t ht => absurd ht (Nat.not_lt_zero _)⟩, HS, S0, permIn_refl d 0 n, HT⟩
 case round =>
  clear S0 HT
  obtain ⟨a, dk, rfl, rfl, han, hkx, HU, HD, S1, HP, HT⟩ := hrel
  by_cases hle : a + 20 ≤ n
  ·have hlz : (a : Int) + 20 ≤ (n : Int) := by omega
   have w1 : IntKind.i64.wrap ((a : Int) + 20 + 20) = (a : Int) + 20 + 20 := by rw [IntKind.wrap_i64]; omega
   go_wp2_with (first | (go_at_call 216; (with_reducible refine (insSort' enc key cf ?u1 g cb blk off cap a (a + 20) n d0 dk w0 _ eg ?u2 R ?u3 ?u4 ?u5 ?u6 ?h1 ?h2 ?u7 ((a : Int) + 20) ?e1).mono ?_); (case h1 => omega); (case h2 => omega); (case e1 => omega); (case u1 => exact HLK.out); (case u2 => exact HC.out); (case u3 => exact HN.out); (case u4 => exact HD.out); (case u5 => exact S1.out); (case u6 => exact HT.out); (case u7 => exact HZ.out); rintro e w2 ⟨rfl, d2, hS_, hz_, hD_⟩; have SA : Aside _ := hS_; have DA : Aside _ := hD_; have ZA : Aside (d2.size = d0.size) := hz_; clear hS_ hD_ hz_))
   go_roundg (n - (a + 20))
   case measure => omega
   case rel =>
    obtain ⟨u, hu, hd⟩ := HU.out
    have hA := DA.out
    refine ⟨a + 20, d2, by first | rfl | go_num | (congr 1; omega), by first | rfl | go_num | (congr 1; omega), by omega, Nat.le_refl _, ⟨u + 1, by omega, ?_⟩, ZA.out, SA.out, permIn_trans _ _ _ 0 n HP.out (permIn_mono _ _ _ _ 0 n (by omega) (by omega) (by have := HD.out; have := HN.out; omega) hA.1), hA.2.2⟩
    subst hu
    exact done_step hd hA.1 hA.2.1
  ·have hlz : ¬ (a : Int) + 20 ≤ (n : Int) := by omega
   go_wp2_with (first | (go_at_call 216; (with_reducible refine (insSort' enc key cf ?u1 g cb blk off cap a n n d0 dk w0 _ eg ?u2 R ?u3 ?u4 ?u5 ?u6 ?h1 ?h2 ?u7 (n : Int) ?e1).mono ?_); (case h1 => omega); (case h2 => omega); (case e1 => omega); (case u1 => exact HLK.out); (case u2 => exact HC.out); (case u3 => exact HN.out); (case u4 => exact HD.out); (case u5 => exact S1.out); (case u6 => exact HT.out); (case u7 => exact HZ.out); rintro e w2 ⟨rfl, d2, hS_, hz_, hD_⟩; have SA : Aside _ := hS_; have DA : Aside _ := hD_; have ZA : Aside (d2.size = d0.size) := hz_; clear hS_ hD_ hz_))
   have HB : Aside (Rest key 0 20 n d2) := by
    obtain ⟨u, hu, hd⟩ := HU.out
    have hA := DA.out
    subst hu
    exact blk_of (done_to_perm hd hA.1) han (by omega) hA.2.1
   have PA : Aside (PermIn 0 n d d2) := permIn_trans _ _ _ 0 n HP.out (permIn_mono _ _ _ _ 0 n (by omega) (by omega) (by have := HD.out; have := HN.out; omega) DA.out.1)
   have TA : Aside (St key d2) := DA.out.2.2
   clear HU HD S1 HP HT DA
   go_loopg [6] n (fun kx s6 wr => ∃ (bs : Nat) (dk : Array Int), s6 = .int .i64 bs ∧ 0 < bs ∧ bs ≤ n + n + 20 ∧ n - bs ≤ kx ∧ Aside (Rest key 0 bs n dk) ∧ Aside (dk.size = d0.size) ∧ Aside (SW enc w0 blk off dk wr) ∧ Aside (PermIn 0 n d dk) ∧ Aside (St key dk))
   case atStart => exact ⟨20, d2, rfl, by omega, by omega, by omega, HB, ZA, SA, PA, TA⟩
   case round =>
    clear HB ZA SA PA TA
    obtain ⟨bs, dk, rfl, hb0, hb1, hkx2, HB, HD, S1, HP, HT⟩ := hrel
    by_cases hlt : bs < n
    ·have hltz : (bs : Int) < (n : Int) := by omega
     have w2b : IntKind.i64.wrap (2 * (bs : Int)) = 2 * (bs : Int) := by rw [IntKind.wrap_i64]; omega
     have w3b : IntKind.i64.wrap ((bs : Int) * 2) = (bs : Int) * 2 := by rw [IntKind.wrap_i64]; omega
     go_wp2
     go_loopg [7, 8] n (fun kx s7 s8 wr => ∃ (a : Nat) (dj : Array Int), s7 = .int .i64 a ∧ s8 = .int .i64 ((a : Int) + 2 * (bs : Int)) ∧ a ≤ n ∧ n - a ≤ kx ∧ Aside (∃ u, a = u * (2 * bs) ∧ DoneTo key u (2 * bs) dj) ∧ Aside (Rest key a bs n dj) ∧ Aside (dj.size = d0.size) ∧ Aside (SW enc w0 blk off dj wr) ∧ Aside (PermIn 0 n d dj) ∧ Aside (St key dj))
     case atStart => exact ⟨0, dk, rfl, by first | rfl | go_num | (congr 1; omega), by omega, by omega, ⟨0, by omega, fun t ht => absurd ht (Nat.not_lt_zero _)⟩, HB, HD, S1, HP, HT⟩
     case round =>
      clear HB HD S1 HP HT
      obtain ⟨a, dj, rfl, rfl, han, hkx3, HU, HB, HD, S1, HP, HT⟩ := hrel
      have w4 : IntKind.i64.wrap ((a : Int) + (bs : Int)) = (a : Int) + (bs : Int) := by rw [IntKind.wrap_i64]; omega
      have ca : ((a + bs : Nat) : Int) = (a : Int) + (bs : Int) := by omega
      by_cases hle2 : a + 2 * bs ≤ n
      ·have hlz2 : (a : Int) + 2 * (bs : Int) ≤ (n : Int) := by omega
       have w5 : IntKind.i64.wrap ((a : Int) + 2 * (bs : Int) + 2 * (bs : Int)) = (a : Int) + 2 * (bs : Int) + 2 * (bs : Int) := by rw [IntKind.wrap_i64]; omega
       go_wp2_with (first | (go_at_call 217; (with_reducible refine (symMerge' enc key cf ?u1 g cb blk off cap n d0 w0 eg ?u2 R ?u3 ?u7 a (a + bs) (a + 2 * bs) ((a : Int) + (bs : Int)) ((a : Int) + 2 * (bs : Int)) ?e1 ?e2 dj _ ?h1 ?h2 ?h3 ?u4 ?u5 ?k1 ?k2 ?u6).mono ?_); (case u1 => exact HLK.out); (case u2 => exact HC.out); (case u3 => exact HN.out); (case u4 => exact HD.out); (case u5 => exact S1.out); (case u6 => exact HT.out); (case u7 => exact HZ.out); (case e1 => omega); (case e2 => omega); (case h1 => omega); (case h2 => omega); (case h3 => omega); (case k1 => exact sorted_sub (rest_0 HB.out) (Nat.le_refl _) (.inl (by omega))); (case k2 => exact sorted_sub (rest_1 HB.out) (Nat.le_refl _) (.inl (by omega))); rintro e w2 ⟨rfl, d3, hS_, hz_, hD_⟩; have SA : Aside _ := hS_; have DA : Aside _ := hD_; have ZA : Aside (d3.size = d0.size) := hz_; clear hS_ hD_ hz_))
       go_roundg (n - (a + 2 * bs))
       case measure => omega
       case rel =>
        obtain ⟨u, hu, hd⟩ := HU.out
        have hA := DA.out
        refine ⟨a + 2 * bs, d3, by first | rfl | go_num | (congr 1; omega), by first | rfl | go_num | (congr 1; omega), by omega, Nat.le_refl _, ⟨u + 1, by rw [Nat.succ_mul u (2 * bs)]; omega, ?_⟩, rest_step HB.out hA.1, ZA.out, SA.out, permIn_trans _ _ _ 0 n HP.out (permIn_mono _ _ _ _ 0 n (by omega) (by omega) (by have := HD.out; have := HN.out; omega) hA.1), hA.2.2⟩
        subst hu
        exact done_step hd hA.1 hA.2.1
      ·have hlz2 : ¬ (a : Int) + 2 * (bs : Int) ≤ (n : Int) := by omega
       by_cases hmn : a + bs < n
       ·have hmz : (a : Int) + (bs : Int) < (n : Int) := by omega
        go_wp2_with (first | (go_at_call 217; (with_reducible refine (symMerge' enc key cf ?u1 g cb blk off cap n d0 w0 eg ?u2 R ?u3 ?u7 a (a + bs) n ((a : Int) + (bs : Int)) (n : Int) ?e1 ?e2 dj _ ?h1 ?h2 ?h3 ?u4 ?u5 ?k1 ?k2 ?u6).mono ?_); (case u1 => exact HLK.out); (case u2 => exact HC.out); (case u3 => exact HN.out); (case u4 => exact HD.out); (case u5 => exact S1.out); (case u6 => exact HT.out); (case u7 => exact HZ.out); (case e1 => omega); (case e2 => omega); (case h1 => omega); (case h2 => omega); (case h3 => omega); (case k1 => exact sorted_sub (rest_0 HB.out) (Nat.le_refl _) (.inl (by omega))); (case k2 => exact sorted_sub (rest_1 HB.out) (Nat.le_refl _) (.inl (by omega))); rintro e w2 ⟨rfl, d3, hS_, hz_, hD_⟩; have SA : Aside _ := hS_; have DA : Aside _ := hD_; have ZA : Aside (d3.size = d0.size) := hz_; clear hS_ hD_ hz_))
        go_roundg (n - bs * 2)
        case measure => omega
        case rel =>
         obtain ⟨u, hu, hd⟩ := HU.out
         have hA := DA.out
         refine ⟨bs * 2, d3, by first | rfl | go_num | (congr 1; omega), by omega, by omega, Nat.le_refl _, ?_, ZA.out, SA.out, permIn_trans _ _ _ 0 n HP.out (permIn_mono _ _ _ _ 0 n (by omega) (by omega) (by have := HD.out; have := HN.out; omega) hA.1), hA.2.2⟩
         subst hu
         rw [Nat.mul_comm bs 2]
         exact blk_of (done_to_perm hd hA.1) han (by omega) hA.2.1
       ·have hmz : ¬ (a : Int) + (bs : Int) < (n : Int) := by omega
        go_wp2
        go_roundg (n - bs * 2)
        case measure => omega
        case rel =>
         obtain ⟨u, hu, hd⟩ := HU.out
         refine ⟨bs * 2, dj, by first | rfl | go_num | (congr 1; omega), by omega, by omega, Nat.le_refl _, ?_, HD.out, S1.out, HP.out, HT.out⟩
         have hB := sorted_sub (b' := n) (rest_0 HB.out) (Nat.le_refl a) (.inl (by omega))
         subst hu
         rw [Nat.mul_comm bs 2]
         exact blk_of hd han (by omega) hB
    ·have hltz : ¬ (bs : Int) < (n : Int) := by omega
     go_wp2
     go_end0
     refine ⟨rfl, dk, S1.out, HD.out.trans HN.out.symm, HP.out, ?_, HT.out⟩
     have hB := rest_0 HB.out
     exact sorted_sub hB (Nat.le_refl _) (.inl (by omega))
section
variable (key : Int → Int)
/-- The order of the keys; of equal keys the lesser number first. -/
def lt2 (x y : Int) : Prop := key x < key y ∨ (key x = key y ∧ x < y)
def posK (i : Int) (out : List Int) : Nat → Nat
 | 0 => 0
 | k + 1 => if key i < key (out.getD k 0) then posK i out k else k + 1
def insP (i : Int) (out : List Int) : List Int := out.take (posK key i out out.length) ++ [i] ++ out.drop (posK key i out out.length)
def insAll : List Int → List Int → List Int
 | out, [] => out
 | out, i :: l => insAll (insP key i out) l
theorem posK_le (i : Int) (out : List Int) : ∀ k, posK key i out k ≤ k
 | 0 => Nat.le_refl _
 | k + 1 => by
  unfold posK
  split
  ·have := posK_le i out k; omega
  ·exact Nat.le_refl _
theorem posK_hi (i : Int) (out : List Int) : ∀ k j, posK key i out k ≤ j → j < k → key i < key (out.getD j 0)
 | 0, j, _, h => by omega
 | k + 1, j, h1, h2 => by
  unfold posK at h1
  split at h1
  ·rename_i c
   by_cases e : j = k
   ·subst e; exact c
   ·exact posK_hi i out k j h1 (by omega)
  ·omega
theorem posK_lo (i : Int) (out : List Int) : ∀ k, 0 < posK key i out k → key (out.getD (posK key i out k - 1) 0) ≤ key i
 | 0, h => by simp [posK] at h
 | k + 1, h => by
  unfold posK at h ⊢
  split
  ·rename_i c
   rw [if_pos c] at h
   exact posK_lo i out k h
  ·rename_i c
   simp only [Nat.add_sub_cancel]
   omega
theorem insP_perm (i : Int) (out : List Int) : (insP key i out).Perm (i :: out) := by
 unfold insP
 rw [List.append_assoc, List.singleton_append]
 have := List.perm_middle (a := i) (l₁ := out.take (posK key i out out.length)) (l₂ := out.drop (posK key i out out.length))
 rwa [List.take_append_drop] at this
theorem insP_sorted (i : Int) (out : List Int) (hs : out.Pairwise (lt2 key)) (hi : ∀ j ∈ out, j < i) : (insP key i out).Pairwise (lt2 key) := by
 have hle := posK_le key i out out.length
 have hg : ∀ j (h : j < out.length), out.getD j 0 = out[j] := fun j h => by rw [List.getD_eq_getElem?_getD, List.getElem?_eq_getElem h]; rfl
 have hpw := List.pairwise_iff_getElem.1 hs
 have hlow : ∀ x ∈ out.take (posK key i out out.length), lt2 key x i := fun x hx => by
  obtain ⟨j, hj, rfl⟩ := List.getElem_of_mem hx
  rw [List.length_take] at hj
  rw [List.getElem_take]
  have hjo : j < out.length := by omega
  have hjl : out[j] < i := hi _ (List.getElem_mem _)
  have hp := posK_lo key i out out.length (by omega)
  rw [hg _ (by omega)] at hp
  have : key out[j] ≤ key i := by
   by_cases e : j = posK key i out out.length - 1
   ·simp only [← e] at hp; exact hp
   ·rcases hpw j (posK key i out out.length - 1) hjo (by omega) (by omega) with h | h
    ·omega
    ·omega
  unfold lt2
  omega
 have hhigh : ∀ x ∈ out.drop (posK key i out out.length), lt2 key i x := fun x hx => by
  obtain ⟨j, hj, rfl⟩ := List.getElem_of_mem hx
  rw [List.length_drop] at hj
  rw [List.getElem_drop]
  have := posK_hi key i out out.length (posK key i out out.length + j) (by omega) (by omega)
  rw [hg _ (by omega)] at this
  exact .inl this
 unfold insP
 rw [List.append_assoc, List.singleton_append, List.pairwise_append]
 refine ⟨hs.sublist (List.take_sublist _ _), List.pairwise_cons.2 ⟨hhigh, hs.sublist (List.drop_sublist _ _)⟩, fun a ha b hb => ?_⟩
 rcases List.mem_cons.1 hb with rfl | hb
 ·exact hlow a ha
 ·have h1 := hlow a ha
  have h2 := hhigh b hb
  unfold lt2 at *
  omega
theorem insAll_spec : ∀ (l out : List Int), out.Pairwise (lt2 key) → (∀ j ∈ out, ∀ i ∈ l, j < i) → l.Pairwise (· < ·) → (insAll key out l).Pairwise (lt2 key) ∧ (insAll key out l).Perm (out ++ l)
 | [], out, h, _, _ => ⟨h, by simp [insAll]⟩
 | i :: l, out, h, hj, hl => by
  obtain ⟨h1, h2⟩ := List.pairwise_cons.1 hl
  have hp := insP_perm key i out
  have r := insAll_spec l (insP key i out) (insP_sorted key i out h (fun j hjo => hj j hjo i (List.mem_cons_self ..))) (fun j hjo i2 hi2 => by
   rcases List.mem_cons.1 (hp.mem_iff.1 hjo) with rfl | hjo
   ·exact h1 i2 hi2
   ·exact hj j hjo i2 (List.mem_cons_of_mem _ hi2)) h2
  refine ⟨r.1, r.2.trans ?_⟩
  exact (hp.append_right l).trans (List.perm_middle.symm)
theorem sorted_is (l : List Int) (d' : Array Int) (hl : l.Pairwise (· < ·)) (h : Done key 0 l.length l.toArray d') : d'.toList = insAll key [] l := by
 obtain ⟨⟨hsz, _, hperm⟩, hs, hst⟩ := h
 have hsz' : d'.size = l.length := by simpa using hsz
 have e1 : d'.extract 0 l.length = d' := by rw [← hsz']; exact Array.extract_size
 have e2 : (l.toArray).extract 0 l.length = l.toArray := by
  have : l.length = l.toArray.size := by simp
  rw [this]; exact Array.extract_size
 rw [e1, e2] at hperm
 obtain ⟨r1, r2⟩ := insAll_spec key l [] List.Pairwise.nil (fun j hj => by simp at hj) hl
 refine List.Perm.eq_of_pairwise (le := lt2 key) ?_ ?_ r1 (hperm.trans (by simpa using r2.symm))
 ·intro a b _ _ h1 h2
  unfold lt2 at *
  omega
 ·rw [List.pairwise_iff_getElem]
  intro i j hi hj hij
  have hi' : i < d'.size := by simpa using hi
  have hj' : j < d'.size := by simpa using hj
  have g1 := hs i j (Nat.zero_le _) hij (by omega)
  have g2 := hst i j hij hj'
  rw [ltK_f] at g1
  rw [getElem!_pos d' j hj', getElem!_pos d' i hi'] at g1 g2
  simp only [Array.getElem_toList]
  unfold lt2
  by_cases e : key d'[i] = key d'[j]
  ·exact .inr ⟨e, g2 e⟩
  ·exact .inl (by omega)
theorem st_inc (l : List Int) (hl : l.Pairwise (· < ·)) : St key l.toArray := fun p q hpq hq _ => by
 have hq' : q < l.length := by simpa using hq
 rw [getElem!_pos l.toArray q hq, getElem!_pos l.toArray p (by omega)]
 simpa using List.pairwise_iff_getElem.1 hl p q (by omega) hq' hpq
end
set_option maxHeartbeats 4000000 in
set_option maxRecDepth 1000000 in
theorem sortStable (enc : Int → Value) (key : Int → Int) (cf : Int → Int → Int) (hlk : ∀ x y, cf x y < 0 ↔ key x < key y) (g : Nat) (cb : Array Value) (blk off cap : Nat) (d0 : Array Int) (w0 : World) (eg : ∀ args w, (callFunc g args).run Try.prog w = .ok (.enter g args) w) (hcmp : CmpLays1 Try.prog g cb enc cf blk off d0.size w0) (R : Row1 enc w0 blk off d0) (hst2 : St key d0) (hsz : d0.size < 1152921504606846976) :
  Calls Try.prog 174 #[.slice (some ⟨blk, off, none⟩) d0.size cap, .func (.func g) #[] cb] w0 fun e w' => e = .returned (.tuple #[]) ∧ ∃ d' : Array Int, SW enc w0 blk off d' w' ∧ d'.size = d0.size ∧ Done key 0 d0.size d0 d' := by
 have hu32 := Try.underlying32
 have H := stable enc key cf hlk g cb blk off cap d0 d0 w0 w0 eg hcmp R rfl (SW.start R.hH) hst2 hsz
 have HH : Aside _ := H
 clear H hcmp hst2 hlk
 go_enter Try.func174, Try.ntmps174
 go_wp2_with (first | (go_at_call 204; refine Calls.mono HH.out ?_; rintro e w2 ⟨rfl, hD_⟩; have HD : Aside _ := hD_; clear hD_))
 go_end0
 exact ⟨rfl, HD.out⟩
set_option maxHeartbeats 4000000 in
set_option maxRecDepth 1000000 in
theorem none216 (A : Option Addr) (cap : Nat) (fv : Value) (w : World) : Calls Try.prog 216 #[.slice A 0 cap, .int .i64 0, .int .i64 0, fv] w fun e w' => e = .returned (.tuple #[]) ∧ w' = w := by
 go_enter Try.func216, Try.ntmps216
 go_wp2
 go_loopg [8] 0 (fun kx s8 wr => s8 = .int .i64 1 ∧ wr = w)
 case atStart => exact ⟨rfl, rfl⟩
 case round =>
  obtain ⟨rfl, rfl⟩ := hrel
  go_wp2
  go_end0
  exact ⟨rfl, rfl⟩
set_option maxHeartbeats 4000000 in
set_option maxRecDepth 1000000 in
theorem none204 (A : Option Addr) (cap : Nat) (fv : Value) (w : World) : Calls Try.prog 204 #[.slice A 0 cap, .int .i64 0, fv] w fun e w' => e = .returned (.tuple #[]) ∧ w' = w := by
 go_enter Try.func204, Try.ntmps204
 go_wp2
 go_loopg [7, 8] 0 (fun kx s7 s8 wr => s7 = .int .i64 0 ∧ s8 = .int .i64 20 ∧ Aside (wr = w))
 case atStart => exact ⟨rfl, rfl, rfl⟩
 case round =>
  obtain ⟨rfl, rfl, HW⟩ := hrel
  go_wp2_with (first | (go_at_call 216; (with_reducible refine (none216 A cap fv _).mono ?_); rintro e w2 ⟨rfl, hw2⟩; have HW2 : Aside (w2 = w) := hw2.trans HW.out; clear hw2))
  go_loopg [6] 0 (fun kx s6 wr2 => s6 = .int .i64 20 ∧ Aside (wr2 = w))
  case atStart => exact ⟨rfl, HW2⟩
  case round =>
   clear HW2 HW
   obtain ⟨rfl, HW⟩ := hrel
   go_wp2
   go_end0
   exact ⟨rfl, HW.out⟩
set_option maxHeartbeats 4000000 in
set_option maxRecDepth 1000000 in
theorem none174 (A : Option Addr) (cap : Nat) (fv : Value) (w : World) : Calls Try.prog 174 #[.slice A 0 cap, fv] w fun e w' => e = .returned (.tuple #[]) ∧ w' = w := by
 have hu32 := Try.underlying32
 go_enter Try.func174, Try.ntmps174
 go_wp2_with (first | (go_at_call 204; (with_reducible refine (none204 A cap fv _).mono ?_); rintro e w' ⟨rfl, rfl⟩))
 go_end0
 exact ⟨rfl, rfl⟩
end Go.Proofs.Ytepjnalkpfnmcaa.StableSort
