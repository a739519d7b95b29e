/- The walk of sha.Pad. -/
import Derived.Test.YtgkhdpplmdkkaaaBytes
namespace Go.Proofs.Ytgkhdpplmdkkaaa
open Go.RowKit

theorem bv_snoc (l : List UInt8) (b : UInt8) : bv (l ++ [b]) = bv l ++ bv [b] := bv_append l [b]

theorem I8_mod (m : Nat) : ((m % 256 : Nat) : Int) = I8 (UInt8.ofNat m) := by
  unfold I8; rw [UInt8.toNat_ofNat']
theorem be8_val (m j : Nat) : (m : Int) / 2 ^ (56 - 8 * j) % 256 = I8 (UInt8.ofNat (m / 2 ^ (56 - 8 * j))) := by
  rw [← I8_mod]; simp [Int.natCast_emod, Int.natCast_ediv, Int.natCast_pow]
theorem pad_test (n k : Nat) (h : k ≤ zc n) : (((n : Int) % 64 + (1 + (k : Int)) + 8) % 64 != 0) = !decide (k = zc n) := by
  have hz := zc_test n k h
  rw [Bool.eq_iff_iff]
  simp only [bne_iff_ne, ne_eq, Bool.not_eq_true', decide_eq_false_iff_not]
  rw [← hz]
  omega

set_option maxRecDepth 100000 in
set_option maxHeartbeats 1000000 in
theorem pad_any (n : Nat) (hn : n ≤ 1099511627776) (w : World) :
    Calls Try.prog 99 #[.int .i64 n] w fun e w' => ∃ v, e = .returned v ∧ OwnB w' w.heap.size v (padL n) ∧ Below w.heap.size w w' := by
  have hz64 := zc_lt n
  go_enter Try.func99, Try.ntmps99
  go_wp2_with fail
  refine abs_world ?_
  intro w1 hw1
  have ho1 : OwnB w1 w.heap.size (.slice (some ⟨w.heap.size, 0, none⟩) 1 1) [128] := by rw [hw1]; exact OwnB.lit w [128] (Nat.le_refl _) (by decide)
  have hl1 : Below w.heap.size w w1 := by rw [hw1]; exact (Below.refl _ _).alloc (Nat.le_refl _) _
  clear hw1
  have Ho1 := Lib.hid ho1
  have Hl1 := Lib.hid hl1
  clear ho1 hl1
  go_loopw [3] (fun b wr => ∃ (k : Nat) (A : Option Addr) (c : Nat), k ≤ zc n ∧ b = .slice A (1 + k) c ∧ OwnB wr w.heap.size (.slice A (1 + k) c) (128 :: List.replicate k 0) ∧ Below w.heap.size w wr) (fun b _ => 100 - (match b with | .slice _ m _ => m | _ => 0))
  case atStart => exact ⟨0, _, _, by omega, rfl, Ho1.out, Hl1.out⟩
  case round =>
    obtain ⟨k, A, c, hk, rfl, ho, hl⟩ := hrel
    have Ho := Lib.hid ho
    have Hl := Lib.hid hl
    clear ho hl
    have ht := pad_test n k hk
    by_cases hkz : k = zc n
    · have hd : decide (k = zc n) = true := by simpa using hkz
      rw [hd, Bool.not_true] at ht
      subst hkz
      go_wp2_with fail
      have Hz64 := Lib.hid hz64
      clear hz64
      go_loopw [3, 23] (fun b i w3 => ∃ (j : Nat) (A : Option Addr) (c : Nat), i = .int .i64 j ∧ j ≤ 8 ∧ b = .slice A (1 + zc n + j) c ∧ OwnB w3 w.heap.size (.slice A (1 + zc n + j) c) (128 :: List.replicate (zc n) 0 ++ be8 (n * 8) j) ∧ Below w.heap.size w w3) (fun _ i _ => 8 - (intOf i).toNat)
      case atStart => exact ⟨0, A, c, rfl, by omega, rfl, by simpa [be8] using Ho.out, Hl.out⟩
      case round =>
        obtain ⟨j, A, c, rfl, hj, rfl, ho3, hl3⟩ := hrel
        have Ho3 := Lib.hid ho3
        have Hl3 := Lib.hid hl3
        clear ho3 hl3
        by_cases h8 : j < 8
        · have hv : (n : Int) * 8 / 2 ^ (56 - 8 * j) % 256 = I8 (UInt8.ofNat (n * 8 / 2 ^ (56 - 8 * j))) := by
            have := be8_val (n * 8) j; rwa [Int.natCast_mul] at this
          have Hv := Lib.hid hv
          clear hv
          go_wp2_with (at_builtin; refine wpList_app rfl (.tmp 26) (.tmp 33) rfl w.heap.size (.slice A (1 + zc n + j) c) _ rfl (Ho3.out.alloc _) _ _ _ [UInt8.ofNat (n * 8 / 2 ^ (56 - 8 * j))] 1 rfl rfl (reads_new _ _ _ _ (by rw [Hv.out]; rfl)) (by have := Hz64.out; simp [be8_length]; omega) (Nat.le_trans Hl3.out.size (by simp)) ?_; intro v1 w2 ho2 hg2 hat2)
          obtain ⟨A2, c2, rfl, _⟩ := ho2.form
          have hrep : 128 :: List.replicate (zc n) 0 ++ be8 (n * 8) j ++ [UInt8.ofNat (n * 8 / 2 ^ (56 - 8 * j))] = 128 :: List.replicate (zc n) 0 ++ be8 (n * 8) (j + 1) := by rw [be8_succ, List.append_assoc]
          have hlen : (128 :: List.replicate (zc n) 0 ++ be8 (n * 8) (j + 1)).length = 1 + zc n + (j + 1) := by simp [be8_length]; omega
          rw [hrep, hlen] at ho2
          rw [hrep, hlen]
          refine ⟨⟨j + 1, A2, c2, by go_num, by omega, rfl, ho2, below_app (Hl3.out.alloc Hl3.out.size _) (Ho3.out.alloc _) hg2 (Nat.le_refl _) (Nat.le_trans Hl3.out.size (by simp))⟩, ?_⟩
          simp [intOf]; omega
        · obtain rfl : j = 8 := by omega
          go_wp2
          go_ret
          refine ⟨_, rfl, ?_, Hl3.out⟩
          have := Ho3.out
          exact this
    · have hd : decide (k = zc n) = false := by simpa using hkz
      rw [hd, Bool.not_false] at ht
      go_wp2_with (at_builtin; refine wpList_app rfl (.tmp 17) (.tmp 18) rfl w.heap.size (.slice A (1 + k) c) _ rfl (Ho.out.alloc _) _ _ _ [0] 1 rfl rfl (reads_new _ _ _ [0] rfl) (by simp; omega) (Nat.le_trans Hl.out.size (by simp)) ?_; intro v1 w2 ho2 hg2 hat2)
      obtain ⟨A2, c2, rfl, _⟩ := ho2.form
      have hrep : (128 :: List.replicate k 0 ++ [0] : List UInt8) = 128 :: List.replicate (k + 1) 0 := by rw [List.replicate_succ', List.cons_append]
      have hlen : (128 :: List.replicate k 0 ++ [0] : List UInt8).length = 1 + (k + 1) := by rw [hrep]; simp; omega
      rw [hlen] at ho2 ⊢
      rw [hrep] at ho2
      refine ⟨⟨k + 1, A2, c2, by omega, rfl, ho2, below_app (Hl.out.alloc Hl.out.size _) (Ho.out.alloc _) hg2 (Nat.le_refl _) (Nat.le_trans Hl.out.size (by simp))⟩, ?_⟩
      show 100 - (1 + (k + 1)) < 100 - (1 + k)
      omega

end Go.Proofs.Ytgkhdpplmdkkaaa
