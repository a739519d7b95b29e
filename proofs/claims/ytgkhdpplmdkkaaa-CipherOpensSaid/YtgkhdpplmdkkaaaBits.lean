/- Words of 32 bits and bytes in the walk: their values behind names, and the laws of the operations. -/
import Derived.Test.YtgkhdpplmdkkaaaBase
import Derived.Test.YtgkhdpplmdkkaaaShaP
namespace Go.Proofs.Ytgkhdpplmdkkaaa
open Go.RowKit

theorem u32_wrap_add (x y : UInt32) : IntKind.u32.wrap (I32 x + I32 y) = I32 (x + y) := by
  rw [IntKind.wrap_u32']; unfold I32; rw [UInt32.toNat_add]; omega
theorem u32_bits_and (x y : UInt32) : bits .and .u32 (I32 x) (I32 y) = I32 (x &&& y) := by
  unfold I32; rw [u32_and_nat _ _ x.toNat_lt y.toNat_lt, UInt32.toNat_and]
theorem u32_bits_or (x y : UInt32) : bits .or .u32 (I32 x) (I32 y) = I32 (x ||| y) := by
  unfold I32; rw [u32_or_nat _ _ x.toNat_lt y.toNat_lt, UInt32.toNat_or]
theorem u32_bits_xor (x y : UInt32) : bits .xor .u32 (I32 x) (I32 y) = I32 (x ^^^ y) := by
  unfold I32; rw [u32_xor_nat _ _ x.toNat_lt y.toNat_lt, UInt32.toNat_xor]
theorem u32_not (x : UInt32) : IntKind.u32.wrap (4294967295 - I32 x) = I32 (~~~x) := by
  have hx : x.toNat < 4294967296 := x.toNat_lt
  rw [IntKind.wrap_u32']; unfold I32
  rw [UInt32.toNat_not]
  show _ = ((2 ^ 32 - 1 - x.toNat : Nat) : Int)
  omega
theorem u32_shr3 (x : UInt32) : I32 x / 8 = I32 (shr x 3) := by
  have hx : x.toNat < 4294967296 := x.toNat_lt
  unfold shr; rw [I32_ofNat (by omega)]; unfold I32; omega
theorem u32_shr10 (x : UInt32) : I32 x / 1024 = I32 (shr x 10) := by
  have hx : x.toNat < 4294967296 := x.toNat_lt
  unfold shr; rw [I32_ofNat (by omega)]; unfold I32; omega
theorem u32_of_u8 (x : UInt8) : IntKind.u32.wrap (I8 x) = I8 x := by
  have hx : x.toNat < 256 := x.toNat_lt
  rw [IntKind.wrap_u32']; unfold I8; omega
theorem u32_sh8 (x : UInt32) (b : UInt8) : bits .or .u32 (I32 x * 256 % 4294967296) (I8 b) = I32 (sh8 x b) := by
  have hx : x.toNat < 4294967296 := x.toNat_lt
  have hb : b.toNat < 256 := b.toNat_lt
  have e : I32 x * 256 % 4294967296 = ((x.toNat * 256 % 4294967296 : Nat) : Int) := by unfold I32; omega
  rw [e]
  unfold I8
  rw [u32_or_nat _ _ (Nat.mod_lt _ (by decide)) (by omega)]
  unfold sh8
  rw [I32_ofNat]
  exact Nat.or_lt_two_pow (n := 32) (Nat.mod_lt _ (by decide)) (by omega)
theorem u32_xor_max (x : UInt32) : bits .xor .u32 IntKind.u32.max (I32 x) = I32 (~~~x) := by
  have hx : x.toNat < 4294967296 := x.toNat_lt
  have e : IntKind.u32.max = ((4294967295 : Nat) : Int) := by decide
  rw [e]; unfold I32
  rw [u32_xor_nat _ _ (by decide) hx, UInt32.toNat_not]
  congr 1
  apply Nat.eq_of_testBit_eq
  intro i
  show (2 ^ 32 - 1 ^^^ x.toNat).testBit i = (2 ^ 32 - 1 - x.toNat).testBit i
  rw [Nat.testBit_xor, Nat.testBit_two_pow_sub_one]
  have h := Nat.testBit_two_pow_sub_succ (x := x.toNat) (n := 32) hx i
  rw [show 2 ^ 32 - 1 - x.toNat = 2 ^ 32 - (x.toNat + 1) by omega, h]
  by_cases hi : i < 32
  · simp [hi]
  · have : x.toNat.testBit i = false := Nat.testBit_lt_two_pow (Nat.lt_of_lt_of_le hx (by
      show 2 ^ 32 ≤ 2 ^ i
      exact Nat.pow_le_pow_right (by decide) (by omega)))
    simp [hi, this]
theorem u32_mod_add (x y : UInt32) : (I32 x + I32 y) % 4294967296 = I32 (x + y) := by
  rw [← IntKind.wrap_u32', u32_wrap_add]
theorem u32_sum4 (a b c d : UInt32) : (I32 a + I32 b + I32 c + I32 d) % 4294967296 = I32 (a + b + c + d) := by
  rw [← u32_mod_add, ← u32_mod_add, ← u32_mod_add]; omega
theorem u32_sum5 (a b c d e : UInt32) : (I32 a + I32 b + I32 c + I32 d + I32 e) % 4294967296 = I32 (a + b + c + d + e) := by
  rw [← u32_mod_add, ← u32_mod_add, ← u32_mod_add, ← u32_mod_add]; omega
theorem u32_sumd (d a b c e : UInt32) : (I32 d + (I32 a + I32 b + I32 c + I32 e)) % 4294967296 = I32 (d + (a + b + c + e)) := by
  rw [← u32_mod_add, ← u32_sum4]; omega
attribute [go_sem] u32_mod_add
attribute [go_sem] u32_xor_max
attribute [go_sem] u32_of_u8 u32_sh8 u32_not u32_shr3 u32_shr10
attribute [go_sem] u32_wrap_add u32_bits_and u32_bits_or u32_bits_xor

theorem rot_int (x : UInt32) (s : Nat) :
    bits .or .u32 (I32 x * 2 ^ s % 4294967296) (I32 x / 2 ^ (32 - s)) = I32 (rot x s) := by
  have hx : x.toNat < 4294967296 := x.toNat_lt
  have e3 : I32 x * 2 ^ s % 4294967296 = ((x.toNat * 2 ^ s % 4294967296 : Nat) : Int) := by
    unfold I32; simp [Int.natCast_emod, Int.natCast_mul, Int.natCast_pow]
  have e4 : I32 x / 2 ^ (32 - s) = ((x.toNat / 2 ^ (32 - s) : Nat) : Int) := by
    unfold I32; simp [Int.natCast_ediv, Int.natCast_pow]
  have hd : x.toNat / 2 ^ (32 - s) < 4294967296 := Nat.lt_of_le_of_lt (Nat.div_le_self _ _) hx
  rw [e3, e4, u32_or_nat _ _ (Nat.mod_lt _ (by decide)) hd]
  unfold rot
  rw [I32_ofNat]
  exact Nat.or_lt_two_pow (n := 32) (Nat.mod_lt _ (by decide)) hd

set_option maxHeartbeats 400000 in
theorem rotl_any (x : UInt32) (k : Int) (s : Nat) (w : World) (hk : bits .and .u64 (IntKind.u64.wrap k) 31 = (s : Int)) (h1 : 1 ≤ s) (h2 : s ≤ 31) :
    Calls Try.prog 63 #[.int .u32 (I32 x), .int .i64 k] w fun e w' => e = .returned (.int .u32 (I32 (rot x s))) ∧ w = w' := by
  have hs : IntKind.u64.wrap (32 - (s : Int)) = 32 - (s : Int) := by
    simp [IntKind.wrap, IntKind.bits, IntKind.signed]; omega
  go_enter Try.func63, Try.ntmps63
  go_wp2
  go_ret
  exact ⟨congrArg (fun n => Ending.returned (.int .u32 n)) (rot_int x s), rfl⟩

theorem neg31 (n : Nat) (h1 : 1 ≤ n) (h2 : n ≤ 31) : bits .and .u64 (IntKind.u64.wrap (-(n : Int))) 31 = ((32 - n : Nat) : Int) := by
  have e : IntKind.u64.wrap (-(n : Int)) = ((18446744073709551616 - n : Nat) : Int) := by
    simp [IntKind.wrap, IntKind.bits, IntKind.signed]; omega
  rw [e]
  have := u64_and_nat (18446744073709551616 - n) 31 (by omega) (by omega)
  rw [show ((31 : Int)) = ((31 : Nat) : Int) from rfl, this, nat_mask5]
  congr 1; omega
theorem pos31 (n : Nat) (h1 : 1 ≤ n) (h2 : n ≤ 31) : bits .and .u64 (IntKind.u64.wrap (n : Int)) 31 = (n : Int) := by
  have e : IntKind.u64.wrap (n : Int) = (n : Int) := by
    simp [IntKind.wrap, IntKind.bits, IntKind.signed]; omega
  rw [e]
  have := u64_and_nat n 31 (by omega) (by omega)
  rw [show ((31 : Int)) = ((31 : Nat) : Int) from rfl, this, nat_mask5]
  congr 1; omega

/-- sha.turn turns down by n -/
theorem turn_any (x : UInt32) (n : Int) (w : World) (h1 : 1 ≤ n) (h2 : n ≤ 31) :
    Calls Try.prog 108 #[.int .u32 (I32 x), .int .i64 n] w fun e w' => e = .returned (.int .u32 (I32 (rot x (32 - n.toNat)))) ∧ w' = w := by
  have hn := neg31 n.toNat (by omega) (by omega)
  rw [show ((n.toNat : Nat) : Int) = n from by omega] at hn
  have Hn := Lib.hid hn
  clear hn
  go_enter Try.func108, Try.ntmps108
  go_wp2_with fail
  refine (rotl_any x _ (32 - n.toNat) _ Hn.out (by omega) (by omega)).mono ?_
  rintro e w' ⟨rfl, rfl⟩
  go_wp2
  go_ret
  exact ⟨rfl, rfl⟩

theorem or_int (a b : Int) (h1 : 0 ≤ a) (h2 : a < 4294967296) (h3 : 0 ≤ b) (h4 : b < 4294967296) : bits .or .u32 a b = bits .or .u32 b a := by
  rw [u32_or a b h1 h2 h3 h4, u32_or b a h3 h4 h1 h2, Nat.or_comm]

theorem rot_int' (x : UInt32) (m : Nat) (h1 : 1 ≤ m) (h2 : m ≤ 31) :
    bits .or .u32 (I32 x / 2 ^ m) (I32 x * 2 ^ (32 - m) % 4294967296) = I32 (rot x (32 - m)) := by
  have h0 := I32_nonneg x
  have h3 := I32_lt x
  rw [← rot_int x (32 - m), or_int, show 32 - (32 - m) = m by omega]
  · exact Int.ediv_nonneg h0 (Int.pow_nonneg (by decide))
  · exact Int.lt_of_le_of_lt (Int.ediv_le_self _ h0) h3
  · exact Int.emod_nonneg _ (by decide)
  · exact Int.emod_lt_of_pos _ (by decide)

/-- the reference's turn -/
theorem rturn_any (x : UInt32) (n : Int) (w : World) (h1 : 1 ≤ n) (h2 : n ≤ 31) :
    Calls Try.prog 112 #[.int .u32 (I32 x), .int .u64 n] w fun e w' => e = .returned (.int .u32 (I32 (rot x (32 - n.toNat)))) ∧ w' = w := by
  obtain ⟨m, rfl⟩ := Int.eq_ofNat_of_zero_le (show 0 ≤ n by omega)
  have hs : IntKind.u64.wrap (32 - (m : Int)) = 32 - (m : Int) := by
    simp [IntKind.wrap, IntKind.bits, IntKind.signed]; omega
  go_enter Try.func112, Try.ntmps112
  go_wp2
  go_ret
  exact ⟨congrArg (fun n => Ending.returned (.int .u32 n)) (rot_int' x m (by omega) (by omega)), rfl⟩
end Go.Proofs.Ytgkhdpplmdkkaaa
