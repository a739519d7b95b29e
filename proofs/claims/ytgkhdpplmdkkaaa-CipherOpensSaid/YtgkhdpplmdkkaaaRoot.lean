/- Products and sums of 64 bits, and the roots' words: the walks. -/
import Derived.Test.YtgkhdpplmdkkaaaBits
import Derived.Lib.Mul64
namespace Go.Proofs.Ytgkhdpplmdkkaaa
open Go.RowKit Go.Lib

namespace Mul64
theorem maskN (a : Nat) (ha : a < 18446744073709551616) : bits .and .u64 (a : Int) 4294967295 = ((a % 4294967296 : Nat) : Int) := by
  have h := u64_and_nat a 4294967295 ha (by omega)
  have e : a &&& 4294967295 = a % 4294967296 := Nat.and_two_pow_sub_one_eq_mod a 32
  rw [e] at h
  exact h
theorem divN (a : Nat) : (a : Int) / 4294967296 = ((a / 4294967296 : Nat) : Int) := by omega
theorem mulN (a b : Nat) : (a : Int) * (b : Int) = ((a * b : Nat) : Int) := (Int.natCast_mul a b).symm
theorem addN (a b : Nat) : (a : Int) + (b : Int) = ((a + b : Nat) : Int) := (Int.natCast_add a b).symm
theorem wrapN (a : Nat) (ha : a < 18446744073709551616) : IntKind.u64.wrap (a : Int) = (a : Int) := by rw [IntKind.wrap_u64]; omega
theorem wrapM (a : Nat) : IntKind.u64.wrap (a : Int) = ((a % 18446744073709551616 : Nat) : Int) := by rw [IntKind.wrap_u64]; omega
end Mul64

/-- 2^64, behind a name -/
def K64 : Nat := 18446744073709551616

set_option maxHeartbeats 1000000 in
theorem mul64_raw (x y : Nat) (hx : x < 18446744073709551616) (hy : y < 18446744073709551616) (w : World) :
    Calls Try.prog 113 #[.int .u64 x, .int .u64 y] w fun e w' => e = .returned (.tuple #[.int .u64 ((x * y / 18446744073709551616 : Nat) : Int), .int .u64 ((x * y % 18446744073709551616 : Nat) : Int)]) ∧ w' = w := by
  obtain ⟨bd, bt, bw, hhi⟩ := Lib.mul64_hi x y hx hy
  have ba := Lib.half_mul_le (a := x / 4294967296) (b := y / 4294967296) (by omega) (by omega)
  have bb := Lib.half_mul_le (a := x / 4294967296) (b := y % 4294967296) (by omega) (by omega)
  have bc := Lib.half_mul_le (a := x % 4294967296) (b := y / 4294967296) (by omega) (by omega)
  have ba' : x / 4294967296 * (y / 4294967296) < 18446744073709551616 := by omega
  have bb' : x / 4294967296 * (y % 4294967296) < 18446744073709551616 := by omega
  have bc' : x % 4294967296 * (y / 4294967296) < 18446744073709551616 := by omega
  have bh1 : x / 4294967296 * (y / 4294967296) + (x / 4294967296 * (y % 4294967296) + x % 4294967296 * (y % 4294967296) / 4294967296) / 4294967296 < 18446744073709551616 := by omega
  have bh : x / 4294967296 * (y / 4294967296) + (x / 4294967296 * (y % 4294967296) + x % 4294967296 * (y % 4294967296) / 4294967296) / 4294967296 + ((x / 4294967296 * (y % 4294967296) + x % 4294967296 * (y % 4294967296) / 4294967296) % 4294967296 + x % 4294967296 * (y / 4294967296)) / 4294967296 < 18446744073709551616 := by omega
  go_enter Try.func113, Try.ntmps113
  go_wp2
  simp only [Mul64.maskN x hx, Mul64.maskN y hy, Mul64.divN, Mul64.mulN, Mul64.addN, Mul64.wrapN _ bd, Mul64.wrapN _ bb', Mul64.wrapN _ bt, Mul64.maskN _ bt, Mul64.wrapN _ bc', Mul64.wrapN _ bw, Mul64.wrapN _ ba', Mul64.wrapN _ bh1, Mul64.wrapN _ bh, Mul64.wrapM (x * y)]
  rw [hhi]
  go_ret2
  exact ⟨rfl, rfl⟩

/-- a tuple of two whole numbers that are hi and lo of n -/
def IsHL (n : Nat) (e : Ending) : Prop := ∃ hi lo : Nat, e = .returned (.tuple #[.int .u64 hi, .int .u64 lo]) ∧ hi * K64 + lo = n ∧ lo < K64

theorem mul64_any (x y : Nat) (hx : x < K64) (hy : y < K64) (w : World) :
    Calls Try.prog 113 #[.int .u64 x, .int .u64 y] w fun e w' => IsHL (x * y) e ∧ w = w' :=
  (mul64_raw x y hx hy w).mono fun e w' ⟨he, hw⟩ => ⟨⟨_, _, he, by unfold K64; omega, Nat.mod_lt _ (by decide)⟩, hw.symm⟩

def sumLo (x y : Nat) : Nat := (x + y) % K64
def sumHi (x y : Nat) : Nat := (x + y) / K64

theorem run_add64_here (x y : Nat) (w : World) : (callFunc 114 #[.int .u64 x, .int .u64 y, .int .u64 0]).run Try.prog w = .ok (.value (.tuple #[.int .u64 (sumLo x y : Int), .int .u64 (sumHi x y : Int)])) w := by
  rw [run_callFunc_extern (e := add64Entry) Try.func114 (by kernel_rfl) (by kernel_rfl) (by kernel_rfl) (by kernel_rfl), run_add64 _ _ _ (Int.natCast_nonneg _) (Int.natCast_nonneg _) (by decide) (by decide)]
  unfold sumLo sumHi K64
  simp [Result.andThen]

/-- is x squared above p times 2^64? -/
def abv (x p : Nat) : Bool := decide (p * K64 < x * x)
theorem abv_of {x p hi lo : Nat} (h : hi * K64 + lo = x * x) (hl : lo < K64) : abv x p = (decide (p < hi) || (decide (hi = p) && decide (0 < lo))) := by
  unfold abv
  unfold K64 at *
  rw [Bool.eq_iff_iff]
  simp
  omega

set_option maxHeartbeats 400000 in
theorem above_any (x p : Nat) (hx : x < K64) (w : World) :
    Calls Try.prog 107 #[.int .u64 x, .int .u64 p] w fun e w' => e = .returned (.bool (abv x p)) ∧ w = w' := by
  have Hx := Lib.hid hx
  clear hx
  go_enter Try.func107, Try.ntmps107
  go_wp2_with fail
  refine (mul64_any x x Hx.out Hx.out _).mono ?_
  rintro e w' ⟨⟨hi, lo, rfl, hs, hl⟩, rfl⟩
  have Hs := Lib.hid hs
  have Hl := Lib.hid hl
  clear hs hl
  go_wp2
  all_goals go_ret
  all_goals refine ⟨ret_bool ?_, rfl⟩
  all_goals (rw [abv_of Hs.out Hl.out, Bool.eq_iff_iff]; simp)
  all_goals omega

/-- is x cubed above p times 2^96? -/
def abc (x p : Nat) : Bool := decide (p * 4294967296 * K64 < x * x * x)
theorem abc_of {x p hi lo top mid more low : Nat} (h1 : hi * K64 + lo = x * x) (h2 : top * K64 + mid = hi * x) (h3 : more * K64 + low = lo * x) (hl : low < K64) (hp : p < 4294967296) :
    abc x p = (decide (0 < top + sumHi mid more) || (decide (p * 4294967296 < sumLo mid more) || (decide (sumLo mid more = p * 4294967296) && decide (0 < low)))) := by
  have e : x * x * x = (top + sumHi mid more) * (K64 * K64) + sumLo mid more * K64 + low := by
    have e1 : x * x * x = (hi * x) * K64 + lo * x := by rw [← h1, Nat.add_mul, Nat.mul_right_comm]
    have e2 : mid + more = sumHi mid more * K64 + sumLo mid more := by unfold sumHi sumLo; rw [Nat.mul_comm]; exact (Nat.div_add_mod _ _).symm
    have e3 : (mid + more) * K64 = sumHi mid more * (K64 * K64) + sumLo mid more * K64 := by rw [e2, Nat.add_mul, Nat.mul_assoc]
    rw [e1, ← h2, ← h3, Nat.add_mul, Nat.add_mul, Nat.mul_assoc]
    rw [Nat.add_mul] at e3
    omega
  have hs : sumLo mid more < K64 := Nat.mod_lt _ (by decide)
  unfold abc
  rw [e]
  generalize sumLo mid more = s at *
  generalize sumHi mid more = c at *
  clear e h1 h2 h3
  unfold K64 at *
  rw [Bool.eq_iff_iff]
  simp
  omega

theorem hi_small {x hi lo : Nat} (hx : x < 17592186044416) (h : hi * K64 + lo = x * x) : hi < 16777216 := by
  have : x * x ≤ 17592186044415 * 17592186044415 := Nat.mul_le_mul (by omega) (by omega)
  unfold K64 at h
  omega
theorem top_small {x hi top mid : Nat} (hx : x < 17592186044416) (hh : hi < 16777216) (h : top * K64 + mid = hi * x) : top < 16 := by
  have : hi * x ≤ 16777215 * 17592186044415 := Nat.mul_le_mul (by omega) (by omega)
  unfold K64 at h
  omega
theorem more_small {x lo more low : Nat} (hx : x < 17592186044416) (hl : lo < K64) (h : more * K64 + low = lo * x) : more < K64 := by
  rcases Nat.lt_or_ge more K64 with h1 | h1
  · exact h1
  · have h2 : lo * x ≤ K64 * 17592186044415 := Nat.mul_le_mul (by omega) (by omega)
    have h3 : K64 * K64 ≤ more * K64 := Nat.mul_le_mul_right _ h1
    unfold K64 at *
    omega
theorem sumHi_le {x y : Nat} (hx : x < K64) (hy : y < K64) : sumHi x y ≤ 1 := by
  unfold sumHi K64 at *; omega
theorem small_K {n : Nat} (h : n < 17592186044416) : n < K64 := by unfold K64; omega
end Go.Proofs.Ytgkhdpplmdkkaaa
