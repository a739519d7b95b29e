/- The plain side of the primes and the roots' words. -/
import Derived.Test.YtgkhdpplmdkkaaaRoot2
namespace Go.Proofs.Ytgkhdpplmdkkaaa
open Go Go.RowKit

/-- trial division from d on, at most so many times -/
def whl (p : Nat) : Nat → Nat → Bool → Bool
  | 0, _, b => b
  | f + 1, d, b => if d * d ≤ p then whl p f (d + 1) (b && (p % d != 0)) else b
def isP (p : Nat) : Bool := whl p 20 2 true
/-- the primes below p, from 2 on: p = 2 + n -/
def pls : Nat → List Nat
  | 0 => []
  | n + 1 => if isP (n + 2) then pls n ++ [n + 2] else pls n
/-- the i-th prime -/
def prm (i : Nat) : Nat := (pls 310).getD i 0

theorem pls_310 : (pls 310).length = 64 := by decide +kernel
theorem pls_fact : (List.range 310).all (fun n => !isP (n + 2) || ((pls 310).getD (pls n).length 0 == n + 2)) = true := by decide +kernel
theorem prm_at {n : Nat} (hn : n < 310) (h : isP (n + 2) = true) : prm (pls n).length = n + 2 := by
  have := (List.all_eq_true.1 pls_fact) n (List.mem_range.2 hn)
  unfold prm
  simpa [h] using this
theorem pls_step (n : Nat) : (pls (n + 1)).length = (pls n).length + if isP (n + 2) then 1 else 0 := by
  show (if isP (n + 2) then pls n ++ [n + 2] else pls n).length = _
  split <;> simp
theorem pls_18 : (pls 18).length = 8 := by decide +kernel

/-- the word of the j-th prime's cube root, of its square root -/
def kw (j : Nat) : UInt32 := UInt32.ofNat (riter (prm j) true 49)
def iw (j : Nat) : UInt32 := UInt32.ofNat (riter (prm j) false 49)
theorem I32_mod (n : Nat) : ((n % 4294967296 : Nat) : Int) = I32 (UInt32.ofNat n) := by
  unfold I32; rw [UInt32.toNat_ofNat']

theorem modB (p d : Nat) : ((p : Int) % (d : Int) != 0) = (p % d != 0) := by
  rw [← Int.natCast_emod, Bool.eq_iff_iff]
  simp only [bne_iff_ne, ne_eq]
  omega
theorem whl_in {p d : Nat} {b : Bool} (h : d * d ≤ p) (hd : d ≤ 21) : whl p (22 - d) d b = whl p (22 - (d + 1)) (d + 1) (b && (p % d != 0)) := by
  rw [show 22 - d = (22 - (d + 1)) + 1 by omega, whl, if_pos h]
theorem whl_out {p d : Nat} {b : Bool} (h : ¬ d * d ≤ p) (hd : d ≤ 21) : whl p (22 - d) d b = b := by
  rw [show 22 - d = (22 - (d + 1)) + 1 by omega, whl, if_neg h]
theorem d_small {p d : Nat} (h : d * d ≤ p) (hp : p ≤ 311) : d ≤ 17 := by
  rcases Nat.lt_or_ge d 18 with h1 | h1
  · omega
  · have := Nat.mul_le_mul h1 h1; omega
theorem kw_at {n : Nat} (hn : n < 310) (h : isP (n + 2) = true) : UInt32.ofNat (riter (n + 2) true 49) = kw (pls n).length := by
  unfold kw; rw [prm_at hn h]
theorem iw_at {n : Nat} (hn : n < 310) (h : isP (n + 2) = true) : UInt32.ofNat (riter (n + 2) false 49) = iw (pls n).length := by
  unfold iw; rw [prm_at hn h]
theorem rootC (p : Nat) (hp : p < 4294967296) (w : World) :
    Calls Try.prog 95 #[.int .u32 p, .bool true] w fun e w' => e = .returned (.int .u32 (I32 (UInt32.ofNat (riter p true 49)))) ∧ w' = w :=
  (rootC_any p hp w).mono fun e w' ⟨he, hw⟩ => ⟨by rw [he, I32_mod], hw⟩
theorem rootS (p : Nat) (hp : p < 4294967296) (w : World) :
    Calls Try.prog 95 #[.int .u32 p, .bool false] w fun e w' => e = .returned (.int .u32 (I32 (UInt32.ofNat (riter p false 49)))) ∧ w' = w :=
  (rootS_any p hp w).mono fun e w' ⟨he, hw⟩ => ⟨by rw [he, I32_mod], hw⟩

end Go.Proofs.Ytgkhdpplmdkkaaa
