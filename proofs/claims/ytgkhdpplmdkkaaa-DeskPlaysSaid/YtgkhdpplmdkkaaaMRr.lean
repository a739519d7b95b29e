/- The contracts of the reference: whole numbers, products. -/
import Derived.Test.YtgkhdpplmdkkaaaMa
namespace Go.Proofs.Ytgkhdpplmdkkaaa
open Go.RowKit Go.Lib

/-- is p divided by none from 2 on that is less? -/
def wholeB (p : Nat) : Bool := (List.range p).all fun d => decide (d < 2) || (p % d != 0)
theorem whole_fact : (List.range 310).all (fun n => isP (n + 2) == wholeB (n + 2)) = true := by decide +kernel
theorem whole_isP {p : Nat} (h2 : 2 ≤ p) (h3 : p ≤ 311) : wholeB p = isP p := by
  have := (List.all_eq_true.1 whole_fact) (p - 2) (List.mem_range.2 (by omega))
  rw [show p - 2 + 2 = p by omega] at this
  exact (beq_iff_eq.1 this).symm
theorem wholeB_iff (p : Nat) : wholeB p = true ↔ ∀ d, 2 ≤ d → d < p → p % d ≠ 0 := by
  unfold wholeB
  rw [List.all_eq_true]
  constructor
  · intro h d h1 h2
    have := h d (List.mem_range.2 h2)
    simp at this
    omega
  · intro h d hd
    have hd := List.mem_range.1 hd
    by_cases h1 : d < 2
    · simp [h1]
    · have := h d (by omega) hd
      simp [this]

set_option maxRecDepth 100000 in
set_option maxHeartbeats 1000000 in
theorem whole_any (p : Nat) (h2 : 2 ≤ p) (h3 : p ≤ 311) (w : World) :
    Calls Try.prog 109 #[.int .u32 p] w fun e w' => e = .returned (.bool (isP p)) ∧ w' = w := by
  go_enter Try.func109, Try.ntmps109
  go_wp2_with fail
  go_loopw [3] (fun iv wr => ∃ d : Nat, iv = .int .u32 d ∧ 2 ≤ d ∧ d ≤ p ∧ (∀ t, 2 ≤ t → t < d → p % t ≠ 0) ∧ wr = w) (fun i _ => p - (intOf i).toNat)
  case atStart => exact ⟨2, rfl, by omega, h2, fun t h1 h4 => absurd h4 (by omega), rfl⟩
  case round =>
    obtain ⟨d, rfl, hd2, hdp, hall, rfl⟩ := hrel
    have Hall := Lib.hid hall
    clear hall
    by_cases hlt : d < p
    · have hd : decide ((d : Int) < (p : Int)) = true := by simp; omega
      by_cases hm : p % d = 0
      · have hmi : (p : Int) % (d : Int) = 0 := by rw [← Int.natCast_emod, hm]; rfl
        have hF : isP p = false := by
          rw [← whole_isP h2 h3, Bool.eq_false_iff]
          intro h
          exact (wholeB_iff p).1 h d hd2 hlt hm
        have HF := Lib.hid hF
        clear hF hm
        go_wp2_with fail
        go_ret
        exact ⟨ret_bool HF.out.symm, rfl⟩
      · have hmi : ((p : Int) % (d : Int) == 0) = false := by
          rw [beq_eq_false_iff_ne, ← Int.natCast_emod]; omega
        have hmn : ¬ (p : Int) % (d : Int) = 0 := by rw [← Int.natCast_emod]; omega
        have Hm := Lib.hid hm
        clear hm
        go_wp2_with fail
        go_roundw
        case rel =>
          refine ⟨d + 1, by go_num, by omega, by omega, fun t h1 h4 => ?_, by first | rfl | trivial⟩
          rcases Nat.lt_or_ge t d with h5 | h5
          · exact Hall.out t h1 h5
          · obtain rfl : t = d := by omega
            exact Hm.out
        case measure => simp [intOf]; omega
    · have hd : decide ((d : Int) < (p : Int)) = false := by simp; omega
      have hF : isP p = true := by
        rw [← whole_isP h2 h3, wholeB_iff]
        intro t h1 h4
        exact Hall.out t h1 (by omega)
      have HF := Lib.hid hF
      clear hF
      go_wp2_with fail
      go_ret
      exact ⟨ret_bool HF.out.symm, rfl⟩

theorem prod_parts (x y : Nat) (hx : x < 18446744073709551616) (hy : y < 18446744073709551616) :
    ∃ A B C D : Nat, A = x / 4294967296 * (y / 4294967296) ∧ B = x / 4294967296 * (y % 4294967296) ∧ C = x % 4294967296 * (y / 4294967296) ∧ D = x % 4294967296 * (y % 4294967296) ∧ x * y = A * 18446744073709551616 + (B + C) * 4294967296 + D ∧
      A ≤ 18446744065119617025 ∧ B ≤ 18446744065119617025 ∧ C ≤ 18446744065119617025 ∧ D ≤ 18446744065119617025 := by
  refine ⟨_, _, _, _, rfl, rfl, rfl, rfl, ?_, ?_, ?_, ?_, ?_⟩
  · have ex : x = x / 4294967296 * 4294967296 + x % 4294967296 := by omega
    have ey : y = y / 4294967296 * 4294967296 + y % 4294967296 := by omega
    generalize x / 4294967296 = a at *
    generalize x % 4294967296 = b at *
    generalize y / 4294967296 = c at *
    generalize y % 4294967296 = d at *
    subst ex ey
    have h1 : (a * 4294967296 + b) * (c * 4294967296 + d) = a * 4294967296 * (c * 4294967296) + a * 4294967296 * d + (b * (c * 4294967296) + b * d) := by
      rw [Nat.add_mul, Nat.mul_add, Nat.mul_add]
    have h2 : a * 4294967296 * (c * 4294967296) = a * c * 18446744073709551616 := by
      rw [Nat.mul_mul_mul_comm]
    have h3 : a * 4294967296 * d = a * d * 4294967296 := Nat.mul_right_comm _ _ _
    have h4 : b * (c * 4294967296) = b * c * 4294967296 := (Nat.mul_assoc _ _ _).symm
    rw [h1, h2, h3, h4]
    omega
  all_goals exact Nat.le_trans (Nat.mul_le_mul (show _ ≤ 4294967295 by omega) (show _ ≤ 4294967295 by omega)) (by omega)

theorem tdivN (a : Nat) : (a : Int).tdiv 4294967296 = ((a / 4294967296 : Nat) : Int) := by
  rw [Int.tdiv_eq_ediv_of_nonneg (Int.natCast_nonneg a)]; omega
theorem tmodN (a : Nat) : (a : Int).tmod 4294967296 = ((a % 4294967296 : Nat) : Int) := by
  rw [Int.tmod_eq_emod_of_nonneg (Int.natCast_nonneg a)]; omega
theorem mulH (a : Nat) : (a : Int) * 4294967296 = ((a * 4294967296 : Nat) : Int) := by omega

set_option maxRecDepth 100000 in
set_option maxHeartbeats 1000000 in
theorem product_any (x y : Nat) (hx : x < K64) (hy : y < K64) (w : World) :
    Calls Try.prog 115 #[.int .u64 x, .int .u64 y] w fun e w' => IsHL (x * y) e ∧ w = w' := by
  unfold K64 at hx hy
  have hmax : x * y ≤ 18446744073709551615 * 18446744073709551615 := Nat.mul_le_mul (by omega) (by omega)
  obtain ⟨A, B, C, D, hA, hB, hC, hD, hxy, bA, bB, bC, bD⟩ := prod_parts x y hx hy
  have pA : (x : Int) / 4294967296 * ((y : Int) / 4294967296) = (A : Int) := by rw [hA, Int.natCast_mul, Int.natCast_ediv, Int.natCast_ediv]; rfl
  have pB : (x : Int) / 4294967296 * ((y : Int) % 4294967296) = (B : Int) := by rw [hB, Int.natCast_mul, Int.natCast_ediv, Int.natCast_emod]; rfl
  have pC : (x : Int) % 4294967296 * ((y : Int) / 4294967296) = (C : Int) := by rw [hC, Int.natCast_mul, Int.natCast_emod, Int.natCast_ediv]; rfl
  have pD : (x : Int) % 4294967296 * ((y : Int) % 4294967296) = (D : Int) := by rw [hD, Int.natCast_mul, Int.natCast_emod, Int.natCast_emod]; rfl
  obtain ⟨T, hT⟩ : ∃ T, T = B + D / 4294967296 := ⟨_, rfl⟩
  obtain ⟨E, hE⟩ : ∃ E, E = C + T % 4294967296 := ⟨_, rfl⟩
  obtain ⟨F, hF⟩ : ∃ F, F = A + T / 4294967296 := ⟨_, rfl⟩
  have w1 := Mul64.wrapN A (by omega)
  have w2 := Mul64.wrapN B (by omega)
  have w3 := Mul64.wrapN C (by omega)
  have w0 := Mul64.wrapN D (by omega)
  have w4 := Mul64.wrapN (D / 4294967296) (by omega)
  have w5 := Mul64.wrapN T (by omega)
  have w6 := Mul64.wrapN E (by omega)
  have w7 := Mul64.wrapN (T / 4294967296) (by omega)
  have w8 := Mul64.wrapN F (by omega)
  have w9 := Mul64.wrapN (E / 4294967296) (by omega)
  have w10 := Mul64.wrapN (F + E / 4294967296) (by omega)
  have w11 := Mul64.wrapN (E % 4294967296 * 4294967296) (by omega)
  have w12 := Mul64.wrapN (E % 4294967296 * 4294967296 + D % 4294967296) (by omega)
  have hsum : (F + E / 4294967296) * 18446744073709551616 + (E % 4294967296 * 4294967296 + D % 4294967296) = x * y := by omega
  have hlt : E % 4294967296 * 4294967296 + D % 4294967296 < 18446744073709551616 := by omega
  clear hA hB hC hD hxy bA bB bC bD hmax
  go_enter Try.func115, Try.ntmps115
  have Hs := Lib.hid hsum
  have Hlt := Lib.hid hlt
  have HP := And.intro pA (And.intro pB (And.intro pC pD))
  have HH := Lib.hid HP
  have HW := Lib.hid (And.intro hT (And.intro hE hF))
  have HX := Lib.hid (And.intro w1 (And.intro w2 (And.intro w3 (And.intro w4 (And.intro w5 (And.intro w6 (And.intro w7 (And.intro w8 (And.intro w9 (And.intro w10 (And.intro w11 (And.intro w12 w0))))))))))))
  clear hsum hlt pA pB pC pD HP hT hE hF w1 w2 w3 w4 w5 w6 w7 w8 w9 w10 w11 w12 w0
  go_wp2_with fail
  obtain ⟨pA, pB, pC, pD⟩ := HH.out
  obtain ⟨hT, hE, hF⟩ := HW.out
  obtain ⟨w1, w2, w3, w4, w5, w6, w7, w8, w9, w10, w11, w12, w0⟩ := HX.out
  simp only [pA, pB, pC, pD, w0, tdivN, tmodN, w1, w2, w3, w4, Mul64.addN, ← hT, w5, ← hE, w6, w7, ← hF, w8, w9, w10, mulH, w11, w12]
  go_ret2
  exact ⟨⟨F + E / 4294967296, E % 4294967296 * 4294967296 + D % 4294967296, rfl, by unfold K64; exact Hs.out, by unfold K64; exact Hlt.out⟩, rfl⟩
end Go.Proofs.Ytgkhdpplmdkkaaa
