/- Joined: Rr, Rs, Rp, Rm, Rd, Ru, R3. -/
import Derived.Test.YtoankokkdmbjmaaDoorJa
import Derived.Test.YtoankokkdmbjmaaDoorJb
import Derived.Test.YtoankokkdmbjmaaDoorCw
import Derived.Laws.Tables
import Derived.Deep.MidRow
import Derived.StillTailTactics
/- The walks of the reference's whole, product, below, cubeBelow and Root. -/
namespace Go.Proofs.YtoankokkdmbjmaaDoor
open Go.RowKit Go.Lib

/-- is p divided by none from 2 on that is less? -/
def wholeB (p : Nat) : Bool := (List.range p).all fun d => decide (d < 2) || (p % d != 0)
theorem whole_fact : (List.range 310).all (fun n => isP (n + 2) == wholeB (n + 2)) = true := by decide +kernel
theorem whole_isP {p : Nat} (h2 : 2 ≤ p) (h3 : p ≤ 311) : wholeB p = isP p := by
  have := (List.all_eq_true.1 whole_fact) (p - 2) (List.mem_range.2 (by omega))
  rw [show p - 2 + 2 = p by omega] at this
  exact (beq_iff_eq.1 this).symm
theorem wholeB_iff (p : Nat) : wholeB p = true ↔ ∀ d, 2 ≤ d → d < p → p % d ≠ 0 := by
  unfold wholeB
  rw [List.all_eq_true]
  constructor
  · intro h d h1 h2
    have := h d (List.mem_range.2 h2)
    simp at this
    omega
  · intro h d hd
    have hd := List.mem_range.1 hd
    by_cases h1 : d < 2
    · simp [h1]
    · have := h d (by omega) hd
      simp [this]

set_option maxRecDepth 100000 in
set_option maxHeartbeats 1000000 in
theorem whole_any (p : Nat) (h2 : 2 ≤ p) (h3 : p ≤ 311) (w : World) :
    Calls Tryd.prog 131 #[.int .u32 p] w fun e w' => e = .returned (.bool (isP p)) ∧ w' = w := by
  go_enter Tryd.func131, Tryd.ntmps131
  go_wp2_with fail
  go_loopw [3] (fun iv wr => ∃ d : Nat, iv = .int .u32 d ∧ 2 ≤ d ∧ d ≤ p ∧ (∀ t, 2 ≤ t → t < d → p % t ≠ 0) ∧ wr = w) (fun i _ => p - (intOf i).toNat)
  case atStart => exact ⟨2, rfl, by omega, h2, fun t h1 h4 => absurd h4 (by omega), rfl⟩
  case round =>
    obtain ⟨d, rfl, hd2, hdp, hall, rfl⟩ := hrel
    have Hall := Lib.hid hall
    clear hall
    by_cases hlt : d < p
    · have hd : decide ((d : Int) < (p : Int)) = true := by simp; omega
      by_cases hm : p % d = 0
      · have hmi : (p : Int) % (d : Int) = 0 := by rw [← Int.natCast_emod, hm]; rfl
        have hF : isP p = false := by
          rw [← whole_isP h2 h3, Bool.eq_false_iff]
          intro h
          exact (wholeB_iff p).1 h d hd2 hlt hm
        have HF := Lib.hid hF
        clear hF hm
        go_wp2_with fail
        go_ret
        exact ⟨ret_bool HF.out.symm, rfl⟩
      · have hmi : ((p : Int) % (d : Int) == 0) = false := by
          rw [beq_eq_false_iff_ne, ← Int.natCast_emod]; omega
        have hmn : ¬ (p : Int) % (d : Int) = 0 := by rw [← Int.natCast_emod]; omega
        have Hm := Lib.hid hm
        clear hm
        go_wp2_with fail
        go_roundw
        case rel =>
          refine ⟨d + 1, by go_num, by omega, by omega, fun t h1 h4 => ?_, by first | rfl | trivial⟩
          rcases Nat.lt_or_ge t d with h5 | h5
          · exact Hall.out t h1 h5
          · obtain rfl : t = d := by omega
            exact Hm.out
        case measure => simp [intOf]; omega
    · have hd : decide ((d : Int) < (p : Int)) = false := by simp; omega
      have hF : isP p = true := by
        rw [← whole_isP h2 h3, wholeB_iff]
        intro t h1 h4
        exact Hall.out t h1 (by omega)
      have HF := Lib.hid hF
      clear hF
      go_wp2_with fail
      go_ret
      exact ⟨ret_bool HF.out.symm, rfl⟩

theorem prod_parts (x y : Nat) (hx : x < 18446744073709551616) (hy : y < 18446744073709551616) :
    ∃ A B C D : Nat, A = x / 4294967296 * (y / 4294967296) ∧ B = x / 4294967296 * (y % 4294967296) ∧ C = x % 4294967296 * (y / 4294967296) ∧ D = x % 4294967296 * (y % 4294967296) ∧ x * y = A * 18446744073709551616 + (B + C) * 4294967296 + D ∧
      A ≤ 18446744065119617025 ∧ B ≤ 18446744065119617025 ∧ C ≤ 18446744065119617025 ∧ D ≤ 18446744065119617025 := by
  refine ⟨_, _, _, _, rfl, rfl, rfl, rfl, ?_, ?_, ?_, ?_, ?_⟩
  · have ex : x = x / 4294967296 * 4294967296 + x % 4294967296 := by omega
    have ey : y = y / 4294967296 * 4294967296 + y % 4294967296 := by omega
    generalize x / 4294967296 = a at *
    generalize x % 4294967296 = b at *
    generalize y / 4294967296 = c at *
    generalize y % 4294967296 = d at *
    subst ex ey
    have h1 : (a * 4294967296 + b) * (c * 4294967296 + d) = a * 4294967296 * (c * 4294967296) + a * 4294967296 * d + (b * (c * 4294967296) + b * d) := by
      rw [Nat.add_mul, Nat.mul_add, Nat.mul_add]
    have h2 : a * 4294967296 * (c * 4294967296) = a * c * 18446744073709551616 := by
      rw [Nat.mul_mul_mul_comm]
    have h3 : a * 4294967296 * d = a * d * 4294967296 := Nat.mul_right_comm _ _ _
    have h4 : b * (c * 4294967296) = b * c * 4294967296 := (Nat.mul_assoc _ _ _).symm
    rw [h1, h2, h3, h4]
    omega
  all_goals exact Nat.le_trans (Nat.mul_le_mul (show _ ≤ 4294967295 by omega) (show _ ≤ 4294967295 by omega)) (by omega)

theorem tdivN (a : Nat) : (a : Int).tdiv 4294967296 = ((a / 4294967296 : Nat) : Int) := by
  rw [Int.tdiv_eq_ediv_of_nonneg (Int.natCast_nonneg a)]; omega
theorem tmodN (a : Nat) : (a : Int).tmod 4294967296 = ((a % 4294967296 : Nat) : Int) := by
  rw [Int.tmod_eq_emod_of_nonneg (Int.natCast_nonneg a)]; omega
theorem mulH (a : Nat) : (a : Int) * 4294967296 = ((a * 4294967296 : Nat) : Int) := by omega

set_option maxRecDepth 100000 in
set_option maxHeartbeats 1000000 in
theorem product_any (x y : Nat) (hx : x < K64) (hy : y < K64) (w : World) :
    Calls Tryd.prog 144 #[.int .u64 x, .int .u64 y] w fun e w' => IsHL (x * y) e ∧ w = w' := by
  unfold K64 at hx hy
  have hmax : x * y ≤ 18446744073709551615 * 18446744073709551615 := Nat.mul_le_mul (by omega) (by omega)
  obtain ⟨A, B, C, D, hA, hB, hC, hD, hxy, bA, bB, bC, bD⟩ := prod_parts x y hx hy
  have pA : (x : Int) / 4294967296 * ((y : Int) / 4294967296) = (A : Int) := by rw [hA, Int.natCast_mul, Int.natCast_ediv, Int.natCast_ediv]; rfl
  have pB : (x : Int) / 4294967296 * ((y : Int) % 4294967296) = (B : Int) := by rw [hB, Int.natCast_mul, Int.natCast_ediv, Int.natCast_emod]; rfl
  have pC : (x : Int) % 4294967296 * ((y : Int) / 4294967296) = (C : Int) := by rw [hC, Int.natCast_mul, Int.natCast_emod, Int.natCast_ediv]; rfl
  have pD : (x : Int) % 4294967296 * ((y : Int) % 4294967296) = (D : Int) := by rw [hD, Int.natCast_mul, Int.natCast_emod, Int.natCast_emod]; rfl
  obtain ⟨T, hT⟩ : ∃ T, T = B + D / 4294967296 := ⟨_, rfl⟩
  obtain ⟨E, hE⟩ : ∃ E, E = C + T % 4294967296 := ⟨_, rfl⟩
  obtain ⟨F, hF⟩ : ∃ F, F = A + T / 4294967296 := ⟨_, rfl⟩
  have w1 := Mul64.wrapN A (by omega)
  have w2 := Mul64.wrapN B (by omega)
  have w3 := Mul64.wrapN C (by omega)
  have w0 := Mul64.wrapN D (by omega)
  have w4 := Mul64.wrapN (D / 4294967296) (by omega)
  have w5 := Mul64.wrapN T (by omega)
  have w6 := Mul64.wrapN E (by omega)
  have w7 := Mul64.wrapN (T / 4294967296) (by omega)
  have w8 := Mul64.wrapN F (by omega)
  have w9 := Mul64.wrapN (E / 4294967296) (by omega)
  have w10 := Mul64.wrapN (F + E / 4294967296) (by omega)
  have w11 := Mul64.wrapN (E % 4294967296 * 4294967296) (by omega)
  have w12 := Mul64.wrapN (E % 4294967296 * 4294967296 + D % 4294967296) (by omega)
  have hsum : (F + E / 4294967296) * 18446744073709551616 + (E % 4294967296 * 4294967296 + D % 4294967296) = x * y := by omega
  have hlt : E % 4294967296 * 4294967296 + D % 4294967296 < 18446744073709551616 := by omega
  clear hA hB hC hD hxy bA bB bC bD hmax
  go_enter Tryd.func144, Tryd.ntmps144
  have Hs := Lib.hid hsum
  have Hlt := Lib.hid hlt
  have HP := And.intro pA (And.intro pB (And.intro pC pD))
  have HH := Lib.hid HP
  have HW := Lib.hid (And.intro hT (And.intro hE hF))
  have HX := Lib.hid (And.intro w1 (And.intro w2 (And.intro w3 (And.intro w4 (And.intro w5 (And.intro w6 (And.intro w7 (And.intro w8 (And.intro w9 (And.intro w10 (And.intro w11 (And.intro w12 w0))))))))))))
  clear hsum hlt pA pB pC pD HP hT hE hF w1 w2 w3 w4 w5 w6 w7 w8 w9 w10 w11 w12 w0
  go_wp2_with fail
  obtain ⟨pA, pB, pC, pD⟩ := HH.out
  obtain ⟨hT, hE, hF⟩ := HW.out
  obtain ⟨w1, w2, w3, w4, w5, w6, w7, w8, w9, w10, w11, w12, w0⟩ := HX.out
  simp only [pA, pB, pC, pD, w0, tdivN, tmodN, w1, w2, w3, w4, Mul64.addN, ← hT, w5, ← hE, w6, w7, ← hF, w8, w9, w10, mulH, w11, w12]
  go_ret2
  exact ⟨⟨F + E / 4294967296, E % 4294967296 * 4294967296 + D % 4294967296, rfl, by unfold K64; exact Hs.out, by unfold K64; exact Hlt.out⟩, rfl⟩
end Go.Proofs.YtoankokkdmbjmaaDoor
/- The walks of the reference's below, cubeBelow and Root. -/
namespace Go.Proofs.YtoankokkdmbjmaaDoor
open Go.RowKit Go.Lib

set_option maxRecDepth 100000 in
set_option maxHeartbeats 400000 in
theorem below_any (x p : Nat) (hx : x < K64) (w : World) :
    Calls Tryd.prog 133 #[.int .u64 x, .int .u64 p] w fun e w' => e = .returned (.bool (!abv x p)) ∧ w = w' := by
  have Hx := Lib.hid hx
  clear hx
  go_enter Tryd.func133, Tryd.ntmps133
  go_wp2_with fail
  refine (product_any x x Hx.out Hx.out _).mono ?_
  rintro e w' ⟨⟨hi, lo, rfl, hs, hl⟩, rfl⟩
  have hab := abv_of (p := p) hs hl
  have Hab := Lib.hid hab
  clear hs hl hab
  by_cases h1 : hi < p
  · have d1 : decide ((hi : Int) < (p : Int)) = true := by simp; omega
    have hF : abv x p = false := by
      rw [Hab.out]
      have : ¬ p < hi := by omega
      have h2 : ¬ hi = p := by omega
      simp [this, h2]
    have HF := Lib.hid hF
    clear hF
    go_wp2_with fail
    go_ret
    exact ⟨ret_bool (by rw [HF.out]; rfl), rfl⟩
  · have d1 : decide ((hi : Int) < (p : Int)) = false := by simp; omega
    by_cases h2 : hi = p
    · have d2 : ((hi : Int) == (p : Int)) = true := by simp; omega
      by_cases h3 : lo = 0
      · have d3 : ((lo : Int) == 0) = true := by simp; omega
        have hF : abv x p = false := by rw [Hab.out]; simp [h2, h3]
        have HF := Lib.hid hF
        clear hF h2
        go_wp2_with fail
        go_ret
        exact ⟨ret_bool (by rw [HF.out]; rfl), rfl⟩
      · have d3 : ((lo : Int) == 0) = false := by rw [beq_eq_false_iff_ne]; omega
        have hF : abv x p = true := by
          rw [Hab.out]
          have : 0 < lo := by omega
          simp [h2, this]
        have HF := Lib.hid hF
        clear hF h2
        go_wp2_with fail
        go_ret
        exact ⟨ret_bool (by rw [HF.out]; rfl), rfl⟩
    · have d2 : ((hi : Int) == (p : Int)) = false := by rw [beq_eq_false_iff_ne]; omega
      have hF : abv x p = true := by
        rw [Hab.out]
        have : p < hi := by omega
        simp [this]
      have HF := Lib.hid hF
      clear hF
      go_wp2_with fail
      go_ret
      exact ⟨ret_bool (by rw [HF.out]; rfl), rfl⟩

set_option maxRecDepth 100000 in
set_option maxHeartbeats 400000 in
theorem cubeBelow_any (x p : Nat) (hx : x < 17592186044416) (hp : p < 4294967296) (w : World) :
    Calls Tryd.prog 132 #[.int .u64 x, .int .u64 p] w fun e w' => e = .returned (.bool (!abc x p)) ∧ w = w' := by
  have Hx := Lib.hid hx
  have Hp := Lib.hid hp
  obtain ⟨pi, hpi⟩ : ∃ pi : Int, pi = (p : Int) := ⟨_, rfl⟩
  rw [← hpi]
  obtain ⟨pq, hpq⟩ : ∃ pq : Nat, pq = p * 4294967296 := ⟨_, rfl⟩
  have hp1 : IntKind.u64.wrap (pi * 4294967296) = (pq : Int) := by rw [u64_small _ (by omega) (by omega)]; omega
  have Hpq := Lib.hid hpq
  clear hx hp hpi hpq
  go_enter Tryd.func132, Tryd.ntmps132
  go_wp2_with fail
  refine (product_any x x (small_K Hx.out) (small_K Hx.out) _).mono ?_
  rintro e w' ⟨⟨hi, lo, rfl, hs, hl⟩, rfl⟩
  have Hs := Lib.hid hs
  have Hl := Lib.hid hl
  have Hhi := Lib.hid (hi_small Hx.out hs)
  clear hs hl
  go_wp2_with fail
  refine (product_any lo x Hl.out (small_K Hx.out) _).mono ?_
  rintro e w' ⟨⟨more, low, rfl, hs3, hl3⟩, rfl⟩
  have Hmore := Lib.hid (more_small Hx.out Hl.out hs3)
  have Hs3 := Lib.hid hs3
  have Hl3 := Lib.hid hl3
  clear hs3 hl3
  go_wp2_with fail
  refine (product_any hi x (small_K (by have := Hhi.out; omega)) (small_K Hx.out) _).mono ?_
  rintro e w' ⟨⟨top, mid, rfl, hs2, hl2⟩, rfl⟩
  have Hs2 := Lib.hid hs2
  have Hl2 := Lib.hid hl2
  clear hs2 hl2
  have hab := abc_of Hs.out Hs2.out Hs3.out Hl3.out Hp.out
  rw [← Hpq.out] at hab
  have hw : IntKind.u64.wrap (18446744073709551615 - (more : Int)) = 18446744073709551615 - (more : Int) := by
    have := Hmore.out
    unfold K64 at this
    rw [u64_small _ (by omega) (by omega)]
  by_cases hA : 0 < top
  · have dA : decide ((0 : Int) < (top : Int)) = true := by simp; omega
    have hA2 : (0 : Int) < (top : Int) := by omega
    have hF : abc x p = true := by rw [hab]; have : 0 < top + sumHi mid more := by omega
                                   simp [this]
    have HF := Lib.hid hF
    clear hF hab
    go_wp2_with fail
    go_ret
    exact ⟨ret_bool (by rw [HF.out]; rfl), rfl⟩
  · obtain rfl : top = 0 := by omega
    by_cases hB : mid + more < 18446744073709551616
    · have dB : decide (18446744073709551615 - (more : Int) < (mid : Int)) = false := by simp; omega
      have hsH : sumHi mid more = 0 := by unfold sumHi K64; omega
      have hsL : sumLo mid more = mid + more := by unfold sumLo K64; omega
      rw [hsH, hsL] at hab
      obtain ⟨m, hm⟩ : ∃ m, m = mid + more := ⟨_, rfl⟩
      have hwm : IntKind.u64.wrap ((mid : Int) + (more : Int)) = (m : Int) := by rw [u64_small _ (by omega) (by omega)]; omega
      rw [← hm] at hab
      have Hab := Lib.hid hab
      clear hab hsH hsL hB hm
      by_cases h1 : m < pq
      · have d1 : decide ((m : Int) < (pq : Int)) = true := by simp; omega
        have hF : abc x p = false := by
          rw [Hab.out]
          have h2 : ¬ pq < m := by omega
          have h3 : ¬ m = pq := by omega
          simp [h2, h3]
        have HF := Lib.hid hF
        clear hF
        go_wp2_with fail
        go_ret
        exact ⟨ret_bool (by rw [HF.out]; rfl), rfl⟩
      · have d1 : decide ((m : Int) < (pq : Int)) = false := by simp; omega
        by_cases h2 : m = pq
        · have d2 : ((m : Int) == (pq : Int)) = true := by simp; omega
          by_cases h3 : low = 0
          · have d3 : ((low : Int) == 0) = true := by simp; omega
            have hF : abc x p = false := by rw [Hab.out]; simp [h2, h3]
            have HF := Lib.hid hF
            clear hF h2
            go_wp2_with fail
            go_ret
            exact ⟨ret_bool (by rw [HF.out]; rfl), rfl⟩
          · have d3 : ((low : Int) == 0) = false := by rw [beq_eq_false_iff_ne]; omega
            have hF : abc x p = true := by
              rw [Hab.out]
              have : 0 < low := by omega
              simp [h2, this]
            have HF := Lib.hid hF
            clear hF h2
            go_wp2_with fail
            go_ret
            exact ⟨ret_bool (by rw [HF.out]; rfl), rfl⟩
        · have d2 : ((m : Int) == (pq : Int)) = false := by rw [beq_eq_false_iff_ne]; omega
          have hF : abc x p = true := by
            rw [Hab.out]
            have : pq < m := by omega
            simp [this]
          have HF := Lib.hid hF
          clear hF
          go_wp2_with fail
          go_ret
          exact ⟨ret_bool (by rw [HF.out]; rfl), rfl⟩
    · have dB : decide (18446744073709551615 - (more : Int) < (mid : Int)) = true := by simp; omega
      have hF : abc x p = true := by
        rw [hab]
        have : 0 < sumHi mid more := by unfold sumHi K64; omega
        simp [this]
      have HF := Lib.hid hF
      clear hF hab
      go_wp2_with fail
      go_ret
      exact ⟨ret_bool (by rw [HF.out]; rfl), rfl⟩

theorem riter_mult (p : Nat) (cube : Bool) (n : Nat) (hn : n ≤ 49) : riter p cube n % 2 ^ (49 - n) = 0 := by
  induction n with
  | zero => simp [riter]
  | succ n ih =>
    have ih := ih (by omega)
    have hd : 2 ^ (49 - n) = 2 ^ (49 - (n + 1)) * 2 := by rw [← Nat.pow_succ]; congr 1; omega
    have h1 : riter p cube n % 2 ^ (49 - (n + 1)) = 0 := by
      have := Nat.dvd_of_mod_eq_zero ih
      rw [hd] at this
      exact Nat.mod_eq_zero_of_dvd (Nat.dvd_trans (Nat.dvd_mul_right _ _) this)
    show rstep p cube (riter p cube n) n % _ = 0
    unfold rstep
    split
    · have e : 49 - (n + 1) = 48 - n := by omega
      rw [e] at h1 ⊢
      rw [Nat.or_mod_two_pow, h1, Nat.mod_self, Nat.or_self]
    · exact h1
theorem or_sum (p : Nat) (cube : Bool) (n : Nat) (hn : n < 49) : riter p cube n ||| 2 ^ (48 - n) = riter p cube n + 2 ^ (48 - n) := by
  have h := riter_mult p cube n (by omega)
  have e : 49 - n = (48 - n) + 1 := by omega
  rw [e] at h
  obtain ⟨a, ha⟩ := Nat.dvd_of_mod_eq_zero h
  rw [ha, Nat.two_pow_add_eq_or_of_lt (Nat.pow_lt_pow_right (by decide) (by omega))]

set_option maxRecDepth 100000 in
set_option maxHeartbeats 1000000 in
theorem rrootS_any (p : Nat) (hp : p < 4294967296) (w : World) :
    Calls Tryd.prog 115 #[.int .u32 p, .bool false] w fun e w' => e = .returned (.int .u32 (I32 (UInt32.ofNat (riter p false 49)))) ∧ w' = w := by
  have Hp := Lib.hid hp
  have hp2 : IntKind.u64.wrap (p : Int) = (p : Int) := u64_small _ (by omega) (by omega)
  clear hp
  go_enter Tryd.func115, Tryd.ntmps115
  go_wp2_with fail
  go_loopw [5, 6] (fun x b w1 => ∃ n : Nat, n ≤ 49 ∧ x = .int .u64 (riter p false n) ∧ b = .int .u64 ((281474976710656 / 2 ^ n : Nat) : Int) ∧ w1 = w) (fun _ b _ => (intOf b).toNat)
  case atStart => exact ⟨0, by omega, rfl, rfl, rfl⟩
  case round =>
    obtain ⟨n, hn, rfl, rfl, rfl⟩ := hrel
    have hlt := riter_lt p false n hn
    by_cases h49 : n < 49
    · have hb : 281474976710656 / 2 ^ n = 2 ^ (48 - n) := by
        rw [show (281474976710656 : Nat) = 2 ^ 48 from rfl, Nat.pow_div (by omega) (by decide)]
      have hb2 : 281474976710656 / 2 ^ (n + 1) = 281474976710656 / 2 ^ n / 2 := by rw [Nat.pow_succ, ← Nat.div_div_eq_div_mul]
      have hr : riter p false (n + 1) = rstep p false (riter p false n) n := rfl
      have hy := or_sum p false n h49
      have hyl := or_lt49 hlt h49
      have hpos : 0 < 2 ^ (48 - n) := Nat.pow_pos (by decide)
      unfold rstep at hr
      generalize riter p false n = x at *
      rw [hb] at hb2 ⊢
      generalize 2 ^ (48 - n) = b at *
      rw [hy] at hr hyl
      obtain ⟨y, hye⟩ : ∃ y, y = x + b := ⟨_, rfl⟩
      rw [← hye] at hr hyl
      have hyi : IntKind.u64.wrap ((x : Int) + (b : Int)) = (y : Int) := by unfold B49 at hyl; rw [u64_small _ (by omega) (by omega)]; omega
      have hb0 : decide ((0 : Int) < (b : Int)) = true := by simp; omega
      have hbw : IntKind.u64.wrap ((b : Int) / 2) = (b : Int) / 2 := by unfold B49 at hyl; rw [u64_small _ (by omega) (by omega)]
      have hbi : (0 : Int) < (b : Int) := by omega
      have Hr := Lib.hid hr
      have Hyl := Lib.hid hyl
      have Hb2 := Lib.hid hb2
      have Hpos := Lib.hid hpos
      clear hr hyl hb2 hb hy hye hlt hpos
      go_wp2_with fail
      refine (below_any y p (small49 Hyl.out) _).mono ?_
      rintro e w' ⟨rfl, rfl⟩
      cases hab : abv y p
      all_goals
        have Hab := Lib.hid hab
        clear hab
        go_wp2_with fail
        go_roundw
        case rel => exact ⟨n + 1, by omega, by rw [Hr.out]; simp [rbit, Hab.out], by rw [Hb2.out, Int.natCast_ediv]; rfl, by first | rfl | trivial⟩
        case measure => have := Hpos.out; simp [intOf]; omega
    · obtain rfl : n = 49 := by omega
      have hb : 281474976710656 / 2 ^ 49 = 0 := by decide
      rw [hb]
      generalize hx : riter p false 49 = x at *
      have hm : IntKind.u32.wrap ((x : Int) % 4294967296) = I32 (UInt32.ofNat x) := by
        rw [← I32_mod, Int.natCast_emod]
        rw [IntKind.wrap_u32']; omega
      have hm2 : (x : Int) % 4294967296 = I32 (UInt32.ofNat x) := by rw [← I32_mod, Int.natCast_emod]; rfl
      clear hlt
      go_wp2_with fail
      go_ret
      exact ⟨rfl, rfl⟩
theorem rbit_big (p y : Nat) (hp : p < 4294967296) (hy : 8796093022208 ≤ y) : rbit p true y = false := by
  unfold rbit
  by_cases h : y < 17592186044416
  · have h1 : 8796093022208 * 8796093022208 ≤ y * y := Nat.mul_le_mul hy hy
    have h2 : 8796093022208 * 8796093022208 * 8796093022208 ≤ y * y * y := Nat.mul_le_mul h1 hy
    have h3 : p * 4294967296 * K64 ≤ 4294967295 * 4294967296 * K64 := Nat.mul_le_mul_right _ (Nat.mul_le_mul_right _ (by omega))
    have hab : abc y p = true := by
      unfold abc
      simp only [decide_eq_true_iff]
      have h4 : 4294967295 * 4294967296 * K64 < 8796093022208 * 8796093022208 * 8796093022208 := by unfold K64; omega
      exact Nat.lt_of_lt_of_le (Nat.lt_of_le_of_lt h3 h4) h2
    simp [hab]
  · simp [h]
theorem riter6 (p : Nat) (hp : p < 4294967296) : riter p true 6 = 0 := by
  have step : ∀ i, i < 6 → riter p true i = 0 → riter p true (i + 1) = 0 := fun i hi h => by
    show rstep p true (riter p true i) i = 0
    rw [h]
    unfold rstep
    rw [Nat.zero_or, rbit_big p _ hp]
    · rfl
    · exact Nat.pow_le_pow_right (show 0 < 2 by decide) (show 43 ≤ 48 - i by omega)
  exact step 5 (by omega) (step 4 (by omega) (step 3 (by omega) (step 2 (by omega) (step 1 (by omega) (step 0 (by omega) rfl)))))
theorem or_lt43 {x n : Nat} (hx : x < 8796093022208) (hn : 6 ≤ n) : x ||| 2 ^ (48 - n) < 8796093022208 := by
  have hx' : x < 2 ^ 43 := hx
  show _ < 2 ^ 43
  exact Nat.or_lt_two_pow hx' (Nat.pow_lt_pow_right (by decide) (by omega))
theorem riter_lt3 (p : Nat) (hp : p < 4294967296) (n : Nat) (h6 : 6 ≤ n) (hn : n ≤ 49) : riter p true n < 8796093022208 := by
  induction n with
  | zero => omega
  | succ n ih =>
    by_cases h : n + 1 = 6
    · rw [h, riter6 p hp]; omega
    · have ih := ih (by omega) (by omega)
      show rstep p true (riter p true n) n < _
      unfold rstep
      split
      · exact or_lt43 ih (by omega)
      · exact ih

set_option maxRecDepth 100000 in
set_option maxHeartbeats 1000000 in
theorem rrootC_any (p : Nat) (hp : p < 4294967296) (w : World) :
    Calls Tryd.prog 115 #[.int .u32 p, .bool true] w fun e w' => e = .returned (.int .u32 (I32 (UInt32.ofNat (riter p true 49)))) ∧ w' = w := by
  have Hp := Lib.hid hp
  have hp2 : IntKind.u64.wrap (p : Int) = (p : Int) := u64_small _ (by omega) (by omega)
  clear hp
  go_enter Tryd.func115, Tryd.ntmps115
  go_wp2_with fail
  go_loopw [5, 6] (fun x b w1 => ∃ n : Nat, n ≤ 49 ∧ 6 ≤ n ∧ x = .int .u64 (riter p true n) ∧ b = .int .u64 ((281474976710656 / 2 ^ n : Nat) : Int) ∧ w1 = w) (fun _ b _ => (intOf b).toNat)
  case atStart => exact ⟨6, by omega, by omega, by rw [riter6 p Hp.out]; rfl, rfl, rfl⟩
  case round =>
    obtain ⟨n, hn, hn6, rfl, rfl, rfl⟩ := hrel
    have hlt := riter_lt p true n hn
    have hlt3 := riter_lt3 p Hp.out n hn6 hn
    by_cases h49 : n < 49
    · have hb : 281474976710656 / 2 ^ n = 2 ^ (48 - n) := by
        rw [show (281474976710656 : Nat) = 2 ^ 48 from rfl, Nat.pow_div (by omega) (by decide)]
      have hb2 : 281474976710656 / 2 ^ (n + 1) = 281474976710656 / 2 ^ n / 2 := by rw [Nat.pow_succ, ← Nat.div_div_eq_div_mul]
      have hr : riter p true (n + 1) = rstep p true (riter p true n) n := rfl
      have hy := or_sum p true n h49
      have hyl := or_lt49 hlt h49
      have hyl3 := or_lt43 hlt3 hn6
      have hpos : 0 < 2 ^ (48 - n) := Nat.pow_pos (by decide)
      unfold rstep at hr
      generalize riter p true n = x at *
      rw [hb] at hb2 ⊢
      generalize 2 ^ (48 - n) = b at *
      rw [hy] at hr hyl hyl3
      obtain ⟨y, hye⟩ : ∃ y, y = x + b := ⟨_, rfl⟩
      rw [← hye] at hr hyl hyl3
      have hyi : IntKind.u64.wrap ((x : Int) + (b : Int)) = (y : Int) := by unfold B49 at hyl; rw [u64_small _ (by omega) (by omega)]; omega
      have hb0 : decide ((0 : Int) < (b : Int)) = true := by simp; omega
      have hbw : IntKind.u64.wrap ((b : Int) / 2) = (b : Int) / 2 := by unfold B49 at hyl; rw [u64_small _ (by omega) (by omega)]
      have hbi : (0 : Int) < (b : Int) := by omega
      have Hr := Lib.hid hr
      have Hyl := Lib.hid hyl
      have Hyl3 := Lib.hid hyl3
      have Hb2 := Lib.hid hb2
      have Hpos := Lib.hid hpos
      clear hr hyl hyl3 hb2 hb hy hye hlt hlt3 hpos
      go_wp2_with fail
      refine (cubeBelow_any y p (by have := Hyl3.out; omega) Hp.out _).mono ?_
      rintro e w' ⟨rfl, rfl⟩
      cases hab : abc y p
      all_goals
        have Hab := Lib.hid hab
        clear hab
        go_wp2_with fail
        go_roundw
        case rel => exact ⟨n + 1, by omega, by omega, by have h4 := Hyl3.out; rw [Hr.out]; simp [rbit, Hab.out, show y < 17592186044416 by omega], by rw [Hb2.out, Int.natCast_ediv]; rfl, by first | rfl | trivial⟩
        case measure => have := Hpos.out; simp [intOf]; omega
    · obtain rfl : n = 49 := by omega
      have hb : 281474976710656 / 2 ^ 49 = 0 := by decide
      rw [hb]
      generalize hx : riter p true 49 = x at *
      have hm : IntKind.u32.wrap ((x : Int) % 4294967296) = I32 (UInt32.ofNat x) := by
        rw [← I32_mod, Int.natCast_emod]
        rw [IntKind.wrap_u32']; omega
      have hm2 : (x : Int) % 4294967296 = I32 (UInt32.ofNat x) := by rw [← I32_mod, Int.natCast_emod]; rfl
      clear hlt hlt3
      go_wp2_with fail
      go_ret
      exact ⟨rfl, rfl⟩
end Go.Proofs.YtoankokkdmbjmaaDoor
/- The walks of the reference's Words, Prime and Pad. -/
namespace Go.Proofs.YtoankokkdmbjmaaDoor
open Go.RowKit Go.Lib

set_option maxRecDepth 100000 in
set_option maxHeartbeats 1000000 in
theorem rwords_any (w : World) :
    Calls Tryd.prog 114 #[] w fun e w' => e = .returned (.agg (wArr kw 64 64)) ∧ Below w.heap.size w w' := by
  go_enter Tryd.func114, Tryd.ntmps114
  go_wp2_with fail
  refine abs_world ?_
  intro w1 hw1
  have h0 : Blk w1 w.heap.size 155 (wArr kw 0 64) := by
    rw [hw1]; exact (Blk.new_at _ _ _ _ _ rfl rfl).alloc _
  have h1 : Blk w1 (w.heap.size + 1) 155 (wArr kw 0 64) := by
    rw [hw1]; exact Blk.new_at _ _ _ _ _ (by simp) rfl
  have hl : Below w.heap.size w w1 := by
    rw [hw1]; exact ((Below.refl _ _).alloc (Nat.le_refl _) _).alloc (by simp) _
  clear hw1
  have H0 := Lib.hid h0
  have H1 := Lib.hid h1
  have Hl := Lib.hid hl
  clear h0 h1 hl
  go_loopw [2, 3] (fun i q wr => ∃ n k : Nat, i = .int .i64 k ∧ q = .int .u32 ((n + 2 : Nat) : Int) ∧ k = (pls n).length ∧ n ≤ 310 ∧ k ≤ 64 ∧ Blk wr (w.heap.size + 1) 155 (wArr kw k 64) ∧ Only (w.heap.size + 1) w1 wr) (fun _ q _ => 400 - (intOf q).toNat)
  case atStart => exact ⟨0, 0, rfl, rfl, rfl, by omega, by omega, H1.out, Only.refl _ _⟩
  case round =>
    obtain ⟨n, k, rfl, rfl, hkn, hn, hk, hb, ho⟩ := hrel
    have Hb := Lib.hid hb
    have Ho := Lib.hid ho
    have Hkn := Lib.hid hkn
    clear hb ho hkn
    by_cases h64 : k < 64
    · have hk64 : decide ((k : Int) < 64) = true := by simp; omega
      have hn3 : n < 310 := by
        rcases Nat.lt_or_ge n 310 with h | h
        · exact h
        · have h1 : n = 310 := by omega
          have h2 := Hkn.out
          rw [h1, pls_310] at h2
          omega
      obtain ⟨p, hp⟩ : ∃ p, p = n + 2 := ⟨_, rfl⟩
      rw [← hp]
      have Hp := Lib.hid hp
      have hp2 : 2 ≤ p := by omega
      have hp3 : p ≤ 311 := by omega
      clear hp
      go_wp2_with fail
      refine (whole_any p hp2 hp3 _).mono ?_
      rintro e w' ⟨rfl, rfl⟩
      cases hbp : isP p
      · have Hbp := Lib.hid hbp
        clear hbp
        go_wp2_with fail
        go_roundw
        case rel => exact ⟨n + 1, k, rfl, by rw [Hp.out]; simp; omega, by rw [pls_step, ← Hp.out, Hbp.out]; exact Hkn.out, by omega, by omega, Hb.out, Ho.out⟩
        case measure => simp [intOf]; omega
      · have hc := (Hb.out.cell k).trans (wArr_at _ _ _ _ h64)
        have hf := Hb.out.frozen k
        have hkw : UInt32.ofNat (riter p true 49) = kw k := by rw [Hp.out, Hkn.out]; exact kw_at hn3 (by rw [← Hp.out]; exact hbp)
        have Hkw := Lib.hid hkw
        have Hbp := Lib.hid hbp
        clear hkw hbp
        go_wp2_with fail
        refine (rrootC_any p (by omega) _).mono ?_
        rintro e w'' ⟨rfl, rfl⟩
        rw [Hkw.out]
        go_wp2_with fail
        go_roundw
        case rel => exact ⟨n + 1, k + 1, by go_num, by rw [Hp.out]; simp; omega, by rw [pls_step, ← Hp.out, Hbp.out]; simp [← Hkn.out], by omega, by omega, by have := Hb.out.set_ k (.int .u32 (I32 (kw k))); rwa [wArr_set] at this, Ho.out.set_ _ _⟩
        case measure => simp [intOf]; omega
    · obtain rfl : k = 64 := by omega
      have hk64 : decide (((64 : Nat) : Int) < 64) = false := by decide
      have hi : (Tryd.prog.info? 155).map (·.size) = some (wArr kw 64 64).size := by rw [wArr_size]; exact info64
      have hz := Ho.out.blk H0.out (by omega)
      have Hz := Lib.hid hz
      have Hi := Lib.hid hi
      clear hz hi
      go_wp2_with (first
        | (refine wpList_load_row rfl 155 (.tmp 1) rfl (w.heap.size + 1) rfl 155 (wArr kw 64 64) (0, 0) _ Hb.out Tryd.underlying155 rfl Hi.out ?_)
        | (refine wpList_store_row rfl 155 (.tmp 0) (.tmp 16) rfl w.heap.size (wArr kw 64 64) rfl rfl 155 (wArr kw 0 64) Hz.out Hi.out (by rw [wArr_size, wArr_size]) (wArr_one _ _ _) ?_))
      refine bodyPost_ret (v := .agg (wArr kw 64 64)) (results_cell_row (t := 155) (fr := (0, 0)) rfl _ _ w.heap.size _ _ rfl (setRow_heap _ _ _ _ _ _ Hz.out) Tryd.underlying155 rfl Hi.out) rfl ⟨rfl, ?_⟩
      exact below_setRow (Hl.out.trans (Ho.out.below (by omega) (by have := H1.out.lt; omega))) (Nat.le_refl _) _

set_option maxRecDepth 100000 in
set_option maxHeartbeats 1000000 in
theorem rprime_any (i : Nat) (hi : i < 8) (w : World) :
    Calls Tryd.prog 116 #[.int .i64 i] w fun e w' => e = .returned (.int .u32 ((prm i : Nat) : Int)) ∧ w' = w := by
  have hi99 : (i : Int) ≤ 99 := by omega
  go_enter Tryd.func116, Tryd.ntmps116
  go_wp2_with fail
  go_loopw [3, 4] (fun q c wr => ∃ n k : Nat, c = .int .i64 ((k : Int) - 1) ∧ q = .int .u32 ((n + 1 : Nat) : Int) ∧ k = (pls n).length ∧ n ≤ 18 ∧ k ≤ i + 1 ∧ (k = i + 1 → prm i = n + 1) ∧ wr = w) (fun q _ _ => 400 - (intOf q).toNat)
  case atStart => exact ⟨0, 0, rfl, rfl, rfl, by omega, by omega, fun h => absurd h (by omega), rfl⟩
  case round =>
    obtain ⟨n, k, rfl, rfl, hkn, hn, hk, hpr, rfl⟩ := hrel
    have Hkn := Lib.hid hkn
    have Hpr := Lib.hid hpr
    clear hkn hpr
    by_cases hlt : k < i + 1
    · have hd : decide ((k : Int) - 1 < (i : Int)) = true := by simp; omega
      have hd2 : (k : Int) - 1 < (i : Int) := by omega
      have hn17 : n < 18 := by
        rcases Nat.lt_or_ge n 18 with h | h
        · exact h
        · have h1 : n = 18 := by omega
          have h2 := Hkn.out
          rw [h1, pls_18] at h2
          omega
      obtain ⟨p, hp⟩ : ∃ p, p = n + 2 := ⟨_, rfl⟩
      have hpi : ((n + 1 : Nat) : Int) + 1 = (p : Int) := by omega
      have hpi2 : (n : Int) + 1 + 1 = (p : Int) := by omega
      have Hp := Lib.hid hp
      have hp2 : 2 ≤ p := by omega
      have hp3 : p ≤ 311 := by omega
      have hpw : (p : Int) < 4294967296 := by omega
      clear hp
      go_wp2_with fail
      refine (whole_any p hp2 hp3 _).mono ?_
      rintro e w' ⟨rfl, rfl⟩
      cases hbp : isP p
      · have Hbp := Lib.hid hbp
        clear hbp
        go_wp2_with fail
        go_roundw
        case rel => exact ⟨n + 1, k, rfl, by rw [Hp.out], by rw [pls_step, ← Hp.out, Hbp.out]; exact Hkn.out, by omega, by omega, fun h => absurd h (by omega), by first | rfl | trivial⟩
        case measure => simp [intOf]; omega
      · have Hbp := Lib.hid hbp
        clear hbp
        go_wp2_with fail
        go_roundw
        case rel =>
          refine ⟨n + 1, k + 1, by congr 1; omega, by rw [Hp.out], by rw [pls_step, ← Hp.out, Hbp.out]; simp [← Hkn.out], by omega, by omega, fun h => ?_, by first | rfl | trivial⟩
          have hik : i = k := by omega
          rw [hik, Hkn.out]
          exact prm_at (by omega) (by rw [← Hp.out]; exact Hbp.out)
        case measure => simp [intOf]; omega
    · have hd : decide ((k : Int) - 1 < (i : Int)) = false := by simp; omega
      have hd2 : ¬ (k : Int) - 1 < (i : Int) := by omega
      have hpp := Hpr.out (by omega)
      have Hpp := Lib.hid hpp
      clear hpp
      go_wp2_with fail
      go_ret
      exact ⟨by rw [Hpp.out]; rfl, rfl⟩
end Go.Proofs.YtoankokkdmbjmaaDoor
/- The walk of the reference's Mix. -/
namespace Go.Proofs.YtoankokkdmbjmaaDoor
open Go.RowKit Go.Lib

theorem be4_sum (a b c d : UInt8) : (((I8 a * 16777216 % 4294967296 + I8 b * 65536 % 4294967296) % 4294967296 + I8 c * 256 % 4294967296) % 4294967296 + I8 d) % 4294967296 = I32 (be4 a b c d) := by
  have ha := a.toNat_lt
  have hb := b.toNat_lt
  have hc := c.toNat_lt
  have hd := d.toNat_lt
  unfold be4
  rw [I32_ofNat (by omega)]
  unfold I8
  omega
theorem be4_sum' (a b c d : UInt8) : (I8 a * 16777216 + I8 b * 65536 + I8 c * 256 + I8 d) % 4294967296 = I32 (be4 a b c d) := by
  have ha := a.toNat_lt
  have hb := b.toNat_lt
  have hc := c.toNat_lt
  have hd := d.toNat_lt
  unfold be4
  rw [I32_ofNat (by omega)]
  unfold I8
  omega
theorem sOf_at (z : St) (j : Nat) (h : j < 8) : (sOf z)[j]? = some (.int .u32 (I32 (z.at j))) := by
  have := sArr_at z z 0 j h
  rw [if_neg (by omega)] at this
  exact this
theorem info8w : (Tryd.prog.info? 157).map (·.size) = some 8 := by kernel_rfl
theorem sArr_one (s z : St) (j : Nat) : (sArr s z j).all (·.oneCell') = true := by
  unfold sArr
  simp [Value.oneCell']

set_option maxRecDepth 100000 in
set_option maxHeartbeats 2000000 in
theorem rmix_any (ks : Nat → UInt32) (s : St) (B : List UInt8) (hB : B.length = 64) (w : World) :
    Calls Tryd.prog 118 #[.agg (wArr ks 64 64), agg8 s, .string ⟨B.toArray⟩] w fun e w' => e = .returned (agg8 (mixS ks s (fun j => gt B j))) ∧ Below w.heap.size w w' := by
  obtain ⟨bs, hbs⟩ : ∃ bs, bs = fun j => gt B j := ⟨_, rfl⟩
  rw [← hbs]
  have hBi : (B.length : Int) = 64 := by omega
  have Hbs := Lib.hid hbs
  have HBi := Lib.hid hBi
  clear hbs hB hBi
  unfold agg8
  generalize hKW : wArr ks 64 64 = KW
  have HKW := Lib.hid hKW
  clear hKW
  go_enter Tryd.func118, Tryd.ntmps118
  go_wp2_with fail
  refine abs_world ?_
  intro w1 hw1
  have hk : Blk w1 w.heap.size 155 (wArr ks 64 64) := by
    rw [hw1, HKW.out]; exact (((Blk.new _ _ _).alloc _).alloc _).alloc _
  have h0 : Blk w1 (w.heap.size + 1) 157 (sOf s) := by
    rw [hw1]; exact ((Blk.new_at _ _ _ _ _ (by simp) rfl).alloc _).alloc _
  have h1 : Blk w1 (w.heap.size + 2) 157 (sOf ⟨0, 0, 0, 0, 0, 0, 0, 0⟩) := by
    rw [hw1]; exact (Blk.new_at _ _ _ _ _ (by simp) rfl).alloc _
  have h2 : Blk w1 (w.heap.size + 3) 155 (wArr (sch bs) 0 64) := by
    rw [hw1]; exact Blk.new_at _ _ _ _ _ (by simp) rfl
  have hl : Below w.heap.size w w1 := by
    rw [hw1]; exact ((((Below.refl _ _).alloc (Nat.le_refl _) _).alloc (by simp) _).alloc (by simp; omega) _).alloc (by simp; omega) _
  clear hw1
  try simp only [Nat.add_assoc, Nat.reduceAdd]
  obtain ⟨g, hg⟩ : ∃ g, g = w.heap.size + 3 := ⟨_, rfl⟩
  rw [← hg] at h2 ⊢
  have Hk := Lib.hid hk
  have H0 := Lib.hid h0
  have H1 := Lib.hid h1
  have H2 := Lib.hid h2
  have Hl := Lib.hid hl
  have Hg := Lib.hid hg
  clear hk h0 h1 h2 hl hg
  go_loopw [8] (fun i wr => ∃ t : Nat, i = .int .i64 t ∧ t ≤ 16 ∧ Blk wr g 155 (wArr (sch bs) t 64) ∧ Only g w1 wr) (fun i _ => 16 - (intOf i).toNat)
  case atStart => exact ⟨0, rfl, by omega, H2.out, Only.refl _ _⟩
  case round =>
    obtain ⟨t, rfl, ht, hb2, ho⟩ := hrel
    by_cases h16 : t < 16
    · have hd16 : decide ((t : Int) < 16) = true := by simp; omega
      have ht16 : (t : Int) < 16 := by omega
      have ht64 : (t : Int) < 64 := by omega
      have hBi := HBi.out
      have b0 : 4 * (t : Int) < 64 := by omega
      have b1 : 4 * (t : Int) + 1 < 64 := by omega
      have b2 : 4 * (t : Int) + 2 < 64 := by omega
      have b3 : 4 * (t : Int) + 3 < 64 := by omega
      have g0 : (0 : Int) ≤ 4 * (t : Int) := by omega
      have g1 : (0 : Int) ≤ 4 * (t : Int) + 1 := by omega
      have g2 : (0 : Int) ≤ 4 * (t : Int) + 2 := by omega
      have g3 : (0 : Int) ≤ 4 * (t : Int) + 3 := by omega
      have e0 : (4 * (t : Int)).toNat = 4 * t := by omega
      have e1 : (4 * (t : Int) + 1).toNat = 4 * t + 1 := by omega
      have e2 : (4 * (t : Int) + 2).toNat = 4 * t + 2 := by omega
      have e3 : (4 * (t : Int) + 3).toNat = 4 * t + 3 := by omega
      have hsum := be4_sum (gb B (4 * t)) (gb B (4 * t + 1)) (gb B (4 * t + 2)) (gb B (4 * t + 3))
      have hsum' := be4_sum' (gb B (4 * t)) (gb B (4 * t + 1)) (gb B (4 * t + 2)) (gb B (4 * t + 3))
      have c0 := (hb2.cell t).trans (by rw [wArr_at _ _ _ _ (show t < 64 by omega), if_neg (by omega)])
      have f0 := hb2.frozen t
      have Hb2 := Lib.hid hb2
      have Ho := Lib.hid ho
      clear hb2 ho
      go_wp2_with fail
      go_region
      go_wp2_with fail
      refine ⟨⟨t + 1, by go_num, by omega, ?_, (Ho.out.set_ _ _).drewN 1⟩, by simp [intOf]; omega⟩
      have := (Hb2.out.set_ t (.int .u32 (I32 (sch bs t)))).drewN 1
      rw [wArr_set, sch_lo bs h16, Hbs.out] at this
      rw [Hbs.out]
      exact this
    · have hd16 : decide ((t : Int) < 16) = false := by simp; omega
      have ht16 : t = 16 := by omega
      rw [ht16] at hb2
      have Hb2 := Lib.hid hb2
      have Ho := Lib.hid ho
      clear hb2 ho ht16
      go_wp2_with fail
      go_loopw [9] (fun i wr => ∃ t : Nat, i = .int .i64 t ∧ 16 ≤ t ∧ t ≤ 64 ∧ Blk wr g 155 (wArr (sch bs) t 64) ∧ Only g w1 wr) (fun i _ => 64 - (intOf i).toNat)
      case atStart => exact ⟨16, rfl, by omega, by omega, Hb2.out, Ho.out⟩
      case round =>
        obtain ⟨t, rfl, htl, htu, hb2, ho⟩ := hrel
        have Hb2 := Lib.hid hb2
        have Ho := Lib.hid ho
        clear hb2 ho
        by_cases h64 : t < 64
        · have hd64 : decide ((t : Int) < 64) = true := by simp; omega
          have c16 := (Hb2.out.cell (t - 16)).trans (by rw [wArr_at _ _ _ _ (show t - 16 < 64 by omega), if_pos (by omega)])
          have c15 := (Hb2.out.cell (t - 15)).trans (by rw [wArr_at _ _ _ _ (show t - 15 < 64 by omega), if_pos (by omega)])
          have c7 := (Hb2.out.cell (t - 7)).trans (by rw [wArr_at _ _ _ _ (show t - 7 < 64 by omega), if_pos (by omega)])
          have c2 := (Hb2.out.cell (t - 2)).trans (by rw [wArr_at _ _ _ _ (show t - 2 < 64 by omega), if_pos (by omega)])
          have c0 := (Hb2.out.cell t).trans (by rw [wArr_at _ _ _ _ (show t < 64 by omega), if_neg (by omega)])
          have f0 := Hb2.out.frozen t
          have ht64 : (t : Int) < 64 := by omega
          have w2 : IntKind.i64.wrap ((t : Int) - 2) = (t : Int) - 2 := IntWalk.i64_in _ (by omega)
          have n2 : (2 : Int) ≤ (t : Int) := by omega
          have l2 : (t : Int) - 2 < 64 := by omega
          have z2 : ((t : Int) - 2).toNat = t - 2 := by omega
          have w7 : IntKind.i64.wrap ((t : Int) - 7) = (t : Int) - 7 := IntWalk.i64_in _ (by omega)
          have n7 : (7 : Int) ≤ (t : Int) := by omega
          have l7 : (t : Int) - 7 < 64 := by omega
          have z7 : ((t : Int) - 7).toNat = t - 7 := by omega
          have w15 : IntKind.i64.wrap ((t : Int) - 15) = (t : Int) - 15 := IntWalk.i64_in _ (by omega)
          have n15 : (15 : Int) ≤ (t : Int) := by omega
          have l15 : (t : Int) - 15 < 64 := by omega
          have z15 : ((t : Int) - 15).toNat = t - 15 := by omega
          have w16 : IntKind.i64.wrap ((t : Int) - 16) = (t : Int) - 16 := IntWalk.i64_in _ (by omega)
          have n16 : (16 : Int) ≤ (t : Int) := by omega
          have l16 : (t : Int) - 16 < 64 := by omega
          have z16 : ((t : Int) - 16).toNat = t - 16 := by omega
          go_wp2_with fail
          go_quiet ((go_at_call 134; exact Calls.quiet_of_same (rturn_any _ _ _ (by omega) (by omega))))
          go_wp2_with fail
          go_quiet ((go_at_call 134; exact quiet_add_same (rturn_any _ _ _ (by omega) (by omega))))
          go_wp2_with fail
          go_region
          go_wp2_with fail
          have hx := fun n => (Hb2.out.drewN n).set_ t (.int .u32 (I32 (sch bs t)))
          simp only [wArr_set] at hx
          rw [sch_hi bs (by omega)] at hx
          exact ⟨⟨t + 1, by go_num, by omega, by omega, hx _, (Ho.out.drewN _).set_ _ _⟩, by simp [intOf]; omega⟩
        · have hd64 : decide ((t : Int) < 64) = false := by simp; omega
          have ht64 : t = 64 := by omega
          have hb64 := Hb2.out
          rw [ht64] at hb64
          have Hb64 := Lib.hid hb64
          have hs := Ho.out.blk H0.out (by have := Hg.out; omega)
          have s0 := hs.cell 0
          have s1 := hs.cell 1
          have s2 := hs.cell 2
          have s3 := hs.cell 3
          have s4 := hs.cell 4
          have s5 := hs.cell 5
          have s6 := hs.cell 6
          have s7 := hs.cell 7
          simp only [sOf, List.getElem?_toArray, List.getElem?_cons_zero, List.getElem?_cons_succ] at s0 s1 s2 s3 s4 s5 s6 s7
          have Hs := Lib.hid hs
          clear hs hb64 ht64
          go_wp2_with fail
          refine abs_world ?_
          intro w3 hw3
          obtain ⟨zb, hzb⟩ : ∃ zb, zb = wr.heap.size := ⟨_, rfl⟩
          rw [← hzb]
          have hwr : w.heap.size + 3 < wr.heap.size := by have := Hb2.out.lt; have := Hg.out; omega
          have hz3 : Blk w3 zb 157 (sOf s) := by rw [hw3, hzb]; exact Blk.new_at _ _ _ _ _ rfl rfl
          have hg3 : Blk w3 g 155 (wArr (sch bs) 64 64) := by rw [hw3]; exact Hb64.out.alloc _
          have hs3 : Blk w3 (w.heap.size + 1) 157 (sOf s) := by rw [hw3]; exact Hs.out.alloc _
          have hr3 : Blk w3 (w.heap.size + 2) 157 (sOf ⟨0, 0, 0, 0, 0, 0, 0, 0⟩) := by rw [hw3]; exact (Ho.out.blk H1.out (by have := Hg.out; omega)).alloc _
          have hk3 : Blk w3 w.heap.size 155 (wArr ks 64 64) := by rw [hw3]; exact (Ho.out.blk Hk.out (by have := Hg.out; omega)).alloc _
          have hB3 : Below w.heap.size w w3 := by
            rw [hw3]; exact (Hl.out.trans (Ho.out.below (by have := Hg.out; omega) (by have := Hk.out.lt; omega))).alloc (by omega) _
          have Hz3 := Lib.hid hz3
          have Hg3 := Lib.hid hg3
          have Hs3 := Lib.hid hs3
          have Hr3 := Lib.hid hr3
          have Hk3 := Lib.hid hk3
          have HB3 := Lib.hid hB3
          have Hzb : Hid (w.heap.size + 3 < zb ∧ g < zb) := Lib.hid ⟨by omega, by have := Hb2.out.lt; omega⟩
          clear hw3 hz3 hg3 hs3 hr3 hk3 hB3 hzb hwr s0 s1 s2 s3 s4 s5 s6 s7
          go_loopw [13] (fun i w4 => ∃ t : Nat, i = .int .i64 t ∧ t ≤ 64 ∧ Blk w4 zb 157 (sOf (rnd ks (sch bs) s t)) ∧ Only zb w3 w4) (fun i _ => 64 - (intOf i).toNat)
          case atStart => exact ⟨0, rfl, by omega, Hz3.out, Only.refl _ _⟩
          case round =>
            obtain ⟨t, rfl, htu, hz, ho⟩ := hrel
            obtain ⟨z, hze⟩ : ∃ z, z = rnd ks (sch bs) s t := ⟨_, rfl⟩
            rw [← hze] at hz
            have Hze := Lib.hid hze
            clear hze
            by_cases h64 : t < 64
            · have hd64 : decide ((t : Int) < 64) = true := by simp; omega
              have ht64 : (t : Int) < 64 := by omega
              have z0 := hz.cell 0
              have z1 := hz.cell 1
              have z2 := hz.cell 2
              have z3 := hz.cell 3
              have z4 := hz.cell 4
              have z5 := hz.cell 5
              have z6 := hz.cell 6
              have z7 := hz.cell 7
              simp only [sOf, List.getElem?_toArray, List.getElem?_cons_zero, List.getElem?_cons_succ] at z0 z1 z2 z3 z4 z5 z6 z7
              have y0 := hz.frozen 0
              have y1 := hz.frozen 1
              have y2 := hz.frozen 2
              have y3 := hz.frozen 3
              have y4 := hz.frozen 4
              have y5 := hz.frozen 5
              have y6 := hz.frozen 6
              have y7 := hz.frozen 7
              have hne1 : w.heap.size ≠ zb := by have := Hzb.out; omega
              have hne2 : g ≠ zb := by have := Hzb.out; omega
              have ck := ((ho.blk Hk3.out hne1).cell t).trans (by rw [wArr_at _ _ _ _ h64, if_pos h64])
              have cw := ((ho.blk Hg3.out hne2).cell t).trans (by rw [wArr_at _ _ _ _ h64, if_pos h64])
              have Hz := Lib.hid hz
              have Ho4 := Lib.hid ho
              clear hz ho
              go_wp2_with fail
              go_quiet ((go_at_call 134; first | exact Calls.quiet_of_same (rturn_any _ _ _ (by omega) (by omega)) | exact quiet_add_same (rturn_any _ _ _ (by omega) (by omega))))
              go_wp2_with fail
              go_quiet ((go_at_call 134; first | exact Calls.quiet_of_same (rturn_any _ _ _ (by omega) (by omega)) | exact quiet_add_same (rturn_any _ _ _ (by omega) (by omega))))
              go_wp2_with fail
              refine ⟨⟨t + 1, by go_num, by omega, ?_, ((((((((Ho4.out.drewN _).set_ 0 _).set_ 1 _).set_ 2 _).set_ 3 _).set_ 4 _).set_ 5 _).set_ 6 _).set_ 7 _⟩, by simp [intOf]; omega⟩
              show Blk _ zb _ (sOf (stp (ks t) (sch bs t) (rnd ks (sch bs) s t)))
              rw [← Hze.out]
              exact Blk.set8_same (Hz.out.drewN _) (stp (ks t) (sch bs t) z)
            · have hd64 : decide ((t : Int) < 64) = false := by simp; omega
              have ht64 : t = 64 := by omega
              have hm : mixS ks s bs = s.add z := by unfold mixS; rw [Hze.out, ht64]
              have Hm := Lib.hid hm
              have hs4 := ho.blk Hs3.out (by have := Hzb.out; omega)
              have hr4 := ho.blk Hr3.out (by have := Hzb.out; omega)
              have hB4 : Below w.heap.size w wr := HB3.out.trans (ho.below (by have := Hzb.out; omega) (by have := Hk3.out.lt; omega))
              have Hz := Lib.hid hz
              have Hs4 := Lib.hid hs4
              have Hr4 := Lib.hid hr4
              have HB4 := Lib.hid hB4
              clear hz ho hs4 hr4 hB4 hm ht64
              go_wp2_with fail
              go_loopw [16] (fun i w5 => ∃ j : Nat, i = .int .i64 j ∧ j ≤ 8 ∧ Blk w5 (w.heap.size + 1) 157 (sArr s z j) ∧ Only (w.heap.size + 1) wr w5) (fun i _ => 8 - (intOf i).toNat)
              case atStart => exact ⟨0, rfl, by omega, Hs4.out, Only.refl _ _⟩
              case round =>
                obtain ⟨j, rfl, hj, hb5, ho5⟩ := hrel
                by_cases h8 : j < 8
                · have hd8 : decide ((j : Int) < 8) = true := by simp; omega
                  have hj8 : (j : Int) < 8 := by omega
                  have hc := (hb5.cell j).trans (by rw [sArr_at _ _ _ _ h8, if_neg (by omega)])
                  have hf := hb5.frozen j
                  have hzc := ((ho5.blk Hz.out (by have := Hzb.out; omega)).cell j).trans (sOf_at z j h8)
                  have Hb5 := Lib.hid hb5
                  have Ho5 := Lib.hid ho5
                  clear hb5 ho5
                  go_wp2_with fail
                  go_region
                  go_wp2_with fail
                  refine ⟨⟨j + 1, by go_num, by omega, ?_, (Ho5.out.set_ _ _).drewN 1⟩, by simp [intOf]; omega⟩
                  have := (Hb5.out.set_ j (.int .u32 (I32 (s.at j + z.at j)))).drewN 1
                  rw [sArr_set] at this
                  exact this
                · have hd8 : decide ((j : Int) < 8) = false := by simp; omega
                  have hj8 : j = 8 := by omega
                  rw [hj8] at hb5
                  have hr5 := ho5.blk Hr4.out (by omega)
                  have hi8 : (Tryd.prog.info? 157).map (·.size) = some (sArr s z 8).size := by rw [sArr_size]; exact info8w
                  have hB5 : Below w.heap.size w wr := HB4.out.trans (ho5.below (by omega) (by have := Hs4.out.lt; omega))
                  have Hb5 := Lib.hid hb5
                  have Hr5 := Lib.hid hr5
                  have Hi8 := Lib.hid hi8
                  have HB5 := Lib.hid hB5
                  clear hb5 ho5 hr5 hi8 hB5 hj8
                  go_wp2_with (first
                    | (refine wpList_load_row rfl 157 (.tmp 4) rfl (w.heap.size + 1) rfl 157 (sArr s z 8) (0, 0) _ Hb5.out Tryd.underlying157 rfl Hi8.out ?_)
                    | (refine wpList_store_row rfl 157 (.tmp 6) (.tmp 207) rfl (w.heap.size + 2) (sArr s z 8) rfl rfl 157 (sOf ⟨0, 0, 0, 0, 0, 0, 0, 0⟩) Hr5.out Hi8.out (by rw [sArr_size]; rfl) (sArr_one _ _ _) ?_))
                  refine bodyPost_ret (v := .agg (sArr s z 8)) (results_cell_row (t := 157) (fr := (0, 0)) rfl _ _ (w.heap.size + 2) _ _ rfl (setRow_heap _ _ _ _ _ _ Hr5.out) Tryd.underlying157 rfl Hi8.out) rfl ⟨by rw [Hm.out]; rfl, ?_⟩
                  exact below_setRow HB5.out (by omega) _
end Go.Proofs.YtoankokkdmbjmaaDoor
/- The walk of the reference's Pad. -/
namespace Go.Proofs.YtoankokkdmbjmaaDoor
open Go.RowKit Go.Lib

/-- the last j of a number's bytes, the highest first -/
def revL (M : Nat) : Nat → List UInt8
  | 0 => []
  | j + 1 => UInt8.ofNat (M / 256 ^ j) :: revL M j
theorem revL_length (M j : Nat) : (revL M j).length = j := by
  induction j with
  | zero => rfl
  | succ j ih => simp [revL, ih]
theorem revL_8 (M : Nat) : revL M 8 = be8 M 8 := rfl
theorem u8_mod' (m : Nat) : UInt8.ofNat (m % 256) = UInt8.ofNat m := by
  apply UInt8.toNat_inj.1
  rw [UInt8.toNat_ofNat', UInt8.toNat_ofNat']
  omega

set_option maxRecDepth 100000 in
set_option maxHeartbeats 1000000 in
theorem rpad_any (n : Nat) (hn : n ≤ 1099511627776) (w : World) :
    Calls Tryd.prog 117 #[.int .i64 n] w fun e w' => e = .returned (.string ⟨(padL n).toArray⟩) ∧ Below w.heap.size w w' := by
  have hneg : ¬ (n : Int) < 0 := by omega
  go_enter Tryd.func117, Tryd.ntmps117
  go_wp2_with fail
  go_loopw [3] (fun s wr => ∃ (k : Nat) (S : List UInt8), s = .string ⟨S.toArray⟩ ∧ S = 128 :: List.replicate k 0 ∧ k ≤ zc n ∧ wr = w) (fun s _ => 200 - (match s with | .string b => b.size | _ => 0))
  case atStart => exact ⟨0, [128], rfl, rfl, by omega, rfl⟩
  case round =>
    obtain ⟨k, S, rfl, hS, hk, rfl⟩ := hrel
    have hz := zc_lt n
    have hSl : (S.length : Int) = 1 + (k : Int) := by rw [hS]; simp; omega
    have HS := Lib.hid hS
    clear hS
    by_cases hkz : k = zc n
    · have ht : (((n : Int) % 64 + (1 + (k : Int))) % 64 == 56) = true := by
        rw [beq_iff_eq]; unfold zc at hkz; omega
      have ht2 : ((n : Int) % 64 + (1 + (k : Int))) % 64 = 56 := by simpa using ht
      obtain ⟨M, hM⟩ : ∃ M, M = n * 8 := ⟨_, rfl⟩
      have hmul : IntKind.u64.wrap ((n : Int) * 8) = (M : Int) := by simp [IntKind.wrap, IntKind.bits, IntKind.signed]; omega
      have hw : IntKind.u64.wrap (n : Int) = (n : Int) := by simp [IntKind.wrap, IntKind.bits, IntKind.signed]; omega
      have hmul2 : (n : Int) * 8 = (M : Int) := by omega
      have HM := Lib.hid hM
      have Hkz := Lib.hid hkz
      clear hM hkz
      go_wp2_with fail
      have hMlt : M ≤ 8796093022208 := by have := HM.out; omega
      go_loopw [4, 5, 6] (fun m t iv w2 => ∃ j : Nat, iv = .int .i64 j ∧ j ≤ 8 ∧ t = .string ⟨(revL M j).toArray⟩ ∧ m = .int .u64 ((M / 256 ^ j : Nat) : Int) ∧ Below wr.heap.size wr w2) (fun _ _ i _ => 8 - (intOf i).toNat)
      case atStart => exact ⟨0, rfl, by omega, rfl, by simp, Below.refl _ _⟩
      case round =>
        obtain ⟨j, rfl, hj, rfl, rfl, hl⟩ := hrel
        obtain ⟨Q, hQ⟩ : ∃ Q, Q = M / 256 ^ j := ⟨_, rfl⟩
        have hQlt : Q ≤ 8796093022208 := by rw [hQ]; exact Nat.le_trans (Nat.div_le_self _ _) hMlt
        obtain ⟨T, hT⟩ : ∃ T, T = revL M j := ⟨_, rfl⟩
        rw [← hQ, ← hT]
        have HQ := Lib.hid hQ
        have HT := Lib.hid hT
        have Hl := Lib.hid hl
        clear hQ hT hl
        by_cases h8 : j < 8
        · have hd8 : decide ((j : Int) < 8) = true := by simp; omega
          obtain ⟨TN, hTN⟩ : ∃ TN, TN = [UInt8.ofNat (Q % 256)] ++ T := ⟨_, rfl⟩
          have ha : ∀ W, (Op.stringOp .add ⟨#[UInt8.ofNat (Q % 256)]⟩ ⟨T.toArray⟩).run Tryd.prog W = .ok (.string ⟨TN.toArray⟩) W := fun W => by
            rw [hTN]; exact str_add [UInt8.ofNat (Q % 256)] T (by rw [HT.out, revL_length]; simp; omega) W
          have hE : TN = revL M (j + 1) := by rw [hTN, u8_mod', HT.out, HQ.out]; rfl
          have HE := Lib.hid hE
          clear hTN hE
          go_wp2_with fail
          go_roundw
          case rel =>
            refine ⟨j + 1, by go_num, by omega, by rw [HE.out], ?_, Hl.out.alloc Hl.out.size _⟩
            rw [HQ.out, Nat.pow_succ, ← Nat.div_div_eq_div_mul]; rfl
          case measure => simp [intOf]; omega
        · have hd8 : decide ((j : Int) < 8) = false := by simp; omega
          have hj8 : j = 8 := by omega
          obtain ⟨P, hP⟩ : ∃ P, P = S ++ T := ⟨_, rfl⟩
          have ha : ∀ W, (Op.stringOp .add ⟨S.toArray⟩ ⟨T.toArray⟩).run Tryd.prog W = .ok (.string ⟨P.toArray⟩) W := fun W => by
            rw [hP]; exact str_add S T (by rw [HT.out, revL_length, HS.out]; simp; omega) W
          have hE : padL n = P := by rw [hP, HS.out, HT.out, hj8, revL_8, HM.out, Hkz.out]; rfl
          have HE := Lib.hid hE
          clear hP hE hj8
          go_wp2_with fail
          go_ret
          exact ⟨by rw [HE.out]; rfl, Hl.out⟩
    · have ht : (((n : Int) % 64 + (1 + (k : Int))) % 64 == 56) = false := by
        rw [beq_eq_false_iff_ne]; unfold zc at hkz hk; omega
      have ht2 : ¬ ((n : Int) % 64 + (1 + (k : Int))) % 64 = 56 := by simpa using ht
      obtain ⟨SN, hSN⟩ : ∃ SN, SN = S ++ [0] := ⟨_, rfl⟩
      have ha : ∀ W, (Op.stringOp .add ⟨S.toArray⟩ ⟨#[0]⟩).run Tryd.prog W = .ok (.string ⟨SN.toArray⟩) W := fun W => by
        rw [hSN]; exact str_add S [0] (by rw [HS.out]; simp; omega) W
      have hE : SN = 128 :: List.replicate (k + 1) 0 := by
        rw [hSN, HS.out, List.cons_append]
        congr 1
        rw [List.replicate_succ', List.append_left_inj] <;> rfl
      have HE := Lib.hid hE
      have Hkz := Lib.hid hkz
      clear hSN hE hkz
      go_wp2_with fail
      go_roundw
      case rel => exact ⟨k + 1, SN, rfl, HE.out, by have := Hkz.out; omega, by first | rfl | trivial⟩
      case measure =>
        have h1 : SN.length = k + 2 := by rw [HE.out]; simp
        have h2 : S.length = k + 1 := by rw [HS.out]; simp
        simp [size_mk, h1, h2]
        omega
end Go.Proofs.YtoankokkdmbjmaaDoor
/- The walk of the reference's Sum. -/
namespace Go.Proofs.YtoankokkdmbjmaaDoor
open Go.RowKit Go.Lib

@[go_sem] theorem run_str4d {P : Program} (w : World) (src dst e : TypeId) (a b c d : Int) (cap g : Nat) (fr : Nat × Nat) (hg : g = w.heap.size) (hs : P.underlying src = some (.slice e)) (he : P.underlying e = some (.int .u8)) (hd : P.underlying dst = some .string) :
    (convert src dst (.slice (some ⟨g, 0, none⟩) 4 cap)).run P (w.alloc (.cells #[.int .u8 a, .int .u8 b, .int .u8 c, .int .u8 d] e fr)).drew = .ok (.string ⟨#[UInt8.ofNat a.toNat, UInt8.ofNat b.toNat, UInt8.ofNat c.toNat, UInt8.ofNat d.toNat]⟩) (w.alloc (.cells #[.int .u8 a, .int .u8 b, .int .u8 c, .int .u8 d] e fr)).drew := by
  subst hg
  rw [run_convert_bytes_arg (P := P) _ src e hs he w.heap.size 0 4 cap [a, b, c, d] rfl (fun i hi => by
    have : i = 0 ∨ i = 1 ∨ i = 2 ∨ i = 3 := by omega
    have h := World.cell?_alloc_mark w #[.int .u8 a, .int .u8 b, .int .u8 c, .int .u8 d] e fr i
    rcases this with rfl | rfl | rfl | rfl <;> simpa using h) dst hd]
  rfl
theorem I8_back' (u : UInt8) : UInt8.ofNat (I8 u).toNat = u := by
  show UInt8.ofNat u.toNat = u
  exact UInt8.ofNat_toNat
theorem tm0' (X : UInt32) : (I32 X).tmod 256 % 256 = I8 (UInt8.ofNat X.toNat) := by
  rw [← u32_byte0, Int.tmod_eq_emod_of_nonneg (I32_nonneg X)]
  omega
theorem tm1' (X : UInt32) (d : Nat) : (I32 X).tdiv (d : Int) % 256 = I8 (UInt8.ofNat (X.toNat / d)) := by
  rw [← u32_byte, Int.tdiv_eq_ediv_of_nonneg (I32_nonneg X)]
theorem extract_cut (l : List UInt8) (a b : Nat) : (ByteArray.mk l.toArray).extract a b = ⟨((l.take b).drop a).toArray⟩ := by
  apply ByteArray.ext
  simp [ByteArray.data_extract, List.drop_take]

theorem wpStill_load {P : Program} {ops : Array Oper} {w : World} {Q : Act → Prop} {rest : List Oper} {a : Act} {o : Oper} (hgd : o.guard = none) (ty : TypeId) (x : Operand) (ho : o.op = .load ty x)
    (g : Nat) (hx : a.eval x = .pointer (some ⟨g, 0, none⟩)) (cs : Array Value) (d : TypeDesc) (hS : w.rangeAt g 0 cs.toList)
    (hu : P.underlying ty = some d) (hd : d.isRow = true) (hi : (P.info? ty).map (·.size) = some cs.toList.length)
    (h : wpStill P ops w Q rest (a.put o.dst (.agg cs))) : wpStill P ops w Q (o :: rest) a :=
  wpStill_step (fun K hK => by
    have hw : Region.wanted o (yielded ops a.tmps) = true := by simp [Region.wanted, hgd]
    rw [if_pos hw]
    unfold Oper.still execOp
    simp only [ho, hx, Instr.loadAt, Instr.sureAddr, Sem.run_bind, Sem.run_pure, Result.andThen_ok, run_loadVar_mid w g 0 ty cs.toList d hS hu hd hi]
    exact ⟨rfl, hK _ h⟩)
theorem abs_q2 {F : Exit → Act → World → Prop} {e : Exit} {a : Act} {w : World} (h : ∀ w1, w1 = w → F e a w1) : F e a w := h w rfl
theorem RA {w : World} {g : Nat} {t : TypeId} {cs : Array Value} (h : Blk w g t cs) : w.rangeAt g 0 cs.toList := fun j v hv => by
  rw [Nat.zero_add, h.cell j]; simpa using hv
set_option maxRecDepth 100000 in
set_option maxHeartbeats 4000000 in
theorem rsum_any (T : List UInt8) (w : World) (hT : T.length ≤ 549755813888) :
    Calls Tryd.prog 103 #[.string ⟨T.toArray⟩] w fun e w' => e = .returned (.string ⟨(dig T).toArray⟩) ∧ Below w.heap.size w w' := by
  go_enter Tryd.func103, Tryd.ntmps103
  go_wp2_with fail
  refine (rwords_any _).mono ?_
  rintro e w0 ⟨rfl, hl0⟩
  obtain ⟨KW, hKW⟩ : ∃ KW, KW = wArr kw 64 64 := ⟨_, rfl⟩
  rw [← hKW]
  have hks : KW.size = 64 := by rw [hKW, wArr_size]
  have hi64 : (Tryd.prog.info? 155).map (·.size) = some KW.size := by rw [hks]; exact info64
  have hone : KW.all (·.oneCell') = true := by rw [hKW]; exact wArr_one _ _ _
  have HKW := Lib.hid hKW
  have Hks := Lib.hid hks
  have Hi64 := Lib.hid hi64
  have Hone := Lib.hid hone
  have Hl0 := Lib.hid hl0
  clear hKW hks hi64 hone hl0
  go_wp2_with (refine wpList_store_row rfl 155 (.tmp 3) (.tmp 10) rfl w0.heap.size KW rfl rfl 155 (wArr kw 0 64) (Blk.new_at _ _ _ _ _ rfl rfl) Hi64.out (by rw [Hks.out, wArr_size]) Hone.out ?_)
  refine abs_world ?_
  intro w1 hw1
  obtain ⟨gk, hgk⟩ : ∃ gk, gk = w0.heap.size := ⟨_, rfl⟩
  rw [← hgk]
  have hk1 : Blk w1 gk 155 KW := by rw [hw1, hgk]; exact Blk.alloc (setRow_heap _ _ _ _ _ _ (Blk.new w0 155 (wArr kw 0 64))) _
  have hs1 : Blk w1 (gk + 1) 157 (wArr iw 0 8) := by rw [hw1, hgk]; exact Blk.new_at _ _ _ _ _ (by simp) rfl
  have hB1 : Below w.heap.size w w1 := by
    rw [hw1]; exact Below.alloc (below_setRow (Hl0.out.alloc Hl0.out.size _) Hl0.out.size _) (by have := Hl0.out.size; simp; omega) _
  have hgw : w.heap.size ≤ gk := by rw [hgk]; exact Hl0.out.size
  have Hk1 := Lib.hid hk1
  have Hs1 := Lib.hid hs1
  have HB1 := Lib.hid hB1
  clear hw1 hk1 hs1 hB1 hgk
  go_loopw [5] (fun i wr => ∃ j : Nat, i = .int .i64 j ∧ j ≤ 8 ∧ Blk wr (gk + 1) 157 (wArr iw j 8) ∧ Only (gk + 1) w1 wr) (fun i _ => 8 - (intOf i).toNat)
  case atStart => exact ⟨0, rfl, by omega, Hs1.out, Only.refl _ _⟩
  case round =>
    obtain ⟨j, rfl, hj, hb, ho⟩ := hrel
    by_cases h8 : j < 8
    · have hd8 : decide ((j : Int) < 8) = true := by simp; omega
      have hj8 : (j : Int) < 8 := by omega
      have hc := (hb.cell j).trans (wArr_at _ _ _ _ h8)
      have hf := hb.frozen j
      have Hb := Lib.hid hb
      have Ho := Lib.hid ho
      clear hb ho
      go_wp2_with fail
      refine (rprime_any j h8 _).mono ?_
      rintro e w2 ⟨rfl, rfl⟩
      go_wp2_with fail
      refine (rrootS_any (prm j) (prm_small h8) _).mono ?_
      rintro e w3 ⟨rfl, rfl⟩
      rw [show UInt32.ofNat (riter (prm j) false 49) = iw j from rfl]
      go_wp2_with fail
      go_roundw
      case rel => exact ⟨j + 1, by go_num, by omega, by have := Hb.out.set_ j (.int .u32 (I32 (iw j))); rwa [wArr_set] at this, Ho.out.set_ _ _⟩
      case measure => simp [intOf]; omega
    · have hd8 : decide ((j : Int) < 8) = false := by simp; omega
      have hj8 : j = 8 := by omega
      rw [hj8, wArr_iv] at hb
      have hk2 := ho.blk Hk1.out (by omega)
      have hB2 : Below w.heap.size w wr := HB1.out.trans (ho.below (by omega) (by have := Hk1.out.lt; omega))
      have hTi : (T.length : Int) = ((T.length : Nat) : Int) := rfl
      have Hb := Lib.hid hb
      have Hk2 := Lib.hid hk2
      have HB2 := Lib.hid hB2
      clear hb ho hk2 hB2 hj8 hTi
      go_wp2_with fail
      refine (rpad_any T.length (by omega) _).mono ?_
      rintro e w3 ⟨rfl, hl3⟩
      obtain ⟨M, hM⟩ : ∃ M, M = T ++ padL T.length := ⟨_, rfl⟩
      have hpl : (padL T.length).length < 200 := by rw [padL_length]; have := zc_lt T.length; omega
      have ha : ∀ W, (Op.stringOp .add ⟨T.toArray⟩ ⟨(padL T.length).toArray⟩).run Tryd.prog W = .ok (.string ⟨M.toArray⟩) W := fun W => by
        rw [hM]
        have := str_add T (padL T.length) (by omega) W
        exact this
      have hM64 : M.length % 64 = 0 := by rw [hM, List.length_append]; exact padL_whole _
      have hMl : M.length ≤ 2199023255552 := by rw [hM, List.length_append]; omega
      obtain ⟨PL, hPL⟩ : ∃ PL, PL = padL T.length := ⟨_, rfl⟩
      rw [← hPL] at ha ⊢
      have hb3 := Hb.out.below hl3 Hb.out.lt
      have hk3 := Hk2.out.below hl3 Hk2.out.lt
      have hB3 := HB2.out.trans (hl3.mono HB2.out.size)
      have HM := Lib.hid hM
      have HM64 := Lib.hid hM64
      have HMl := Lib.hid hMl
      have Hb3 := Lib.hid hb3
      have Hk3 := Lib.hid hk3
      have HB3 := Lib.hid hB3
      clear hl3 hM hM64 hMl hPL hpl hb3 hk3 hB3
      go_wp2_with fail
      go_loopw [7] (fun ix wr => ∃ q : Nat, ix = .int .i64 ((64 * q : Nat) : Int) ∧ 64 * q ≤ M.length ∧ Blk wr (gk + 1) 157 (sOf (fold kw iv (gt M) q)) ∧ Blk wr gk 155 KW ∧ Below w.heap.size w wr) (fun i _ => M.length - (intOf i).toNat)
      case atStart => exact ⟨0, rfl, by omega, Hb3.out, Hk3.out, HB3.out⟩
      case round =>
        obtain ⟨q, rfl, hq, hs4, hk4, hl⟩ := hrel
        obtain ⟨i, hi⟩ : ∃ i, i = 64 * q := ⟨_, rfl⟩
        rw [← hi]
        rw [← hi] at hq
        obtain ⟨F, hF⟩ : ∃ F, F = fold kw iv (gt M) q := ⟨_, rfl⟩
        rw [← hF] at hs4
        have HF := Lib.hid hF
        have Hi := Lib.hid hi
        have Hk4 := Lib.hid hk4
        have Hl := Lib.hid hl
        clear hF hi hk4 hl
        have hMl := HMl.out
        by_cases him : i < M.length
        · have hd : decide ((i : Int) < (M.length : Int)) = true := by simp; omega
          have him64 : i + 64 ≤ M.length := by have := Hi.out; have := HM64.out; omega
          have hw64 : IntKind.i64.wrap ((i : Int) + 64) = (i : Int) + 64 := by rw [IntKind.wrap_i64]; omega
          have ht64 : ((i : Int) + 64).toNat = i + 64 := by omega
          have hle64 : (i : Int) + 64 ≤ (M.length : Int) := by omega
          have hge64 : (0 : Int) ≤ (i : Int) + 64 := by omega
          have hii : (i : Int) ≤ (i : Int) + 64 := by omega
          obtain ⟨Bk, hBk⟩ : ∃ Bk, Bk = (M.take (i + 64)).drop i := ⟨_, rfl⟩
          have hx : (ByteArray.mk M.toArray).extract i (i + 64) = ⟨Bk.toArray⟩ := by rw [hBk]; exact extract_cut _ _ _
          have hBl : Bk.length = 64 := by rw [hBk, List.length_drop, List.length_take]; omega
          have s0 := hs4.cell 0
          have s1 := hs4.cell 1
          have s2 := hs4.cell 2
          have s3 := hs4.cell 3
          have s4 := hs4.cell 4
          have s5 := hs4.cell 5
          have s6 := hs4.cell 6
          have s7 := hs4.cell 7
          simp only [sOf, List.getElem?_toArray, List.getElem?_cons_zero, List.getElem?_cons_succ] at s0 s1 s2 s3 s4 s5 s6 s7
          have Hs4 := Lib.hid hs4
          have HBk := Lib.hid hBk
          have HBl := Lib.hid hBl
          clear hs4 hBk hBl
          have hu64 := Tryd.underlying155
          have hil : (Tryd.prog.info? 155).map (·.size) = some KW.toList.length := by rw [Array.length_toList]; exact Hi64.out
          go_wp2_with fail
          have Hil := Lib.hid hil
          clear hu64 hil
          refine wp_region_still_tail 7 (by kernel_rfl) (by kernel_rfl) ?_
          simp only [List.take_succ_cons, List.take_zero, List.drop_succ_cons, List.drop_zero]
          change wpStill _ _ (World.drewN wr 1) _ _ _
          refine wpStill_load rfl 155 (.tmp 3) rfl gk rfl KW _ (RA (Hk4.out.drewN 1)) Tryd.underlying155 rfl Hil.out ?_
          still_step
          still_step
          still_step
          still_step
          still_step
          still_step
          refine wpStill_nil ?_
          go_wp2_with fail
          refine ((HKW.out ▸ rmix_any kw F Bk HBl.out (World.drew wr) : Calls Tryd.prog 118 #[.agg KW, agg8 F, .string ⟨Bk.toArray⟩] (World.drew wr) _)).mono ?_
          rintro e8 w8 ⟨rfl, hl8⟩
          obtain ⟨S9, hS9⟩ : ∃ S9, S9 = mixS kw F (fun j => gt Bk j) := ⟨_, rfl⟩
          rw [← hS9]
          unfold agg8
          clear s0 s1 s2 s3 s4 s5 s6 s7
          have hb8 : Blk w8 (gk + 1) 157 (sOf F) := (Hs4.out.drewN 1).below hl8 Hs4.out.lt
          have hk8 : Blk w8 gk 155 KW := (Hk4.out.drewN 1).below hl8 Hk4.out.lt
          have hB8 : Below w.heap.size w w8 := (below_drewN' Hl.out 1).trans (hl8.mono Hl.out.size)
          have hF1 : S9 = fold kw iv (gt M) (q + 1) := by
            show _ = mixS kw (fold kw iv (gt M) q) _
            rw [← HF.out, hS9]
            refine mixS_congr (fun _ _ => rfl) fun j hj => ?_
            unfold gt
            rw [HBk.out, List.getD_eq_getElem?_getD, List.getD_eq_getElem?_getD, List.getElem?_drop, List.getElem?_take, if_pos (by omega), Hi.out]
          have s0 := hb8.cell 0
          have q0 := hb8.frozen 0
          have s1 := hb8.cell 1
          have q1 := hb8.frozen 1
          have s2 := hb8.cell 2
          have q2 := hb8.frozen 2
          have s3 := hb8.cell 3
          have q3 := hb8.frozen 3
          have s4 := hb8.cell 4
          have q4 := hb8.frozen 4
          have s5 := hb8.cell 5
          have q5 := hb8.frozen 5
          have s6 := hb8.cell 6
          have q6 := hb8.frozen 6
          have s7 := hb8.cell 7
          have q7 := hb8.frozen 7
          simp only [sOf, List.getElem?_toArray, List.getElem?_cons_zero, List.getElem?_cons_succ] at s0 s1 s2 s3 s4 s5 s6 s7
          have Hb8 := Lib.hid hb8
          have Hk8 := Lib.hid hk8
          have HB8 := Lib.hid hB8
          have HF1 := Lib.hid hF1
          clear hl8 hb8 hk8 hB8 hF1 hS9
          go_wp2_with fail
          refine ⟨⟨q + 1, ?_, by have := Hi.out; omega, by rw [← HF1.out]; exact Hb8.out.set8_same S9, Hk8.out.set8_far (o := 0) (Nat.ne_of_lt (Nat.lt_succ_self gk)) S9, below_set8 HB8.out (by omega) 0 S9⟩, ?_⟩
          · have := Hi.out
            congr 1
            omega
          · simp [intOf]
            omega
        · have hd : decide ((i : Int) < (M.length : Int)) = false := by simp; omega
          have hFd : F = digS T := by
            rw [HF.out]
            unfold digS
            rw [← HM.out]
            congr 1
            have h1 := Hi.out
            have h2 := HM64.out
            omega
          have Hs4 := Lib.hid hs4
          have HFd := Lib.hid hFd
          clear hs4 hFd
          go_wp2_with fail
          go_loopw [8, 9] (fun o ix w5 => ∃ j : Nat, ix = .int .i64 j ∧ j ≤ 8 ∧ o = .string ⟨(outB F j).toArray⟩ ∧ Blk w5 (gk + 1) 157 (sOf F) ∧ Below w.heap.size w w5) (fun _ i _ => 8 - (intOf i).toNat)
          case atStart => exact ⟨0, rfl, by omega, rfl, Hs4.out, Hl.out⟩
          case round =>
            obtain ⟨j, rfl, hj, rfl, hb, hB⟩ := hrel
            obtain ⟨O, hO⟩ : ∃ O, O = outB F j := ⟨_, rfl⟩
            rw [← hO]
            have hOl : O.length = 4 * j := by rw [hO, outB_length]
            by_cases h8 : j < 8
            · have hd8 : decide ((j : Int) < 8) = true := by simp; omega
              have hj8 : (j : Int) < 8 := by omega
              obtain ⟨X, hX⟩ : ∃ X, X = F.at j := ⟨_, rfl⟩
              have c0 := (hb.cell j).trans (sOf_at F j h8)
              rw [← hX] at c0
              obtain ⟨u0, hu0⟩ : ∃ u, u = UInt8.ofNat X.toNat := ⟨_, rfl⟩
              obtain ⟨u1, hu1⟩ : ∃ u, u = UInt8.ofNat (X.toNat / 256) := ⟨_, rfl⟩
              obtain ⟨u2, hu2⟩ : ∃ u, u = UInt8.ofNat (X.toNat / 65536) := ⟨_, rfl⟩
              obtain ⟨u3, hu3⟩ : ∃ u, u = UInt8.ofNat (X.toNat / 16777216) := ⟨_, rfl⟩
              have t0 : (I32 X).tmod 256 % 256 = I8 u0 := by rw [hu0]; exact tm0' X
              have t1 : (I32 X).tdiv 256 % 256 = I8 u1 := by rw [hu1]; exact tm1' X 256
              have t2 : (I32 X).tdiv 65536 % 256 = I8 u2 := by rw [hu2]; exact tm1' X 65536
              have t3 : (I32 X).tdiv 16777216 % 256 = I8 u3 := by rw [hu3]; exact tm1' X 16777216
              have k0 := I8_back' u0
              have k1 := I8_back' u1
              have k2 := I8_back' u2
              have k3 := I8_back' u3
              obtain ⟨ON, hON⟩ : ∃ ON, ON = O ++ [u3, u2, u1, u0] := ⟨_, rfl⟩
              have ha3 : ∀ W, (Op.stringOp .add ⟨O.toArray⟩ ⟨#[u3, u2, u1, u0]⟩).run Tryd.prog W = .ok (.string ⟨ON.toArray⟩) W := fun W => by
                rw [hON]; exact str_add O [u3, u2, u1, u0] (by simp; omega) W
              have hE : ON = outB F (j + 1) := by rw [hON, hO, hu0, hu1, hu2, hu3, hX]; rfl
              have HE := Lib.hid hE
              have Hb := Lib.hid hb
              have HB := Lib.hid hB
              clear hX hu0 hu1 hu2 hu3 hON hE hO hOl hb hB
              go_wp2_with fail
              go_region
              all_goals
                refine abs_q2 ?_
                intro w6 hw6
                have hb6 : Blk w6 (gk + 1) 157 (sOf F) := by rw [hw6]; exact (Hb.out.alloc _).drewN 1
                have hB6 : Below w.heap.size w w6 := by rw [hw6]; exact below_drewN' (HB.out.alloc HB.out.size _) 1
                have Hb6 := Lib.hid hb6
                have HB6 := Lib.hid hB6
                clear hw6 hb6 hB6
                go_wp2_with fail
                refine ⟨⟨j + 1, by go_num, by omega, by rw [HE.out], Hb6.out, HB6.out⟩, by simp [intOf]; omega⟩
            · have hd8 : decide ((j : Int) < 8) = false := by simp; omega
              have hj8 : j = 8 := by omega
              have hR : dig T = O := by rw [hO, hj8, HFd.out]; rfl
              have HR := Lib.hid hR
              have HB := Lib.hid hB
              clear hb hB hR hj8 hO hOl
              go_wp2_with fail
              go_ret
              exact ⟨by rw [HR.out]; rfl, HB.out⟩
end Go.Proofs.YtoankokkdmbjmaaDoor
/- The walks of the reference's turned, Seal and Derive (of at most 64 bytes). -/
namespace Go.Proofs.YtoankokkdmbjmaaDoor
open Go.RowKit Go.Lib

/-- the first j bytes of a key's block -/
def kp (key : List UInt8) (n : UInt8) (j : Nat) : List UInt8 := (List.range j).map (kpad key n)
theorem kp_succ (key : List UInt8) (n : UInt8) (j : Nat) : kp key n (j + 1) = kp key n j ++ [kpad key n j] := by
  unfold kp; rw [List.range_succ, List.map_append]; rfl
theorem kp_length (key : List UInt8) (n : UInt8) (j : Nat) : (kp key n j).length = j := by simp [kp]

set_option maxRecDepth 100000 in
set_option maxHeartbeats 2000000 in
theorem rturned_any (key : List UInt8) (n : UInt8) (w : World) (hk : key.length ≤ 549755813888) :
    Calls Tryd.prog 104 #[.string ⟨key.toArray⟩, .int .u8 (I8 n)] w fun e w' => e = .returned (.string ⟨(kblk key n).toArray⟩) ∧ Below w.heap.size w w' := by
  go_enter Tryd.func104, Tryd.ntmps104
  by_cases h64 : 64 < key.length
  · have hd64 : decide ((64 : Int) < (key.length : Int)) = true := by simp; omega
    go_wp2_with fail
    refine (rsum_any key _ hk).mono ?_
    rintro e w1 ⟨rfl, hl1⟩
    obtain ⟨KB, hKB⟩ : ∃ KB, KB = dig key := ⟨_, rfl⟩
    rw [← hKB]
    have hKB2 : KB = kb key := by rw [hKB]; unfold kb; rw [if_pos h64]
    have HKB := Lib.hid hKB2
    have HB := Lib.hid hl1
    clear hKB hKB2 hl1
    go_wp2_with fail
    go_loopw [5, 6] (fun s ix wr => ∃ j : Nat, ix = .int .i64 j ∧ j ≤ 64 ∧ s = .string ⟨(kp key n j).toArray⟩ ∧ Below w.heap.size w wr) (fun _ i _ => 64 - (intOf i).toNat)
    case atStart => exact ⟨0, rfl, by omega, rfl, HB.out⟩
    case round =>
      obtain ⟨j, rfl, hj, rfl, hl⟩ := hrel
      obtain ⟨O, hO⟩ : ∃ O, O = kp key n j := ⟨_, rfl⟩
      rw [← hO]
      have hOl : O.length = j := by rw [hO, kp_length]
      have HO := Lib.hid hO
      have HOl := Lib.hid hOl
      have Hl := Lib.hid hl
      clear hO hOl hl
      by_cases h64 : j < 64
      · have hd : decide ((j : Int) < 64) = true := by simp; omega
        obtain ⟨x, hx⟩ : ∃ x, x = kpad key n j := ⟨_, rfl⟩
        have hb := I8_back' x
        obtain ⟨ON, hON⟩ : ∃ ON, ON = O ++ [x] := ⟨_, rfl⟩
        have ha : ∀ W, (Op.stringOp .add ⟨O.toArray⟩ ⟨#[x]⟩).run Tryd.prog W = .ok (.string ⟨ON.toArray⟩) W := fun W => by
          rw [hON]; exact str_add O [x] (by have := HOl.out; simp; omega) W
        have hE : ON = kp key n (j + 1) := by rw [hON, HO.out, kp_succ, hx]
        have HE := Lib.hid hE
        have Hx := Lib.hid hx
        clear hON hE hx
        by_cases hjk : j < KB.length
        · have hjk2 : decide ((j : Int) < (KB.length : Int)) = true := by simp; omega
          have hjk3 : (j : Int) < (KB.length : Int) := by omega
          have hxor : bits .xor .u8 (I8 (gb KB j)) (I8 n) = I8 x := by rw [Hx.out, u8_bits_xor]; unfold kpad; rw [← HKB.out]; rfl
          go_wp2_with fail
          go_roundw
          case rel => exact ⟨j + 1, by go_num, by omega, by rw [HE.out], Hl.out.alloc Hl.out.size _⟩
          case measure => simp [intOf]; omega
        · have hjk2 : decide ((j : Int) < (KB.length : Int)) = false := by simp; omega
          have hxor : bits .xor .u8 0 (I8 n) = I8 x := by
            have h0 : gt (kb key) j = 0 := by
              unfold gt; rw [List.getD_eq_getElem?_getD, List.getElem?_eq_none (by rw [← HKB.out]; omega)]; rfl
            have h1 := u8_bits_xor 0 n
            rw [Hx.out]; unfold kpad; rw [h0]; exact h1
          go_wp2_with fail
          go_roundw
          case rel => exact ⟨j + 1, by go_num, by omega, by rw [HE.out], Hl.out.alloc Hl.out.size _⟩
          case measure => simp [intOf]; omega
      · have hd : decide ((j : Int) < 64) = false := by simp; omega
        have hj64 : j = 64 := by omega
        have hR : kblk key n = O := by rw [HO.out, hj64]; rfl
        have HR := Lib.hid hR
        clear hR hj64
        go_wp2_with fail
        go_ret
        exact ⟨by rw [HR.out]; rfl, Hl.out⟩
  · have hd64 : decide ((64 : Int) < (key.length : Int)) = false := by simp; omega
    have hKB2 : key = kb key := by unfold kb; rw [if_neg h64]
    have HKB := Lib.hid hKB2
    have HB := Lib.hid (Below.refl w.heap.size w)
    clear hKB2
    go_wp2_with fail
    go_loopw [5, 6] (fun s ix wr => ∃ j : Nat, ix = .int .i64 j ∧ j ≤ 64 ∧ s = .string ⟨(kp key n j).toArray⟩ ∧ Below w.heap.size w wr) (fun _ i _ => 64 - (intOf i).toNat)
    case atStart => exact ⟨0, rfl, by omega, rfl, HB.out⟩
    case round =>
      obtain ⟨j, rfl, hj, rfl, hl⟩ := hrel
      obtain ⟨O, hO⟩ : ∃ O, O = kp key n j := ⟨_, rfl⟩
      rw [← hO]
      have hOl : O.length = j := by rw [hO, kp_length]
      have HO := Lib.hid hO
      have HOl := Lib.hid hOl
      have Hl := Lib.hid hl
      clear hO hOl hl
      by_cases h64 : j < 64
      · have hd : decide ((j : Int) < 64) = true := by simp; omega
        obtain ⟨x, hx⟩ : ∃ x, x = kpad key n j := ⟨_, rfl⟩
        have hb := I8_back' x
        obtain ⟨ON, hON⟩ : ∃ ON, ON = O ++ [x] := ⟨_, rfl⟩
        have ha : ∀ W, (Op.stringOp .add ⟨O.toArray⟩ ⟨#[x]⟩).run Tryd.prog W = .ok (.string ⟨ON.toArray⟩) W := fun W => by
          rw [hON]; exact str_add O [x] (by have := HOl.out; simp; omega) W
        have hE : ON = kp key n (j + 1) := by rw [hON, HO.out, kp_succ, hx]
        have HE := Lib.hid hE
        have Hx := Lib.hid hx
        clear hON hE hx
        by_cases hjk : j < key.length
        · have hjk2 : decide ((j : Int) < (key.length : Int)) = true := by simp; omega
          have hjk3 : (j : Int) < (key.length : Int) := by omega
          have hxor : bits .xor .u8 (I8 (gb key j)) (I8 n) = I8 x := by rw [Hx.out, u8_bits_xor]; unfold kpad; rw [← HKB.out]; rfl
          go_wp2_with fail
          go_roundw
          case rel => exact ⟨j + 1, by go_num, by omega, by rw [HE.out], Hl.out.alloc Hl.out.size _⟩
          case measure => simp [intOf]; omega
        · have hjk2 : decide ((j : Int) < (key.length : Int)) = false := by simp; omega
          have hxor : bits .xor .u8 0 (I8 n) = I8 x := by
            have h0 : gt (kb key) j = 0 := by
              unfold gt; rw [List.getD_eq_getElem?_getD, List.getElem?_eq_none (by rw [← HKB.out]; omega)]; rfl
            have h1 := u8_bits_xor 0 n
            rw [Hx.out]; unfold kpad; rw [h0]; exact h1
          go_wp2_with fail
          go_roundw
          case rel => exact ⟨j + 1, by go_num, by omega, by rw [HE.out], Hl.out.alloc Hl.out.size _⟩
          case measure => simp [intOf]; omega
      · have hd : decide ((j : Int) < 64) = false := by simp; omega
        have hj64 : j = 64 := by omega
        have hR : kblk key n = O := by rw [HO.out, hj64]; rfl
        have HR := Lib.hid hR
        clear hR hj64
        go_wp2_with fail
        go_ret
        exact ⟨by rw [HR.out]; rfl, Hl.out⟩

set_option maxRecDepth 100000 in
set_option maxHeartbeats 2000000 in
theorem rseal_any (key m : List UInt8) (w : World) (hk : key.length ≤ 549755813888) (hm : m.length ≤ 274877906944) :
    Calls Tryd.prog 95 #[.string ⟨key.toArray⟩, .string ⟨m.toArray⟩] w fun e w' => e = .returned (.string ⟨(sealB key m).toArray⟩) ∧ Below w.heap.size w w' := by
  go_enter Tryd.func95, Tryd.ntmps95
  go_wp2_with fail
  refine (rturned_any key 92 _ hk).mono ?_
  rintro e w1 ⟨rfl, hl1⟩
  obtain ⟨A, hA⟩ : ∃ A, A = kblk key 92 := ⟨_, rfl⟩
  rw [← hA]
  have HA := Lib.hid hA
  have Hl1 := Lib.hid hl1
  clear hA hl1
  go_wp2_with fail
  refine (rturned_any key 54 _ hk).mono ?_
  rintro e w2 ⟨rfl, hl2⟩
  obtain ⟨B, hB⟩ : ∃ B, B = kblk key 54 := ⟨_, rfl⟩
  rw [← hB]
  have hBl : B.length = 64 := by rw [hB, kblk_length]
  obtain ⟨C, hC⟩ : ∃ C, C = B ++ m := ⟨_, rfl⟩
  have ha : ∀ W, (Op.stringOp .add ⟨B.toArray⟩ ⟨m.toArray⟩).run Tryd.prog W = .ok (.string ⟨C.toArray⟩) W := fun W => by
    rw [hC]; exact str_add B m (by omega) W
  have hCl : C.length ≤ 549755813888 := by rw [hC, List.length_append]; omega
  have hl2w := Hl1.out.trans (hl2.mono Hl1.out.size)
  have HB := Lib.hid hB
  have HC := Lib.hid hC
  have HCl := Lib.hid hCl
  have Hl2 := Lib.hid hl2w
  clear hB hBl hC hCl hl2 hl2w
  go_wp2_with fail
  refine (rsum_any C _ HCl.out).mono ?_
  rintro e w3 ⟨rfl, hl3⟩
  obtain ⟨D, hD⟩ : ∃ D, D = dig C := ⟨_, rfl⟩
  rw [← hD]
  obtain ⟨E, hE⟩ : ∃ E, E = A ++ D := ⟨_, rfl⟩
  have hAl : A.length = 64 := by rw [HA.out, kblk_length]
  have hDl : D.length = 32 := by rw [hD, dig_length]
  have ha2 : ∀ W, (Op.stringOp .add ⟨A.toArray⟩ ⟨D.toArray⟩).run Tryd.prog W = .ok (.string ⟨E.toArray⟩) W := fun W => by
    rw [hE]; exact str_add A D (by omega) W
  have hEl : E.length ≤ 549755813888 := by rw [hE, List.length_append]; omega
  have hl3w := Hl2.out.trans (hl3.mono Hl2.out.size)
  have HD := Lib.hid hD
  have HE := Lib.hid hE
  have HEl := Lib.hid hEl
  have Hl3 := Lib.hid hl3w
  clear hD hE hAl hDl hEl hl3 hl3w ha
  go_wp2_with fail
  refine (rsum_any E _ HEl.out).mono ?_
  rintro e w4 ⟨rfl, hl4⟩
  have hR : sealB key m = dig E := by unfold sealB; rw [HE.out, HD.out, HC.out, HB.out, HA.out]
  have hl4w := Hl3.out.trans (hl4.mono Hl3.out.size)
  have HR := Lib.hid hR
  have Hl4 := Lib.hid hl4w
  clear hR hl4 hl4w
  go_wp2_with fail
  go_ret
  exact ⟨by rw [HR.out]; rfl, Hl4.out⟩

set_option maxRecDepth 100000 in
set_option maxHeartbeats 2000000 in
/-- Derive of n bytes, in K rounds (one or two) -/
theorem rderive_any (key lab : List UInt8) (n K : Nat) (w : World) (hk : key.length ≤ 549755813888) (hm : lab.length ≤ 1000) (hK : K ≤ 2) (hn : n ≤ 32 * K) (hlt : ∀ k, k < K → 32 * k < n) :
    Calls Tryd.prog 93 #[.string ⟨key.toArray⟩, .string ⟨lab.toArray⟩, .int .i64 n] w fun e w' => e = .returned (.tuple #[.string ⟨((dout key lab K).take n).toArray⟩, .int .i64 0]) ∧ Below w.heap.size w w' := by
  have Hlt := Lib.hid hlt
  have h0 : ¬ (n : Int) < 0 := by omega
  have hmax : decide ((8160 : Int) < (n : Int)) = false := by simp; omega
  clear hlt
  go_enter Tryd.func93, Tryd.ntmps93
  go_wp2_with fail
  go_loopw [8, 9, 10] (fun a l ix wr => ∃ k : Nat, k ≤ K ∧ ix = .int .i64 ((k : Int) + 1) ∧ a = .string ⟨(dout key lab k).toArray⟩ ∧ l = .string ⟨(dlast key lab k).toArray⟩ ∧ Below w.heap.size w wr) (fun _ _ i _ => 10 - (intOf i).toNat)
  case atStart => exact ⟨0, by omega, rfl, rfl, rfl, Below.refl _ _⟩
  case round =>
    obtain ⟨k, hkK, rfl, rfl, rfl, hl⟩ := hrel
    obtain ⟨U, hU⟩ : ∃ U, U = dout key lab k := ⟨_, rfl⟩
    obtain ⟨V, hV⟩ : ∃ V, V = dlast key lab k := ⟨_, rfl⟩
    rw [← hU, ← hV]
    have hUl : U.length = 32 * k := by rw [hU, dout_length]
    have hUi : (U.length : Int) = 32 * (k : Int) := by omega
    have hVl : V.length ≤ 32 := by rw [hV]; exact dlast_le _ _ _
    have HU := Lib.hid hU
    have HV := Lib.hid hV
    have HUl := Lib.hid hUl
    have HVl := Lib.hid hVl
    have Hl := Lib.hid hl
    clear hU hV hUl hVl hl
    by_cases hkk : k < K
    · have hk1 := Hlt.out k hkk
      have hd : decide (32 * (k : Int) < (n : Int)) = true := by simp; omega
      have hk8 : IntKind.u8.wrap ((k : Int) + 1) = (k : Int) + 1 := by simp [IntKind.wrap, IntKind.bits, IntKind.signed]; omega
      obtain ⟨b, hb⟩ : ∃ b, b = UInt8.ofNat (k + 1) := ⟨_, rfl⟩
      have hb1 : UInt8.ofNat ((k : Int) + 1).toNat = b := by rw [hb]; rfl
      have hb2 : UInt8.ofNat (k + 1) = b := hb.symm
      have hb3 : UInt8.ofNat k + 1 = b := by rw [hb, u8_succ]
      obtain ⟨C, hC⟩ : ∃ C, C = V ++ lab := ⟨_, rfl⟩
      have ha : ∀ W, (Op.stringOp .add ⟨V.toArray⟩ ⟨lab.toArray⟩).run Tryd.prog W = .ok (.string ⟨C.toArray⟩) W := fun W => by
        rw [hC]; exact str_add V lab (by have := HVl.out; omega) W
      have hCl : C.length ≤ 1032 := by rw [hC, List.length_append]; have := HVl.out; omega
      obtain ⟨D, hD⟩ : ∃ D, D = C ++ [b] := ⟨_, rfl⟩
      have ha2 : ∀ W, (Op.stringOp .add ⟨C.toArray⟩ ⟨#[b]⟩).run Tryd.prog W = .ok (.string ⟨D.toArray⟩) W := fun W => by
        rw [hD]; exact str_add C [b] (by simp; omega) W
      have hDl : D.length ≤ 1033 := by rw [hD, List.length_append]; simp; omega
      have HC := Lib.hid hC
      have HD := Lib.hid hD
      have HDl := Lib.hid hDl
      have Hb := Lib.hid hb
      clear hC hD hCl hDl hb
      go_wp2_with fail
      refine (rseal_any key D _ hk (by have := HDl.out; omega)).mono ?_
      rintro e w2 ⟨rfl, hl2⟩
      obtain ⟨E, hE⟩ : ∃ E, E = sealB key D := ⟨_, rfl⟩
      rw [← hE]
      have hE2 : E = dlast key lab (k + 1) := by rw [hE, HD.out, HC.out, HV.out, Hb.out]; rfl
      have hEl : E.length = 32 := by rw [hE, seal_length]
      obtain ⟨UN, hUN⟩ : ∃ UN, UN = U ++ E := ⟨_, rfl⟩
      have ha3 : ∀ W, (Op.stringOp .add ⟨U.toArray⟩ ⟨E.toArray⟩).run Tryd.prog W = .ok (.string ⟨UN.toArray⟩) W := fun W => by
        rw [hUN]; exact str_add U E (by have := HUl.out; omega) W
      have hUN2 : UN = dout key lab (k + 1) := by rw [hUN, HU.out, hE2]; rfl
      have HE := Lib.hid hE2
      have HUN := Lib.hid hUN2
      have hl2w : Below w.heap.size w w2 := (Hl.out.alloc Hl.out.size _).trans (hl2.mono (by have := Hl.out.size; simp; omega))
      have Hl2 := Lib.hid hl2w
      clear hE hE2 hEl hUN hUN2 hl2 hl2w ha ha2 hb1 hb2 hb3
      go_wp2_with fail
      go_roundw
      case rel => exact ⟨k + 1, by omega, by congr 1, by rw [HUN.out], by rw [HE.out], Hl2.out⟩
      case measure => simp [intOf]; omega
    · have hkE : k = K := by omega
      have hd : decide (32 * (k : Int) < (n : Int)) = false := by simp; omega
      have hle : (n : Int) ≤ 32 * (k : Int) := by omega
      have hle2 : n ≤ U.length := by have := HUl.out; omega
      have hR : (dout key lab K).take n = (U.take n).drop 0 := by rw [HU.out, hkE]; rfl
      have HR := Lib.hid hR
      clear hR hkE
      go_wp2_with fail
      rw [extract_cut]
      go_ret2
      exact ⟨by rw [HR.out]; rfl, Hl.out⟩
end Go.Proofs.YtoankokkdmbjmaaDoor
