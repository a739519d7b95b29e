/- The contracts of the reference: roots. -/
import Derived.Test.YtgkhdpplmdkkaaaMRr
namespace Go.Proofs.Ytgkhdpplmdkkaaa
open Go.RowKit Go.Lib

set_option maxRecDepth 100000 in
set_option maxHeartbeats 400000 in
theorem below_any (x p : Nat) (hx : x < K64) (w : World) :
    Calls Try.prog 111 #[.int .u64 x, .int .u64 p] w fun e w' => e = .returned (.bool (!abv x p)) ∧ w = w' := by
  have Hx := Lib.hid hx
  clear hx
  go_enter Try.func111, Try.ntmps111
  go_wp2_with fail
  refine (product_any x x Hx.out Hx.out _).mono ?_
  rintro e w' ⟨⟨hi, lo, rfl, hs, hl⟩, rfl⟩
  have hab := abv_of (p := p) hs hl
  have Hab := Lib.hid hab
  clear hs hl hab
  by_cases h1 : hi < p
  · have d1 : decide ((hi : Int) < (p : Int)) = true := by simp; omega
    have hF : abv x p = false := by
      rw [Hab.out]
      have : ¬ p < hi := by omega
      have h2 : ¬ hi = p := by omega
      simp [this, h2]
    have HF := Lib.hid hF
    clear hF
    go_wp2_with fail
    go_ret
    exact ⟨ret_bool (by rw [HF.out]; rfl), rfl⟩
  · have d1 : decide ((hi : Int) < (p : Int)) = false := by simp; omega
    by_cases h2 : hi = p
    · have d2 : ((hi : Int) == (p : Int)) = true := by simp; omega
      by_cases h3 : lo = 0
      · have d3 : ((lo : Int) == 0) = true := by simp; omega
        have hF : abv x p = false := by rw [Hab.out]; simp [h2, h3]
        have HF := Lib.hid hF
        clear hF h2
        go_wp2_with fail
        go_ret
        exact ⟨ret_bool (by rw [HF.out]; rfl), rfl⟩
      · have d3 : ((lo : Int) == 0) = false := by rw [beq_eq_false_iff_ne]; omega
        have hF : abv x p = true := by
          rw [Hab.out]
          have : 0 < lo := by omega
          simp [h2, this]
        have HF := Lib.hid hF
        clear hF h2
        go_wp2_with fail
        go_ret
        exact ⟨ret_bool (by rw [HF.out]; rfl), rfl⟩
    · have d2 : ((hi : Int) == (p : Int)) = false := by rw [beq_eq_false_iff_ne]; omega
      have hF : abv x p = true := by
        rw [Hab.out]
        have : p < hi := by omega
        simp [this]
      have HF := Lib.hid hF
      clear hF
      go_wp2_with fail
      go_ret
      exact ⟨ret_bool (by rw [HF.out]; rfl), rfl⟩

set_option maxRecDepth 100000 in
set_option maxHeartbeats 400000 in
theorem cubeBelow_any (x p : Nat) (hx : x < 17592186044416) (hp : p < 4294967296) (w : World) :
    Calls Try.prog 110 #[.int .u64 x, .int .u64 p] w fun e w' => e = .returned (.bool (!abc x p)) ∧ w = w' := by
  have Hx := Lib.hid hx
  have Hp := Lib.hid hp
  obtain ⟨pi, hpi⟩ : ∃ pi : Int, pi = (p : Int) := ⟨_, rfl⟩
  rw [← hpi]
  obtain ⟨pq, hpq⟩ : ∃ pq : Nat, pq = p * 4294967296 := ⟨_, rfl⟩
  have hp1 : IntKind.u64.wrap (pi * 4294967296) = (pq : Int) := by rw [u64_small _ (by omega) (by omega)]; omega
  have Hpq := Lib.hid hpq
  clear hx hp hpi hpq
  go_enter Try.func110, Try.ntmps110
  go_wp2_with fail
  refine (product_any x x (small_K Hx.out) (small_K Hx.out) _).mono ?_
  rintro e w' ⟨⟨hi, lo, rfl, hs, hl⟩, rfl⟩
  have Hs := Lib.hid hs
  have Hl := Lib.hid hl
  have Hhi := Lib.hid (hi_small Hx.out hs)
  clear hs hl
  go_wp2_with fail
  refine (product_any lo x Hl.out (small_K Hx.out) _).mono ?_
  rintro e w' ⟨⟨more, low, rfl, hs3, hl3⟩, rfl⟩
  have Hmore := Lib.hid (more_small Hx.out Hl.out hs3)
  have Hs3 := Lib.hid hs3
  have Hl3 := Lib.hid hl3
  clear hs3 hl3
  go_wp2_with fail
  refine (product_any hi x (small_K (by have := Hhi.out; omega)) (small_K Hx.out) _).mono ?_
  rintro e w' ⟨⟨top, mid, rfl, hs2, hl2⟩, rfl⟩
  have Hs2 := Lib.hid hs2
  have Hl2 := Lib.hid hl2
  clear hs2 hl2
  have hab := abc_of Hs.out Hs2.out Hs3.out Hl3.out Hp.out
  rw [← Hpq.out] at hab
  have hw : IntKind.u64.wrap (18446744073709551615 - (more : Int)) = 18446744073709551615 - (more : Int) := by
    have := Hmore.out
    unfold K64 at this
    rw [u64_small _ (by omega) (by omega)]
  by_cases hA : 0 < top
  · have dA : decide ((0 : Int) < (top : Int)) = true := by simp; omega
    have hA2 : (0 : Int) < (top : Int) := by omega
    have hF : abc x p = true := by rw [hab]; have : 0 < top + sumHi mid more := by omega
                                   simp [this]
    have HF := Lib.hid hF
    clear hF hab
    go_wp2_with fail
    go_ret
    exact ⟨ret_bool (by rw [HF.out]; rfl), rfl⟩
  · obtain rfl : top = 0 := by omega
    by_cases hB : mid + more < 18446744073709551616
    · have dB : decide (18446744073709551615 - (more : Int) < (mid : Int)) = false := by simp; omega
      have hsH : sumHi mid more = 0 := by unfold sumHi K64; omega
      have hsL : sumLo mid more = mid + more := by unfold sumLo K64; omega
      rw [hsH, hsL] at hab
      obtain ⟨m, hm⟩ : ∃ m, m = mid + more := ⟨_, rfl⟩
      have hwm : IntKind.u64.wrap ((mid : Int) + (more : Int)) = (m : Int) := by rw [u64_small _ (by omega) (by omega)]; omega
      rw [← hm] at hab
      have Hab := Lib.hid hab
      clear hab hsH hsL hB hm
      by_cases h1 : m < pq
      · have d1 : decide ((m : Int) < (pq : Int)) = true := by simp; omega
        have hF : abc x p = false := by
          rw [Hab.out]
          have h2 : ¬ pq < m := by omega
          have h3 : ¬ m = pq := by omega
          simp [h2, h3]
        have HF := Lib.hid hF
        clear hF
        go_wp2_with fail
        go_ret
        exact ⟨ret_bool (by rw [HF.out]; rfl), rfl⟩
      · have d1 : decide ((m : Int) < (pq : Int)) = false := by simp; omega
        by_cases h2 : m = pq
        · have d2 : ((m : Int) == (pq : Int)) = true := by simp; omega
          by_cases h3 : low = 0
          · have d3 : ((low : Int) == 0) = true := by simp; omega
            have hF : abc x p = false := by rw [Hab.out]; simp [h2, h3]
            have HF := Lib.hid hF
            clear hF h2
            go_wp2_with fail
            go_ret
            exact ⟨ret_bool (by rw [HF.out]; rfl), rfl⟩
          · have d3 : ((low : Int) == 0) = false := by rw [beq_eq_false_iff_ne]; omega
            have hF : abc x p = true := by
              rw [Hab.out]
              have : 0 < low := by omega
              simp [h2, this]
            have HF := Lib.hid hF
            clear hF h2
            go_wp2_with fail
            go_ret
            exact ⟨ret_bool (by rw [HF.out]; rfl), rfl⟩
        · have d2 : ((m : Int) == (pq : Int)) = false := by rw [beq_eq_false_iff_ne]; omega
          have hF : abc x p = true := by
            rw [Hab.out]
            have : pq < m := by omega
            simp [this]
          have HF := Lib.hid hF
          clear hF
          go_wp2_with fail
          go_ret
          exact ⟨ret_bool (by rw [HF.out]; rfl), rfl⟩
    · have dB : decide (18446744073709551615 - (more : Int) < (mid : Int)) = true := by simp; omega
      have hF : abc x p = true := by
        rw [hab]
        have : 0 < sumHi mid more := by unfold sumHi K64; omega
        simp [this]
      have HF := Lib.hid hF
      clear hF hab
      go_wp2_with fail
      go_ret
      exact ⟨ret_bool (by rw [HF.out]; rfl), rfl⟩

theorem riter_mult (p : Nat) (cube : Bool) (n : Nat) (hn : n ≤ 49) : riter p cube n % 2 ^ (49 - n) = 0 := by
  induction n with
  | zero => simp [riter]
  | succ n ih =>
    have ih := ih (by omega)
    have hd : 2 ^ (49 - n) = 2 ^ (49 - (n + 1)) * 2 := by rw [← Nat.pow_succ]; congr 1; omega
    have h1 : riter p cube n % 2 ^ (49 - (n + 1)) = 0 := by
      have := Nat.dvd_of_mod_eq_zero ih
      rw [hd] at this
      exact Nat.mod_eq_zero_of_dvd (Nat.dvd_trans (Nat.dvd_mul_right _ _) this)
    show rstep p cube (riter p cube n) n % _ = 0
    unfold rstep
    split
    · have e : 49 - (n + 1) = 48 - n := by omega
      rw [e] at h1 ⊢
      rw [Nat.or_mod_two_pow, h1, Nat.mod_self, Nat.or_self]
    · exact h1
theorem or_sum (p : Nat) (cube : Bool) (n : Nat) (hn : n < 49) : riter p cube n ||| 2 ^ (48 - n) = riter p cube n + 2 ^ (48 - n) := by
  have h := riter_mult p cube n (by omega)
  have e : 49 - n = (48 - n) + 1 := by omega
  rw [e] at h
  obtain ⟨a, ha⟩ := Nat.dvd_of_mod_eq_zero h
  rw [ha, Nat.two_pow_add_eq_or_of_lt (Nat.pow_lt_pow_right (by decide) (by omega))]

set_option maxRecDepth 100000 in
set_option maxHeartbeats 1000000 in
theorem rrootS_any (p : Nat) (hp : p < 4294967296) (w : World) :
    Calls Try.prog 101 #[.int .u32 p, .bool false] w fun e w' => e = .returned (.int .u32 (I32 (UInt32.ofNat (riter p false 49)))) ∧ w' = w := by
  have Hp := Lib.hid hp
  have hp2 : IntKind.u64.wrap (p : Int) = (p : Int) := u64_small _ (by omega) (by omega)
  clear hp
  go_enter Try.func101, Try.ntmps101
  go_wp2_with fail
  go_loopw [5, 6] (fun x b w1 => ∃ n : Nat, n ≤ 49 ∧ x = .int .u64 (riter p false n) ∧ b = .int .u64 ((281474976710656 / 2 ^ n : Nat) : Int) ∧ w1 = w) (fun _ b _ => (intOf b).toNat)
  case atStart => exact ⟨0, by omega, rfl, rfl, rfl⟩
  case round =>
    obtain ⟨n, hn, rfl, rfl, rfl⟩ := hrel
    have hlt := riter_lt p false n hn
    by_cases h49 : n < 49
    · have hb : 281474976710656 / 2 ^ n = 2 ^ (48 - n) := by
        rw [show (281474976710656 : Nat) = 2 ^ 48 from rfl, Nat.pow_div (by omega) (by decide)]
      have hb2 : 281474976710656 / 2 ^ (n + 1) = 281474976710656 / 2 ^ n / 2 := by rw [Nat.pow_succ, ← Nat.div_div_eq_div_mul]
      have hr : riter p false (n + 1) = rstep p false (riter p false n) n := rfl
      have hy := or_sum p false n h49
      have hyl := or_lt49 hlt h49
      have hpos : 0 < 2 ^ (48 - n) := Nat.pow_pos (by decide)
      unfold rstep at hr
      generalize riter p false n = x at *
      rw [hb] at hb2 ⊢
      generalize 2 ^ (48 - n) = b at *
      rw [hy] at hr hyl
      obtain ⟨y, hye⟩ : ∃ y, y = x + b := ⟨_, rfl⟩
      rw [← hye] at hr hyl
      have hyi : IntKind.u64.wrap ((x : Int) + (b : Int)) = (y : Int) := by unfold B49 at hyl; rw [u64_small _ (by omega) (by omega)]; omega
      have hb0 : decide ((0 : Int) < (b : Int)) = true := by simp; omega
      have hbw : IntKind.u64.wrap ((b : Int) / 2) = (b : Int) / 2 := by unfold B49 at hyl; rw [u64_small _ (by omega) (by omega)]
      have hbi : (0 : Int) < (b : Int) := by omega
      have Hr := Lib.hid hr
      have Hyl := Lib.hid hyl
      have Hb2 := Lib.hid hb2
      have Hpos := Lib.hid hpos
      clear hr hyl hb2 hb hy hye hlt hpos
      go_wp2_with fail
      refine (below_any y p (small49 Hyl.out) _).mono ?_
      rintro e w' ⟨rfl, rfl⟩
      cases hab : abv y p
      all_goals
        have Hab := Lib.hid hab
        clear hab
        go_wp2_with fail
        go_roundw
        case rel => exact ⟨n + 1, by omega, by rw [Hr.out]; simp [rbit, Hab.out], by rw [Hb2.out, Int.natCast_ediv]; rfl, by first | rfl | trivial⟩
        case measure => have := Hpos.out; simp [intOf]; omega
    · obtain rfl : n = 49 := by omega
      have hb : 281474976710656 / 2 ^ 49 = 0 := by decide
      rw [hb]
      generalize hx : riter p false 49 = x at *
      have hm : IntKind.u32.wrap ((x : Int) % 4294967296) = I32 (UInt32.ofNat x) := by
        rw [← I32_mod, Int.natCast_emod]
        rw [IntKind.wrap_u32']; omega
      have hm2 : (x : Int) % 4294967296 = I32 (UInt32.ofNat x) := by rw [← I32_mod, Int.natCast_emod]; rfl
      clear hlt
      go_wp2_with fail
      go_ret
      exact ⟨rfl, rfl⟩
theorem rbit_big (p y : Nat) (hp : p < 4294967296) (hy : 8796093022208 ≤ y) : rbit p true y = false := by
  unfold rbit
  by_cases h : y < 17592186044416
  · have h1 : 8796093022208 * 8796093022208 ≤ y * y := Nat.mul_le_mul hy hy
    have h2 : 8796093022208 * 8796093022208 * 8796093022208 ≤ y * y * y := Nat.mul_le_mul h1 hy
    have h3 : p * 4294967296 * K64 ≤ 4294967295 * 4294967296 * K64 := Nat.mul_le_mul_right _ (Nat.mul_le_mul_right _ (by omega))
    have hab : abc y p = true := by
      unfold abc
      simp only [decide_eq_true_iff]
      have h4 : 4294967295 * 4294967296 * K64 < 8796093022208 * 8796093022208 * 8796093022208 := by unfold K64; omega
      exact Nat.lt_of_lt_of_le (Nat.lt_of_le_of_lt h3 h4) h2
    simp [hab]
  · simp [h]
theorem riter6 (p : Nat) (hp : p < 4294967296) : riter p true 6 = 0 := by
  have step : ∀ i, i < 6 → riter p true i = 0 → riter p true (i + 1) = 0 := fun i hi h => by
    show rstep p true (riter p true i) i = 0
    rw [h]
    unfold rstep
    rw [Nat.zero_or, rbit_big p _ hp]
    · rfl
    · exact Nat.pow_le_pow_right (show 0 < 2 by decide) (show 43 ≤ 48 - i by omega)
  exact step 5 (by omega) (step 4 (by omega) (step 3 (by omega) (step 2 (by omega) (step 1 (by omega) (step 0 (by omega) rfl)))))
theorem or_lt43 {x n : Nat} (hx : x < 8796093022208) (hn : 6 ≤ n) : x ||| 2 ^ (48 - n) < 8796093022208 := by
  have hx' : x < 2 ^ 43 := hx
  show _ < 2 ^ 43
  exact Nat.or_lt_two_pow hx' (Nat.pow_lt_pow_right (by decide) (by omega))
theorem riter_lt3 (p : Nat) (hp : p < 4294967296) (n : Nat) (h6 : 6 ≤ n) (hn : n ≤ 49) : riter p true n < 8796093022208 := by
  induction n with
  | zero => omega
  | succ n ih =>
    by_cases h : n + 1 = 6
    · rw [h, riter6 p hp]; omega
    · have ih := ih (by omega) (by omega)
      show rstep p true (riter p true n) n < _
      unfold rstep
      split
      · exact or_lt43 ih (by omega)
      · exact ih

set_option maxRecDepth 100000 in
set_option maxHeartbeats 1000000 in
theorem rrootC_any (p : Nat) (hp : p < 4294967296) (w : World) :
    Calls Try.prog 101 #[.int .u32 p, .bool true] w fun e w' => e = .returned (.int .u32 (I32 (UInt32.ofNat (riter p true 49)))) ∧ w' = w := by
  have Hp := Lib.hid hp
  have hp2 : IntKind.u64.wrap (p : Int) = (p : Int) := u64_small _ (by omega) (by omega)
  clear hp
  go_enter Try.func101, Try.ntmps101
  go_wp2_with fail
  go_loopw [5, 6] (fun x b w1 => ∃ n : Nat, n ≤ 49 ∧ 6 ≤ n ∧ x = .int .u64 (riter p true n) ∧ b = .int .u64 ((281474976710656 / 2 ^ n : Nat) : Int) ∧ w1 = w) (fun _ b _ => (intOf b).toNat)
  case atStart => exact ⟨6, by omega, by omega, by rw [riter6 p Hp.out]; rfl, rfl, rfl⟩
  case round =>
    obtain ⟨n, hn, hn6, rfl, rfl, rfl⟩ := hrel
    have hlt := riter_lt p true n hn
    have hlt3 := riter_lt3 p Hp.out n hn6 hn
    by_cases h49 : n < 49
    · have hb : 281474976710656 / 2 ^ n = 2 ^ (48 - n) := by
        rw [show (281474976710656 : Nat) = 2 ^ 48 from rfl, Nat.pow_div (by omega) (by decide)]
      have hb2 : 281474976710656 / 2 ^ (n + 1) = 281474976710656 / 2 ^ n / 2 := by rw [Nat.pow_succ, ← Nat.div_div_eq_div_mul]
      have hr : riter p true (n + 1) = rstep p true (riter p true n) n := rfl
      have hy := or_sum p true n h49
      have hyl := or_lt49 hlt h49
      have hyl3 := or_lt43 hlt3 hn6
      have hpos : 0 < 2 ^ (48 - n) := Nat.pow_pos (by decide)
      unfold rstep at hr
      generalize riter p true n = x at *
      rw [hb] at hb2 ⊢
      generalize 2 ^ (48 - n) = b at *
      rw [hy] at hr hyl hyl3
      obtain ⟨y, hye⟩ : ∃ y, y = x + b := ⟨_, rfl⟩
      rw [← hye] at hr hyl hyl3
      have hyi : IntKind.u64.wrap ((x : Int) + (b : Int)) = (y : Int) := by unfold B49 at hyl; rw [u64_small _ (by omega) (by omega)]; omega
      have hb0 : decide ((0 : Int) < (b : Int)) = true := by simp; omega
      have hbw : IntKind.u64.wrap ((b : Int) / 2) = (b : Int) / 2 := by unfold B49 at hyl; rw [u64_small _ (by omega) (by omega)]
      have hbi : (0 : Int) < (b : Int) := by omega
      have Hr := Lib.hid hr
      have Hyl := Lib.hid hyl
      have Hyl3 := Lib.hid hyl3
      have Hb2 := Lib.hid hb2
      have Hpos := Lib.hid hpos
      clear hr hyl hyl3 hb2 hb hy hye hlt hlt3 hpos
      go_wp2_with fail
      refine (cubeBelow_any y p (by have := Hyl3.out; omega) Hp.out _).mono ?_
      rintro e w' ⟨rfl, rfl⟩
      cases hab : abc y p
      all_goals
        have Hab := Lib.hid hab
        clear hab
        go_wp2_with fail
        go_roundw
        case rel => exact ⟨n + 1, by omega, by omega, by have h4 := Hyl3.out; rw [Hr.out]; simp [rbit, Hab.out, show y < 17592186044416 by omega], by rw [Hb2.out, Int.natCast_ediv]; rfl, by first | rfl | trivial⟩
        case measure => have := Hpos.out; simp [intOf]; omega
    · obtain rfl : n = 49 := by omega
      have hb : 281474976710656 / 2 ^ 49 = 0 := by decide
      rw [hb]
      generalize hx : riter p true 49 = x at *
      have hm : IntKind.u32.wrap ((x : Int) % 4294967296) = I32 (UInt32.ofNat x) := by
        rw [← I32_mod, Int.natCast_emod]
        rw [IntKind.wrap_u32']; omega
      have hm2 : (x : Int) % 4294967296 = I32 (UInt32.ofNat x) := by rw [← I32_mod, Int.natCast_emod]; rfl
      clear hlt hlt3
      go_wp2_with fail
      go_ret
      exact ⟨rfl, rfl⟩
end Go.Proofs.Ytgkhdpplmdkkaaa
