/- The walk of sha.aboveCube and sha.Root. -/
import Derived.Test.YtgkhdpplmdkkaaaRoot
namespace Go.Proofs.Ytgkhdpplmdkkaaa
open Go.RowKit Go.Lib

theorem u64_small (n : Int) (h0 : 0 ≤ n) (h1 : n < 18446744073709551616) : IntKind.u64.wrap n = n := by rw [IntKind.wrap_u64]; omega

set_option maxHeartbeats 400000 in
theorem aboveCube_any (x p : Nat) (hx : x < 17592186044416) (hp : p < 4294967296) (w : World) :
    Calls Try.prog 106 #[.int .u64 x, .int .u64 p] w fun e w' => e = .returned (.bool (abc x p)) ∧ w = w' := by
  have Hx := Lib.hid hx
  have Hp := Lib.hid hp
  have hpi : ∃ pi : Int, pi = (p : Int) := ⟨_, rfl⟩
  obtain ⟨pi, hpi⟩ := hpi
  rw [← hpi]
  have hp0 : pi / 4294967296 = 0 := by omega
  have hp1 : IntKind.u64.wrap (pi * 4294967296) = ((p * 4294967296 : Nat) : Int) := by rw [u64_small _ (by omega) (by omega)]; omega
  clear hx hp hpi
  go_enter Try.func106, Try.ntmps106
  go_wp2_with fail
  refine (mul64_any x x (small_K Hx.out) (small_K Hx.out) _).mono ?_
  rintro e w' ⟨⟨hi, lo, rfl, hs, hl⟩, rfl⟩
  have Hs := Lib.hid hs
  have Hl := Lib.hid hl
  have Hhi := Lib.hid (hi_small Hx.out hs)
  clear hs hl
  go_wp2_with fail
  refine (mul64_any hi x (small_K (by have := Hhi.out; omega)) (small_K Hx.out) _).mono ?_
  rintro e w' ⟨⟨top, mid, rfl, hs2, hl2⟩, rfl⟩
  have Htop := Lib.hid (top_small Hx.out Hhi.out hs2)
  have Hs2 := Lib.hid hs2
  have Hl2 := Lib.hid hl2
  clear hs2 hl2
  go_wp2_with fail
  refine (mul64_any lo x Hl.out (small_K Hx.out) _).mono ?_
  rintro e w' ⟨⟨more, low, rfl, hs3, hl3⟩, rfl⟩
  have Hmore := Lib.hid (more_small Hx.out Hl.out hs3)
  have Hs3 := Lib.hid hs3
  have Hl3 := Lib.hid hl3
  clear hs3 hl3
  have hadd := run_add64_here mid more
  have hw : IntKind.u64.wrap ((top : Int) + (sumHi mid more : Int)) = ((top + sumHi mid more : Nat) : Int) := by
    have := sumHi_le Hl2.out Hmore.out
    have := Htop.out
    rw [u64_small _ (by omega) (by omega)]; omega
  have Hab := Lib.hid (abc_of Hs.out Hs2.out Hs3.out Hl3.out Hp.out)
  generalize sumHi mid more = c at *
  generalize sumLo mid more = s at *
  generalize top + c = tc at *
  generalize p * 4294967296 = pq at *
  by_cases hA : 0 < tc
  · have hA2 : (0 : Int) < (tc : Int) := by omega
    go_wp2
    go_ret
    exact ⟨ret_bool (by rw [Hab.out]; simp [hA]), rfl⟩
  · obtain rfl : tc = 0 := by omega
    by_cases hB : pq < s
    · have hB2 : (pq : Int) < (s : Int) := by omega
      go_wp2
      go_ret
      exact ⟨ret_bool (by rw [Hab.out]; simp [hB]), rfl⟩
    · by_cases hC : s = pq
      · subst hC
        go_wp2
        go_ret
        exact ⟨ret_bool (by rw [Hab.out]; simp), rfl⟩
      · have hD : ((s : Int) == (pq : Int)) = false := by rw [beq_eq_false_iff_ne]; omega
        have hB2 : ¬ (pq : Int) < (s : Int) := by omega
        have hB3 : decide ((pq : Int) < (s : Int)) = false := by simp; omega
        have hB4 : decide (pq < s) = false := by simp; omega
        have HC := Lib.hid hC
        have HB := Lib.hid hB
        clear hC hB
        go_wp2
        go_ret
        exact ⟨ret_bool (by have := HC.out; rw [Hab.out, hB4]; simp [this]), rfl⟩

/-- one bit of a root: is it set? -/
def rbit (p : Nat) (cube : Bool) (y : Nat) : Bool := if cube then decide (y < 17592186044416) && !abc y p else !abv y p
def rstep (p : Nat) (cube : Bool) (x i : Nat) : Nat := if rbit p cube (x ||| 2 ^ (48 - i)) then x ||| 2 ^ (48 - i) else x
def riter (p : Nat) (cube : Bool) : Nat → Nat
  | 0 => 0
  | n + 1 => rstep p cube (riter p cube n) n
def B49 : Nat := 562949953421312
theorem or_lt49 {x n : Nat} (hx : x < B49) (hn : n < 49) : x ||| 2 ^ (48 - n) < B49 := by
  have hx' : x < 2 ^ 49 := hx
  show _ < 2 ^ 49
  exact Nat.or_lt_two_pow hx' (Nat.pow_lt_pow_right (by decide) (by omega))
theorem riter_lt (p : Nat) (cube : Bool) (n : Nat) (hn : n ≤ 49) : riter p cube n < B49 := by
  induction n with
  | zero => show 0 < B49; unfold B49; omega
  | succ n ih =>
    have ih := ih (by omega)
    show rstep p cube (riter p cube n) n < B49
    unfold rstep
    split
    · exact or_lt49 ih (by omega)
    · exact ih

theorem small49 {y : Nat} (h : y < B49) : y < K64 := by unfold B49 at h; unfold K64; omega
theorem or_root {x n : Nat} (hx : x < B49) (hn : n < 49) : bits BinOp.or .u64 (x : Int) (IntKind.u64.wrap ((2 : Int) ^ (48 - n))) = ((x ||| 2 ^ (48 - n) : Nat) : Int) := by
  have h2 : (2 : Nat) ^ (48 - n) < 18446744073709551616 := Nat.lt_of_le_of_lt (Nat.pow_le_pow_right (by decide) (show 48 - n ≤ 48 by omega)) (by decide)
  have e : IntKind.u64.wrap ((2 : Int) ^ (48 - n)) = ((2 ^ (48 - n) : Nat) : Int) := by
    have : ((2 : Int) ^ (48 - n)) = ((2 ^ (48 - n) : Nat) : Int) := by simp [Int.natCast_pow]
    rw [this, u64_small _ (Int.natCast_nonneg _) (by omega)]
  rw [e, u64_or_nat _ _ (by unfold B49 at hx; omega) h2]
theorem mod32 (x : Nat) : IntKind.u32.wrap (x : Int) = ((x % 4294967296 : Nat) : Int) := by rw [IntKind.wrap_u32']; omega

set_option maxRecDepth 100000 in
set_option maxHeartbeats 1000000 in
theorem rootS_any (p : Nat) (hp : p < 4294967296) (w : World) :
    Calls Try.prog 95 #[.int .u32 p, .bool false] w fun e w' => e = .returned (.int .u32 ((riter p false 49 % 4294967296 : Nat) : Int)) ∧ w' = w := by
  have Hp := Lib.hid hp
  have hp2 : IntKind.u64.wrap (p : Int) = (p : Int) := u64_small _ (by omega) (by omega)
  clear hp
  go_enter Try.func95, Try.ntmps95
  go_wp2_with fail
  go_loopw [5, 8] (fun x i w1 => ∃ n : Nat, i = .int .i64 n ∧ n ≤ 49 ∧ x = .int .u64 (riter p false n) ∧ w1 = w) (fun _ i _ => 49 - (intOf i).toNat)
  case atStart => exact ⟨0, rfl, by omega, rfl, rfl⟩
  case round =>
    obtain ⟨n, rfl, hn, rfl, rfl⟩ := hrel
    have Hlt := Lib.hid (riter_lt p false n hn)
    by_cases h49 : n < 49
    · have hr : riter p false (n + 1) = rstep p false (riter p false n) n := rfl
      generalize riter p false n = x at *
      have hy := or_root Hlt.out h49
      have hyl := or_lt49 Hlt.out h49
      unfold rstep at hr
      generalize x ||| 2 ^ (48 - n) = y at *
      have Hr := Lib.hid hr
      have Hyl := Lib.hid hyl
      clear hr hyl
      go_wp2_with fail
      refine (above_any y p (small49 Hyl.out) _).mono ?_
      rintro e w' ⟨rfl, rfl⟩
      cases hab : abv y p
      all_goals
        have Hab := Lib.hid hab
        clear hab
        go_wp2
        go_roundw
        case rel => exact ⟨n + 1, by go_num, by omega, by rw [Hr.out]; simp [rbit, Hab.out], by first | rfl | trivial⟩
        case measure => simp [intOf]; omega
    · obtain rfl : n = 49 := by omega
      have hm := mod32 (riter p false 49)
      have hz : ∃ z : Nat, z = riter p false 49 % 4294967296 := ⟨_, rfl⟩
      obtain ⟨z, hz⟩ := hz
      rw [← hz] at hm
      have Hz := Lib.hid hz
      clear hz
      generalize hx : riter p false 49 = x at hm
      clear hx
      go_wp2
      go_ret
      exact ⟨by rw [← Hz.out]; rfl, rfl⟩

set_option maxRecDepth 100000 in
set_option maxHeartbeats 1000000 in
theorem rootC_any (p : Nat) (hp : p < 4294967296) (w : World) :
    Calls Try.prog 95 #[.int .u32 p, .bool true] w fun e w' => e = .returned (.int .u32 ((riter p true 49 % 4294967296 : Nat) : Int)) ∧ w' = w := by
  have Hp := Lib.hid hp
  have hp2 : IntKind.u64.wrap (p : Int) = (p : Int) := u64_small _ (by omega) (by omega)
  clear hp
  go_enter Try.func95, Try.ntmps95
  go_wp2_with fail
  go_loopw [5, 8] (fun x i w1 => ∃ n : Nat, i = .int .i64 n ∧ n ≤ 49 ∧ x = .int .u64 (riter p true n) ∧ w1 = w) (fun _ i _ => 49 - (intOf i).toNat)
  case atStart => exact ⟨0, rfl, by omega, rfl, rfl⟩
  case round =>
    obtain ⟨n, rfl, hn, rfl, rfl⟩ := hrel
    have Hlt := Lib.hid (riter_lt p true n hn)
    by_cases h49 : n < 49
    · have hr : riter p true (n + 1) = rstep p true (riter p true n) n := rfl
      generalize riter p true n = x at *
      have hy := or_root Hlt.out h49
      have hyl := or_lt49 Hlt.out h49
      unfold rstep at hr
      generalize x ||| 2 ^ (48 - n) = y at *
      have Hr := Lib.hid hr
      have Hyl := Lib.hid hyl
      clear hr hyl
      have hyi : ∃ yi : Int, yi = (y : Int) := ⟨_, rfl⟩
      obtain ⟨yi, hyi⟩ := hyi
      rw [← hyi] at hy
      have Hyi := Lib.hid hyi
      by_cases h44 : y < 17592186044416
      · have hd : decide (yi < 17592186044416) = true := by rw [hyi]; simp; omega
        have H44 := Lib.hid h44
        clear h44 hyi
        go_wp2_with fail
        rw [Hyi.out]
        refine (aboveCube_any y p H44.out Hp.out _).mono ?_
        rintro e w' ⟨rfl, rfl⟩
        clear hd hy
        cases hab : abc y p
        all_goals
          have Hab := Lib.hid hab
          clear hab
          go_wp2
          go_roundw
          case rel => exact ⟨n + 1, by go_num, by omega, by rw [Hr.out]; simp [rbit, Hab.out, H44.out], by first | rfl | trivial⟩
          case measure => simp [intOf]; omega
      · have hd : decide (yi < 17592186044416) = false := by rw [hyi]; simp; omega
        have H44 := Lib.hid h44
        clear h44 hyi
        go_wp2
        go_roundw
        case rel => exact ⟨n + 1, by go_num, by omega, by rw [Hr.out]; simp [rbit, H44.out], by first | rfl | trivial⟩
        case measure => simp [intOf]; omega
    · obtain rfl : n = 49 := by omega
      have hm := mod32 (riter p true 49)
      have hz : ∃ z : Nat, z = riter p true 49 % 4294967296 := ⟨_, rfl⟩
      obtain ⟨z, hz⟩ := hz
      rw [← hz] at hm
      have Hz := Lib.hid hz
      clear hz
      generalize hx : riter p true 49 = x at hm
      clear hx
      go_wp2
      go_ret
      exact ⟨by rw [← Hz.out]; rfl, rfl⟩

end Go.Proofs.Ytgkhdpplmdkkaaa
