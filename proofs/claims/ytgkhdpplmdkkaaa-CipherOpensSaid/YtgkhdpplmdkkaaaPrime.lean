/- The walk of sha.Prime at 0 to 7, and of sha.New. -/
import Derived.Test.YtgkhdpplmdkkaaaRoots
namespace Go.Proofs.Ytgkhdpplmdkkaaa
open Go.RowKit Go.Lib

theorem pls_mono {m n : Nat} (h : m ≤ n) : (pls m).length ≤ (pls n).length := by
  induction h with
  | refl => exact Nat.le_refl _
  | step _ ih => rw [pls_step]; omega

set_option maxRecDepth 100000 in
set_option maxHeartbeats 1000000 in
theorem prime_any (i : Nat) (hi : i < 8) (w : World) :
    Calls Try.prog 96 #[.int .i64 i] w fun e w' => e = .returned (.int .u32 ((prm i : Nat) : Int)) ∧ w' = w := by
  have hi99 : (i : Int) ≤ 99 := by omega
  go_enter Try.func96, Try.ntmps96
  go_wp2_with fail
  go_loopw [3, 4] (fun q c wr => ∃ n k : Nat, c = .int .i64 k ∧ q = .int .u32 ((n + 2 : Nat) : Int) ∧ k = (pls n).length ∧ n < 18 ∧ k ≤ i ∧ wr = w) (fun q _ _ => 400 - (intOf q).toNat)
  case atStart => exact ⟨0, 0, rfl, rfl, rfl, by omega, by omega, rfl⟩
  case round =>
    obtain ⟨n, k, rfl, rfl, hkn, hn, hk, rfl⟩ := hrel
    have Hkn := Lib.hid hkn
    clear hkn
    have hp : ∃ p, p = n + 2 := ⟨_, rfl⟩
    obtain ⟨p, hp⟩ := hp
    rw [← hp]
    have Hp := Lib.hid hp
    have hp2 : 2 ≤ p := by omega
    have hp3 : p ≤ 311 := by omega
    clear hp
    go_wp2_with fail
    go_loopw [5, 6] (fun b d w3 => ∃ (dn : Nat) (bb : Bool), d = .int .u32 dn ∧ b = .bool bb ∧ 2 ≤ dn ∧ dn ≤ 18 ∧ whl p (22 - dn) dn bb = isP p ∧ w3 = wr) (fun _ d _ => 30 - (intOf d).toNat)
    case atStart => exact ⟨2, true, rfl, rfl, by omega, by omega, rfl, rfl⟩
    case round =>
      obtain ⟨d, b, rfl, rfl, hd2, hd18, hwh, rfl⟩ := hrel
      have Hwh := Lib.hid hwh
      clear hwh
      by_cases hdd : d * d ≤ p
      · have hdt : decide ((d : Int) * (d : Int) ≤ (p : Int)) = true := by simp; exact_mod_cast hdd
        cases b
        · go_wp2
          go_roundw
          case rel => exact ⟨d + 1, false, by go_num, rfl, by omega, by have := d_small hdd hp3; omega, by have := Hwh.out; rw [whl_in hdd (by omega)] at this; exact this, by first | rfl | trivial⟩
          case measure => simp [intOf]; omega
        · go_wp2
          go_roundw
          case rel => exact ⟨d + 1, (p % d != 0), by go_num, congrArg Value.bool (modB p d), by omega, by have := d_small hdd hp3; omega, by have := Hwh.out; rw [whl_in hdd (by omega), Bool.true_and] at this; exact this, by first | rfl | trivial⟩
          case measure => simp [intOf]; omega
      · have hdt : decide ((d : Int) * (d : Int) ≤ (p : Int)) = false := by
          simp only [decide_eq_false_iff_not]; exact_mod_cast hdd
        have hd3 : (d : Int) * (d : Int) ≤ 324 := by
          have := Nat.mul_le_mul hd18 hd18
          exact_mod_cast this
        have hd4 : 0 ≤ (d : Int) * (d : Int) := by exact_mod_cast Nat.zero_le (d * d)
        have hbp : b = isP p := by rw [← Hwh.out, whl_out hdd (by omega)]
        have Hbp := Lib.hid hbp
        clear hbp
        have hn17 : isP p = false ∨ k < i → n + 1 < 18 := by
          intro h
          rcases Nat.lt_or_ge (n + 1) 18 with h1 | h1
          · exact h1
          · have h2 := pls_18
            rw [show 18 = n + 1 by omega, pls_step, ← Hp.out, ← Hkn.out] at h2
            rcases h with h | h
            · rw [h] at h2; simp at h2; omega
            · split at h2 <;> omega
        have Hn17 := Lib.hid hn17
        clear hn17
        cases b
        · have h1 := Hn17.out (.inl Hbp.out.symm)
          go_wp2
          go_roundw
          case rel => exact ⟨n + 1, k, rfl, by rw [Hp.out]; simp; omega, by rw [pls_step, ← Hp.out, ← Hbp.out]; exact Hkn.out, h1, by omega, by first | rfl | trivial⟩
          case measure => simp [intOf]; omega
        · by_cases hki : k = i
          · subst hki
            have he : prm k = p := by rw [Hkn.out, Hp.out]; exact prm_at (by omega) (by rw [← Hp.out]; exact Hbp.out.symm)
            have He := Lib.hid he
            clear he
            go_wp2
            go_ret
            exact ⟨by rw [He.out]; rfl, rfl⟩
          · have h1 := Hn17.out (.inr (by omega))
            have hke : ((k : Int) == (i : Int)) = false := by rw [beq_eq_false_iff_ne]; omega
            go_wp2
            go_roundw
            case rel => exact ⟨n + 1, k + 1, by go_num, by rw [Hp.out]; simp; omega, by rw [pls_step, ← Hp.out, ← Hbp.out]; simp [← Hkn.out], h1, by omega, by first | rfl | trivial⟩
            case measure => simp [intOf]; omega

end Go.Proofs.Ytgkhdpplmdkkaaa
