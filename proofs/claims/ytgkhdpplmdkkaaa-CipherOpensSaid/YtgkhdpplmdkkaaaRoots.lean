/- The walks of sha.roots and sha.Prime. -/
import Derived.Test.YtgkhdpplmdkkaaaPrimP
import Derived.Test.YtgkhdpplmdkkaaaMix
import Derived.Laws.CopyOwn
import Derived.Laws.Tables
namespace Go.Proofs.Ytgkhdpplmdkkaaa
open Go.RowKit Go.Lib

theorem info64 : (Try.prog.info? 154).map (·.size) = some 64 := by kernel_rfl

set_option maxRecDepth 100000 in
set_option maxHeartbeats 1000000 in
theorem roots_any (w : World) :
    Calls Try.prog 94 #[] w fun e w' => e = .returned (.agg (wArr kw 64 64)) ∧ Below w.heap.size w w' := by
  go_enter Try.func94, Try.ntmps94
  go_wp2_with fail
  refine abs_world ?_
  intro w1 hw1
  have h0 : Blk w1 w.heap.size 154 (wArr kw 0 64) := by
    rw [hw1]; exact (Blk.new_at _ _ _ _ _ rfl rfl).alloc _
  have h1 : Blk w1 (w.heap.size + 1) 154 (wArr kw 0 64) := by
    rw [hw1]; exact Blk.new_at _ _ _ _ _ (by simp) rfl
  have hl : Below w.heap.size w w1 := by
    rw [hw1]; exact ((Below.refl _ _).alloc (Nat.le_refl _) _).alloc (by simp) _
  clear hw1
  have H0 := Lib.hid h0
  have H1 := Lib.hid h1
  have Hl := Lib.hid hl
  clear h0 h1 hl
  go_loopw [2, 3] (fun i q wr => ∃ n k : Nat, i = .int .i64 k ∧ q = .int .u32 ((n + 2 : Nat) : Int) ∧ k = (pls n).length ∧ n ≤ 310 ∧ k ≤ 64 ∧ Blk wr (w.heap.size + 1) 154 (wArr kw k 64) ∧ Only (w.heap.size + 1) w1 wr) (fun _ q _ => 400 - (intOf q).toNat)
  case atStart => exact ⟨0, 0, rfl, rfl, rfl, by omega, by omega, H1.out, Only.refl _ _⟩
  case round =>
    obtain ⟨n, k, rfl, rfl, hkn, hn, hk, hb, ho⟩ := hrel
    have Hb := Lib.hid hb
    have Ho := Lib.hid ho
    have Hkn := Lib.hid hkn
    clear hb ho hkn
    by_cases h64 : k < 64
    · have hk64 : decide ((k : Int) < 64) = true := by simp; omega
      have hn3 : n < 310 := by
        rcases Nat.lt_or_ge n 310 with h | h
        · exact h
        · have h1 : n = 310 := by omega
          have h2 := Hkn.out
          rw [h1, pls_310] at h2
          omega
      have hp : ∃ p, p = n + 2 := ⟨_, rfl⟩
      obtain ⟨p, hp⟩ := hp
      rw [← hp]
      have Hp := Lib.hid hp
      have hp2 : 2 ≤ p := by omega
      have hp3 : p ≤ 311 := by omega
      clear hp
      go_wp2_with fail
      go_loopw [4, 5] (fun b d w3 => ∃ (dn : Nat) (bb : Bool), d = .int .u32 dn ∧ b = .bool bb ∧ 2 ≤ dn ∧ dn ≤ 18 ∧ whl p (22 - dn) dn bb = isP p ∧ w3 = wr) (fun _ d _ => 30 - (intOf d).toNat)
      case atStart => exact ⟨2, true, rfl, rfl, by omega, by omega, rfl, rfl⟩
      case round =>
        obtain ⟨d, b, rfl, rfl, hd2, hd18, hwh, rfl⟩ := hrel
        have Hwh := Lib.hid hwh
        clear hwh
        by_cases hdd : d * d ≤ p
        · have hdt : decide ((d : Int) * (d : Int) ≤ (p : Int)) = true := by simp; exact_mod_cast hdd
          cases b
          · go_wp2
            go_roundw
            case rel => exact ⟨d + 1, false, by go_num, rfl, by omega, by have := d_small hdd hp3; omega, by have := Hwh.out; rw [whl_in hdd (by omega)] at this; exact this, by first | rfl | trivial⟩
            case measure => simp [intOf]; omega
          · go_wp2
            go_roundw
            case rel => exact ⟨d + 1, (p % d != 0), by go_num, congrArg Value.bool (modB p d), by omega, by have := d_small hdd hp3; omega, by have := Hwh.out; rw [whl_in hdd (by omega), Bool.true_and] at this; exact this, by first | rfl | trivial⟩
            case measure => simp [intOf]; omega
        · have hdt : decide ((d : Int) * (d : Int) ≤ (p : Int)) = false := by
            simp only [decide_eq_false_iff_not]; exact_mod_cast hdd
          have hd3 : (d : Int) * (d : Int) ≤ 324 := by
            have := Nat.mul_le_mul hd18 hd18
            exact_mod_cast this
          have hd4 : 0 ≤ (d : Int) * (d : Int) := by exact_mod_cast Nat.zero_le (d * d)
          have hbp : b = isP p := by rw [← Hwh.out, whl_out hdd (by omega)]
          have Hbp := Lib.hid hbp
          clear hbp
          cases b
          · go_wp2
            go_roundw
            case rel => exact ⟨n + 1, k, rfl, by rw [Hp.out]; simp; omega, by rw [pls_step, ← Hp.out, ← Hbp.out]; exact Hkn.out, by omega, by omega, Hb.out, Ho.out⟩
            case measure => simp [intOf]; omega
          · have hc := (Hb.out.cell k).trans (wArr_at _ _ _ _ h64)
            have hf := Hb.out.frozen k
            have hkw : UInt32.ofNat (riter p true 49) = kw k := by rw [Hp.out, Hkn.out]; exact kw_at hn3 (by rw [← Hp.out]; exact Hbp.out.symm)
            have Hkw := Lib.hid hkw
            clear hkw
            go_wp2_with fail
            refine (rootC p (by omega) _).mono ?_
            rintro e w' ⟨rfl, rfl⟩
            rw [Hkw.out]
            go_wp2
            go_roundw
            case rel => exact ⟨n + 1, k + 1, by go_num, by rw [Hp.out]; simp; omega, by rw [pls_step, ← Hp.out, ← Hbp.out]; simp [← Hkn.out], by omega, by omega, by have := Hb.out.set_ k (.int .u32 (I32 (kw k))); rwa [wArr_set] at this, Ho.out.set_ _ _⟩
            case measure => simp [intOf]; omega
    · obtain rfl : k = 64 := by omega
      have hk64 : decide (((64 : Nat) : Int) < 64) = false := by decide
      have hi : (Try.prog.info? 154).map (·.size) = some (wArr kw 64 64).size := by rw [wArr_size]; exact info64
      have hz := Ho.out.blk H0.out (by omega)
      have Hz := Lib.hid hz
      have Hi := Lib.hid hi
      clear hz hi
      go_wp2_with (first
        | (refine wpList_load_row rfl 154 (.tmp 1) rfl (w.heap.size + 1) rfl 154 (wArr kw 64 64) (0, 0) _ Hb.out Try.underlying154 rfl Hi.out ?_)
        | (refine wpList_store_row rfl 154 (.tmp 0) (.tmp 31) rfl w.heap.size (wArr kw 64 64) rfl rfl 154 (wArr kw 0 64) Hz.out Hi.out (by rw [wArr_size, wArr_size]) (wArr_one _ _ _) ?_))
      refine bodyPost_ret (v := .agg (wArr kw 64 64)) (results_cell_row (t := 154) (fr := (0, 0)) rfl _ _ w.heap.size _ _ rfl (setRow_heap _ _ _ _ _ _ Hz.out) Try.underlying154 rfl Hi.out) rfl ⟨rfl, ?_⟩
      exact below_setRow (Hl.out.trans (Ho.out.below (by omega) (by have := H1.out.lt; omega))) (Nat.le_refl _) _

end Go.Proofs.Ytgkhdpplmdkkaaa
