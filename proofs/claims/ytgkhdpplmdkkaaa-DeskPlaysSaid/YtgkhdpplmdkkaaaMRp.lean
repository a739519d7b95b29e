/- The contracts of the reference: its words. -/
import Derived.Test.YtgkhdpplmdkkaaaMRs
import Derived.Test.YtgkhdpplmdkkaaaMa
import Derived.Test.YtgkhdpplmdkkaaaMb
namespace Go.Proofs.Ytgkhdpplmdkkaaa
open Go.RowKit Go.Lib

set_option maxRecDepth 100000 in
set_option maxHeartbeats 1000000 in
theorem rwords_any (w : World) :
    Calls Try.prog 100 #[] w fun e w' => e = .returned (.agg (wArr kw 64 64)) ∧ Below w.heap.size w w' := by
  go_enter Try.func100, Try.ntmps100
  go_wp2_with fail
  refine abs_world ?_
  intro w1 hw1
  have h0 : Blk w1 w.heap.size 154 (wArr kw 0 64) := by
    rw [hw1]; exact (Blk.new_at _ _ _ _ _ rfl rfl).alloc _
  have h1 : Blk w1 (w.heap.size + 1) 154 (wArr kw 0 64) := by
    rw [hw1]; exact Blk.new_at _ _ _ _ _ (by simp) rfl
  have hl : Below w.heap.size w w1 := by
    rw [hw1]; exact ((Below.refl _ _).alloc (Nat.le_refl _) _).alloc (by simp) _
  clear hw1
  have H0 := Lib.hid h0
  have H1 := Lib.hid h1
  have Hl := Lib.hid hl
  clear h0 h1 hl
  go_loopw [2, 3] (fun i q wr => ∃ n k : Nat, i = .int .i64 k ∧ q = .int .u32 ((n + 2 : Nat) : Int) ∧ k = (pls n).length ∧ n ≤ 310 ∧ k ≤ 64 ∧ Blk wr (w.heap.size + 1) 154 (wArr kw k 64) ∧ Only (w.heap.size + 1) w1 wr) (fun _ q _ => 400 - (intOf q).toNat)
  case atStart => exact ⟨0, 0, rfl, rfl, rfl, by omega, by omega, H1.out, Only.refl _ _⟩
  case round =>
    obtain ⟨n, k, rfl, rfl, hkn, hn, hk, hb, ho⟩ := hrel
    have Hb := Lib.hid hb
    have Ho := Lib.hid ho
    have Hkn := Lib.hid hkn
    clear hb ho hkn
    by_cases h64 : k < 64
    · have hk64 : decide ((k : Int) < 64) = true := by simp; omega
      have hn3 : n < 310 := by
        rcases Nat.lt_or_ge n 310 with h | h
        · exact h
        · have h1 : n = 310 := by omega
          have h2 := Hkn.out
          rw [h1, pls_310] at h2
          omega
      obtain ⟨p, hp⟩ : ∃ p, p = n + 2 := ⟨_, rfl⟩
      rw [← hp]
      have Hp := Lib.hid hp
      have hp2 : 2 ≤ p := by omega
      have hp3 : p ≤ 311 := by omega
      clear hp
      go_wp2_with fail
      refine (whole_any p hp2 hp3 _).mono ?_
      rintro e w' ⟨rfl, rfl⟩
      cases hbp : isP p
      · have Hbp := Lib.hid hbp
        clear hbp
        go_wp2_with fail
        go_roundw
        case rel => exact ⟨n + 1, k, rfl, by rw [Hp.out]; simp; omega, by rw [pls_step, ← Hp.out, Hbp.out]; exact Hkn.out, by omega, by omega, Hb.out, Ho.out⟩
        case measure => simp [intOf]; omega
      · have hc := (Hb.out.cell k).trans (wArr_at _ _ _ _ h64)
        have hf := Hb.out.frozen k
        have hkw : UInt32.ofNat (riter p true 49) = kw k := by rw [Hp.out, Hkn.out]; exact kw_at hn3 (by rw [← Hp.out]; exact hbp)
        have Hkw := Lib.hid hkw
        have Hbp := Lib.hid hbp
        clear hkw hbp
        go_wp2_with fail
        refine (rrootC_any p (by omega) _).mono ?_
        rintro e w'' ⟨rfl, rfl⟩
        rw [Hkw.out]
        go_wp2_with fail
        go_roundw
        case rel => exact ⟨n + 1, k + 1, by go_num, by rw [Hp.out]; simp; omega, by rw [pls_step, ← Hp.out, Hbp.out]; simp [← Hkn.out], by omega, by omega, by have := Hb.out.set_ k (.int .u32 (I32 (kw k))); rwa [wArr_set] at this, Ho.out.set_ _ _⟩
        case measure => simp [intOf]; omega
    · obtain rfl : k = 64 := by omega
      have hk64 : decide (((64 : Nat) : Int) < 64) = false := by decide
      have hi : (Try.prog.info? 154).map (·.size) = some (wArr kw 64 64).size := by rw [wArr_size]; exact info64
      have hz := Ho.out.blk H0.out (by omega)
      have Hz := Lib.hid hz
      have Hi := Lib.hid hi
      clear hz hi
      go_wp2_with (first
        | (refine wpList_load_row rfl 154 (.tmp 1) rfl (w.heap.size + 1) rfl 154 (wArr kw 64 64) (0, 0) _ Hb.out Try.underlying154 rfl Hi.out ?_)
        | (refine wpList_store_row rfl 154 (.tmp 0) (.tmp 16) rfl w.heap.size (wArr kw 64 64) rfl rfl 154 (wArr kw 0 64) Hz.out Hi.out (by rw [wArr_size, wArr_size]) (wArr_one _ _ _) ?_))
      refine bodyPost_ret (v := .agg (wArr kw 64 64)) (results_cell_row (t := 154) (fr := (0, 0)) rfl _ _ w.heap.size _ _ rfl (setRow_heap _ _ _ _ _ _ Hz.out) Try.underlying154 rfl Hi.out) rfl ⟨rfl, ?_⟩
      exact below_setRow (Hl.out.trans (Ho.out.below (by omega) (by have := H1.out.lt; omega))) (Nat.le_refl _) _

set_option maxRecDepth 100000 in
set_option maxHeartbeats 1000000 in
theorem rprime_any (i : Nat) (hi : i < 8) (w : World) :
    Calls Try.prog 102 #[.int .i64 i] w fun e w' => e = .returned (.int .u32 ((prm i : Nat) : Int)) ∧ w' = w := by
  have hi99 : (i : Int) ≤ 99 := by omega
  go_enter Try.func102, Try.ntmps102
  go_wp2_with fail
  go_loopw [3, 4] (fun q c wr => ∃ n k : Nat, c = .int .i64 ((k : Int) - 1) ∧ q = .int .u32 ((n + 1 : Nat) : Int) ∧ k = (pls n).length ∧ n ≤ 18 ∧ k ≤ i + 1 ∧ (k = i + 1 → prm i = n + 1) ∧ wr = w) (fun q _ _ => 400 - (intOf q).toNat)
  case atStart => exact ⟨0, 0, rfl, rfl, rfl, by omega, by omega, fun h => absurd h (by omega), rfl⟩
  case round =>
    obtain ⟨n, k, rfl, rfl, hkn, hn, hk, hpr, rfl⟩ := hrel
    have Hkn := Lib.hid hkn
    have Hpr := Lib.hid hpr
    clear hkn hpr
    by_cases hlt : k < i + 1
    · have hd : decide ((k : Int) - 1 < (i : Int)) = true := by simp; omega
      have hd2 : (k : Int) - 1 < (i : Int) := by omega
      have hn17 : n < 18 := by
        rcases Nat.lt_or_ge n 18 with h | h
        · exact h
        · have h1 : n = 18 := by omega
          have h2 := Hkn.out
          rw [h1, pls_18] at h2
          omega
      obtain ⟨p, hp⟩ : ∃ p, p = n + 2 := ⟨_, rfl⟩
      have hpi : ((n + 1 : Nat) : Int) + 1 = (p : Int) := by omega
      have hpi2 : (n : Int) + 1 + 1 = (p : Int) := by omega
      have Hp := Lib.hid hp
      have hp2 : 2 ≤ p := by omega
      have hp3 : p ≤ 311 := by omega
      have hpw : (p : Int) < 4294967296 := by omega
      clear hp
      go_wp2_with fail
      refine (whole_any p hp2 hp3 _).mono ?_
      rintro e w' ⟨rfl, rfl⟩
      cases hbp : isP p
      · have Hbp := Lib.hid hbp
        clear hbp
        go_wp2_with fail
        go_roundw
        case rel => exact ⟨n + 1, k, rfl, by rw [Hp.out], by rw [pls_step, ← Hp.out, Hbp.out]; exact Hkn.out, by omega, by omega, fun h => absurd h (by omega), by first | rfl | trivial⟩
        case measure => simp [intOf]; omega
      · have Hbp := Lib.hid hbp
        clear hbp
        go_wp2_with fail
        go_roundw
        case rel =>
          refine ⟨n + 1, k + 1, by congr 1; omega, by rw [Hp.out], by rw [pls_step, ← Hp.out, Hbp.out]; simp [← Hkn.out], by omega, by omega, fun h => ?_, by first | rfl | trivial⟩
          have hik : i = k := by omega
          rw [hik, Hkn.out]
          exact prm_at (by omega) (by rw [← Hp.out]; exact Hbp.out)
        case measure => simp [intOf]; omega
    · have hd : decide ((k : Int) - 1 < (i : Int)) = false := by simp; omega
      have hd2 : ¬ (k : Int) - 1 < (i : Int) := by omega
      have hpp := Hpr.out (by omega)
      have Hpp := Lib.hid hpp
      clear hpp
      go_wp2_with fail
      go_ret
      exact ⟨by rw [Hpp.out]; rfl, rfl⟩
end Go.Proofs.Ytgkhdpplmdkkaaa
