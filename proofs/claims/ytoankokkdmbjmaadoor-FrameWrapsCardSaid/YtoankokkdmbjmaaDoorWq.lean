/- frame's nonce and the reference's. -/
import Derived.Test.YtoankokkdmbjmaaDoorWr
import Derived.Test.YtoankokkdmbjmaaDoorJb
namespace Go.Proofs.YtoankokkdmbjmaaDoor
open Go.RowKit Go.Lib
set_option linter.unusedSimpArgs false
set_option linter.unusedVariables false
theorem nArr0 (y t n : Int) (h1 : 1 ≤ t) (h2 : t ≤ 8) (h3 : 0 ≤ y) (h4 : y ≤ 1) : (#[.int .u8 y, .int .u8 t, .int .u8 0, .int .u8 0, .int .u8 0, .int .u8 0, .int .u8 0, .int .u8 0, .int .u8 0, .int .u8 0, .int .u8 0, .int .u8 0] : Array Value) = nArr y t n 0 := by
  have e1 : y % 256 = y := by omega
  have e2 : t % 256 = t := by omega
  simp [nArr, nCell, List.range, List.range.loop, e1, e2]
theorem nArr_at (y t n : Int) (k j : Nat) (h : j < 12) : (nArr y t n k)[j]? = some (.int .u8 (nCell y t n k j)) := by
  simp [nArr, h]
theorem p256 (k : Nat) : (0 : Int) ≤ 256 ^ k := Int.pow_nonneg (by decide)
theorem byN_seven (n : Int) : byN n 7 = n % 256 := by
  unfold byN
  simp
theorem loB_length (n : Int) (k : Nat) : (loB n k).length = k := by unfold loB; rw [List.length_map, List.length_range]
theorem byN_zero (n : Int) (h0 : 0 ≤ n) (h1 : n ≤ 4611686018427387904) : byN n 0 = n / 72057594037927936 := by
  unfold byN
  simp only [Nat.sub_zero, show (256 : Int) ^ 7 = 72057594037927936 from rfl]
  omega
set_option maxHeartbeats 1000000 in
theorem nonceOf_any (t y n : Int) (w : World) (h : kn t y n) :
    Calls Tryd.prog 61 #[.int .i64 t, .int .i64 y, .int .i64 n] w fun e w' => e = .returned (.string ⟨(nonB y t n).toArray⟩) ∧ Below w.heap.size w w' := by
  obtain ⟨⟨h1, h2⟩, ⟨h3, h4⟩, h5, h6⟩ := h
  go_enter Tryd.func61, Tryd.ntmps61
  go_wp2_with fail
  rw [nArr0 y t n h1 h2 h3 h4]
  go_loopw [14] (fun i wr => ∃ k : Nat, i = .int .i64 k ∧ k ≤ 8 ∧ Blk wr w.heap.size 129 (nArr y t n k) ∧ Below w.heap.size w wr) (fun i _ => 8 - (intOf i).toNat)
  case atStart => exact ⟨0, rfl, by omega, Blk.new _ _ _, (Below.refl _ _).alloc (Nat.le_refl _) _⟩
  case round =>
    obtain ⟨k, rfl, hk, hb, hl⟩ := hrel
    have Hb := Lib.hid hb
    have Hl := Lib.hid hl
    clear hb hl
    by_cases h8 : k < 8
    · have hc := (Hb.out.cell (4 + k)).trans (nArr_at y t n k (4 + k) (by omega))
      have hf := Hb.out.frozen (4 + k)
      have hs := Hb.out.set_ (4 + k) (.int .u8 (byN n k))
      rw [nArr_set y t n k h8] at hs
      have hby := byN_shift n k h5 h8
      have Hs := Lib.hid hs
      have Hby := Lib.hid hby
      clear hs hby
      have hcs : k = 0 ∨ k = 1 ∨ k = 2 ∨ k = 3 ∨ k = 4 ∨ k = 5 ∨ k = 6 ∨ k = 7 := by omega
      rcases hcs with rfl | rfl | rfl | rfl | rfl | rfl | rfl | rfl
      all_goals
        go_wp2
        go_roundw
        case rel => first | exact ⟨1, rfl, by decide, (by have h_ := Hs.out; rw [byN_zero n h5 h6] at h_; exact h_), below_set Hl.out (Nat.le_refl _) _ _⟩ | exact ⟨2, rfl, by decide, Hs.out, below_set Hl.out (Nat.le_refl _) _ _⟩ | exact ⟨3, rfl, by decide, Hs.out, below_set Hl.out (Nat.le_refl _) _ _⟩ | exact ⟨4, rfl, by decide, Hs.out, below_set Hl.out (Nat.le_refl _) _ _⟩ | exact ⟨5, rfl, by decide, Hs.out, below_set Hl.out (Nat.le_refl _) _ _⟩ | exact ⟨6, rfl, by decide, Hs.out, below_set Hl.out (Nat.le_refl _) _ _⟩ | exact ⟨7, rfl, by decide, Hs.out, below_set Hl.out (Nat.le_refl _) _ _⟩ | exact ⟨8, rfl, by decide, (by have h_ := Hs.out; rw [byN_seven n] at h_; exact h_), below_set Hl.out (Nat.le_refl _) _ _⟩
        case measure => simp [intOf]
    · obtain rfl : k = 8 := by omega
      have hcv := run_convert_bytes_arg (P := Tryd.prog) wr 36 5 Tryd.underlying36 Tryd.underlying5 w.heap.size 0 12 12 ((List.range 12).map (nCell y t n 8)) (by simp) (fun i hi => by
        rw [Nat.zero_add, Hb.out.cell i, nArr_at y t n 8 i hi]
        simp [List.getD_eq_getElem?_getD, hi]) 9 Tryd.underlying9
      go_wp2
      go_ret
      refine ⟨?_, Hl.out⟩
      congr 2
set_option maxHeartbeats 1000000 in
theorem rnonce_any (t y n : Int) (w : World) (h : kn t y n) :
    Calls Tryd.prog 64 #[.int .i64 t, .int .i64 y, .int .i64 n] w fun e w' => e = .returned (.string ⟨(nonB y t n).toArray⟩) ∧ Below w.heap.size w w' := by
  obtain ⟨⟨h1, h2⟩, ⟨h3, h4⟩, h5, h6⟩ := h
  go_enter Tryd.func64, Tryd.ntmps64
  go_wp2_with fail
  go_loopw [2, 7, 8] (fun a b c wr => ∃ k : Nat, a = .int .i64 (n / 256 ^ k) ∧ b = .string ⟨(loB n k).toArray⟩ ∧ c = .int .i64 k ∧ k ≤ 8 ∧ Below w.heap.size w wr) (fun _ _ c _ => 8 - (intOf c).toNat)
  case atStart => exact ⟨0, by rw [Int.pow_zero, Int.ediv_one], rfl, rfl, by omega, Below.refl _ _⟩
  case round =>
    obtain ⟨k, rfl, rfl, rfl, hk, hl⟩ := hrel
    have Hl := Lib.hid hl
    clear hl
    by_cases h8 : k < 8
    · obtain ⟨q, hq⟩ : ∃ q, q = n / 256 ^ k := ⟨_, rfl⟩
      have hq0 : 0 ≤ q := by rw [hq]; exact Int.ediv_nonneg h5 (p256 k)
      have hq1 : q ≤ 4611686018427387904 := by rw [hq]; exact Int.le_trans (Int.ediv_le_self _ h5) h6
      have e1 : Int.tmod q 256 = q % 256 := Int.tmod_eq_emod_of_nonneg hq0
      have e2 : Int.tdiv q 256 = q / 256 := Int.tdiv_eq_ediv_of_nonneg hq0
      have e3 : q / 256 = n / 256 ^ (k + 1) := by rw [hq, Int.ediv_ediv_of_nonneg (p256 k), Int.pow_succ]
      have hadd := str_add [UInt8.ofNat (q % 256).toNat] (loB n k) (by rw [loB_length, List.length_singleton]; omega)
      have hlo : [UInt8.ofNat (q % 256).toNat] ++ loB n k = loB n (k + 1) := by rw [hq, loB_succ]; rfl
      rw [hlo] at hadd
      rw [← hq]
      have E3 := Lib.hid e3
      clear hq e3 hlo
      go_wp2
      go_roundw
      case rel => exact ⟨k + 1, by rw [← E3.out], rfl, by go_num, by omega, Hl.out.alloc Hl.out.size _⟩
      case measure => simp [intOf]; omega
    · obtain rfl : k = 8 := by omega
      have hadd := str_add [UInt8.ofNat y.toNat, UInt8.ofNat t.toNat, 0, 0] (loB n 8) (by rw [loB_length]; simp only [List.length_cons, List.length_nil]; omega)
      rw [nonB_is y t n h1 h2 h3 h4] at hadd
      go_wp2
      go_ret
      exact ⟨rfl, Hl.out.alloc Hl.out.size _⟩
end Go.Proofs.YtoankokkdmbjmaaDoor
