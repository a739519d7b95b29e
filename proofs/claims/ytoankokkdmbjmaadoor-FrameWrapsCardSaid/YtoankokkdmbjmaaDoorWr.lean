/- frame's nonces, Wrap and Unwrap, and the reference's. -/
import Derived.Test.YtoankokkdmbjmaaDoorJa
namespace Go.Proofs.YtoankokkdmbjmaaDoor
open Go.RowKit Go.Lib
set_option linter.unusedSimpArgs false
set_option linter.unusedVariables false

theorem within_any (n a b : Int) (w : World) :
    Calls Tryd.prog 36 #[.int .i64 n, .int .i64 a, .int .i64 b] w fun e w' => e = .returned (.bool (decide (a ≤ n ∧ n ≤ b))) ∧ w' = w := by
  by_cases h1 : a ≤ n
  · by_cases h2 : n ≤ b
    · rw [decide_eq_true ⟨h1, h2⟩]
      go_enter Tryd.func36, Tryd.ntmps36
      go_wp2
      go_ret
      exact ⟨by simp [h2], rfl⟩
    · rw [decide_eq_false (fun h => h2 h.2)]
      go_enter Tryd.func36, Tryd.ntmps36
      go_wp2
      go_ret
      exact ⟨by simp [h2], rfl⟩
  · rw [decide_eq_false (fun h => h1 h.1)]
    go_enter Tryd.func36, Tryd.ntmps36
    go_wp2
    go_ret
    exact ⟨rfl, rfl⟩
/-- what a tenant, a way and a number may be -/
def kn (t y n : Int) : Prop := (1 ≤ t ∧ t ≤ 8) ∧ (0 ≤ y ∧ y ≤ 1) ∧ (0 ≤ n ∧ n ≤ 4611686018427387904)
theorem known_yes (t y n : Int) (w : World) (h : kn t y n) :
    Calls Tryd.prog 59 #[.int .i64 t, .int .i64 y, .int .i64 n] w fun e w' => e = .returned (.bool true) ∧ w' = w := by
  obtain ⟨h1, h2, h3⟩ := h
  have d1 := decide_eq_true h1
  have d2 := decide_eq_true h2
  have d3 := decide_eq_true h3
  clear h1 h2 h3
  go_enter Tryd.func59, Tryd.ntmps59
  go_wp2_with (go_at_call 36; refine (within_any _ _ _ _).mono ?_; rintro e w' ⟨rfl, rfl⟩)
  go_ret
  exact ⟨by simp [d1, d2, d3], rfl⟩
theorem known_no (t y n : Int) (w : World) (h : ¬ kn t y n) :
    Calls Tryd.prog 59 #[.int .i64 t, .int .i64 y, .int .i64 n] w fun e w' => e = .returned (.bool false) ∧ w' = w := by
  by_cases h1 : 1 ≤ t ∧ t ≤ 8
  · have d1 := decide_eq_true h1
    by_cases h2 : 0 ≤ y ∧ y ≤ 1
    · have d2 := decide_eq_true h2
      have h3 : ¬ (0 ≤ n ∧ n ≤ 4611686018427387904) := fun h3 => h ⟨h1, h2, h3⟩
      have d3 := decide_eq_false h3
      clear h h1 h2 h3
      go_enter Tryd.func59, Tryd.ntmps59
      go_wp2_with (go_at_call 36; refine (within_any _ _ _ _).mono ?_; rintro e w' ⟨rfl, rfl⟩)
      go_ret
      exact ⟨by simp [d1, d2, d3], rfl⟩
    · have d2 := decide_eq_false h2
      clear h h1 h2
      go_enter Tryd.func59, Tryd.ntmps59
      go_wp2_with (go_at_call 36; refine (within_any _ _ _ _).mono ?_; rintro e w' ⟨rfl, rfl⟩)
      go_ret
      exact ⟨by simp [d1, d2], rfl⟩
  · have d1 := decide_eq_false h1
    clear h h1
    go_enter Tryd.func59, Tryd.ntmps59
    go_wp2_with (go_at_call 36; refine (within_any _ _ _ _).mono ?_; rintro e w' ⟨rfl, rfl⟩)
    go_ret
    exact ⟨by simp [d1], rfl⟩
theorem rknown_yes (t y n : Int) (w : World) (h : kn t y n) :
    Calls Tryd.prog 62 #[.int .i64 t, .int .i64 y, .int .i64 n] w fun e w' => e = .returned (.bool true) ∧ w' = w := by
  obtain ⟨⟨h1, h2⟩, ⟨h3, h4⟩, h5, h6⟩ := h
  go_enter Tryd.func62, Tryd.ntmps62
  go_wp2
  go_ret
  exact ⟨by simp [h6], rfl⟩
theorem rknown_no (t y n : Int) (w : World) (h : ¬ kn t y n) :
    Calls Tryd.prog 62 #[.int .i64 t, .int .i64 y, .int .i64 n] w fun e w' => e = .returned (.bool false) ∧ w' = w := by
  have H := Lib.hid h
  clear h
  go_enter Tryd.func62, Tryd.ntmps62
  go_wp2
  all_goals go_ret
  all_goals exact ⟨by have := H.out; unfold kn at this; first | rfl | (simp; omega), rfl⟩

/-- the i-th of a number's eight bytes -/
def byN (n : Int) (i : Nat) : Int := n / 256 ^ (7 - i) % 256
def nCell (y t n : Int) (k j : Nat) : Int := if j = 0 then y % 256 else if j = 1 then t % 256 else if j < 4 then 0 else if j < 4 + k then byN n (j - 4) else 0
def nArr (y t n : Int) (k : Nat) : Array Value := ((List.range 12).map fun j => Value.int .u8 (nCell y t n k j)).toArray
theorem nArr_set (y t n : Int) (k : Nat) (h : k < 8) : (nArr y t n k).setIfInBounds (4 + k) (.int .u8 (byN n k)) = nArr y t n (k + 1) := by
  unfold nArr
  rw [List.setIfInBounds_toArray]
  congr 1
  apply List.ext_getElem
  · simp
  · intro j h1 h2
    simp only [List.getElem_set, List.getElem_map, List.getElem_range]
    by_cases e : 4 + k = j
    · rw [if_pos e, nCell, if_neg (by omega), if_neg (by omega), if_neg (by omega), if_pos (by omega), show j - 4 = k by omega]
    · rw [if_neg e, nCell, nCell]
      by_cases e2 : j < 4 + k
      · rw [if_pos (show j < 4 + k by omega), if_pos (show j < 4 + (k + 1) by omega)]
      · rw [if_neg (show ¬ j < 4 + k by omega), if_neg (show ¬ j < 4 + (k + 1) by omega)]
/-- a nonce: a way, a tenant, two zeros, a number -/
def nonB (y t n : Int) : List UInt8 := (List.range 12).map fun j => UInt8.ofNat (nCell y t n 8 j).toNat
theorem nonB_length (y t n : Int) : (nonB y t n).length = 12 := by simp [nonB]
theorem byN_shift (n : Int) (i : Nat) (h0 : 0 ≤ n) (hi : i < 8) : n / 2 ^ (56 - 8 * i) % 256 = byN n i := by
  have hc : i = 0 ∨ i = 1 ∨ i = 2 ∨ i = 3 ∨ i = 4 ∨ i = 5 ∨ i = 6 ∨ i = 7 := by omega
  rcases hc with rfl | rfl | rfl | rfl | rfl | rfl | rfl | rfl <;> rfl
theorem byN_bound (n : Int) (i : Nat) : 0 ≤ byN n i ∧ byN n i < 256 := by unfold byN; omega
/-- the low k bytes of a number, the highest first -/
def loB (n : Int) (k : Nat) : List UInt8 := (List.range k).map fun i => UInt8.ofNat (n / 256 ^ (k - 1 - i) % 256).toNat
theorem loB_succ (n : Int) (k : Nat) : loB n (k + 1) = UInt8.ofNat (n / 256 ^ k % 256).toNat :: loB n k := by
  unfold loB
  rw [List.range_succ_eq_map, List.map_cons, List.map_map]
  congr 1
  apply List.map_congr_left
  intro i hi
  have := List.mem_range.1 hi
  simp only [Function.comp]
  rw [show k + 1 - 1 - (i + 1) = k - 1 - i by omega]
theorem nonB_is (y t n : Int) (h1 : 1 ≤ t) (h2 : t ≤ 8) (h3 : 0 ≤ y) (h4 : y ≤ 1) : [UInt8.ofNat y.toNat, UInt8.ofNat t.toNat, 0, 0] ++ loB n 8 = nonB y t n := by
  have e1 : y % 256 = y := by omega
  have e2 : t % 256 = t := by omega
  simp [nonB, nCell, loB, byN, List.range, List.range.loop, e1, e2]

end Go.Proofs.YtoankokkdmbjmaaDoor
