/- The walk of sha.New. -/
import Derived.Test.YtgkhdpplmdkkaaaPrime
import Derived.StillTailTactics
namespace Go.Proofs.Ytgkhdpplmdkkaaa
open Go.RowKit Go.Lib

/-- the cells of a digest under way -/
def hCells (kk : Nat → UInt32) (s8 : Array Value) (rest : Value) (n : Int) : Array Value := wArr kk 64 64 ++ s8 ++ #[rest, .int .i64 n]

section
variable {kk : Nat → UInt32} {s8 : Array Value} {rest : Value} {n : Int}
theorem hCells_size (h8 : s8.size = 8) : (hCells kk s8 rest n).size = 74 := by simp [hCells, wArr_size, h8]
theorem hCells_k (h8 : s8.size = 8) {j : Nat} (hj : j < 64) : (hCells kk s8 rest n)[j]? = some (.int .u32 (I32 (kk j))) := by
  unfold hCells
  rw [Array.getElem?_append_left (by simp [wArr_size, h8]; omega), Array.getElem?_append_left (by rw [wArr_size]; exact hj), wArr_at _ _ _ _ hj, if_pos hj]
theorem hCells_s (h8 : s8.size = 8) {j : Nat} (hj : j < 8) : (hCells kk s8 rest n)[64 + j]? = s8[j]? := by
  unfold hCells
  rw [Array.getElem?_append_left (by simp [wArr_size, h8]; omega), Array.getElem?_append_right (by rw [wArr_size]; omega), wArr_size, Nat.add_sub_cancel_left]
theorem hCells_rest (h8 : s8.size = 8) : (hCells kk s8 rest n)[72]? = some rest := by
  unfold hCells
  rw [Array.getElem?_append_right (by simp [wArr_size, h8])]
  simp [wArr_size, h8]
theorem hCells_n (h8 : s8.size = 8) : (hCells kk s8 rest n)[73]? = some (.int .i64 n) := by
  unfold hCells
  rw [Array.getElem?_append_right (by simp [wArr_size, h8])]
  simp [wArr_size, h8]
theorem hCells_ext {a : Array Value} (h8 : s8.size = 8) (hs : a.size = 74) (h1 : ∀ j, j < 64 → a[j]? = some (.int .u32 (I32 (kk j)))) (h2 : ∀ j, j < 8 → a[64 + j]? = s8[j]?) (h3 : a[72]? = some rest) (h4 : a[73]? = some (.int .i64 n)) : a = hCells kk s8 rest n := by
  apply Array.ext_getElem?
  intro i
  by_cases c1 : i < 64
  · rw [h1 i c1, hCells_k h8 c1]
  · by_cases c2 : i < 72
    · obtain ⟨j, rfl⟩ : ∃ j, i = 64 + j := ⟨i - 64, by omega⟩
      rw [h2 j (by omega), hCells_s h8 (by omega)]
    · by_cases c3 : i = 72
      · subst c3; rw [h3, hCells_rest h8]
      · by_cases c4 : i = 73
        · subst c4; rw [h4, hCells_n h8]
        · rw [Array.getElem?_eq_none (by omega), Array.getElem?_eq_none (by rw [hCells_size h8]; omega)]
theorem hCells_set_s (h8 : s8.size = 8) {j : Nat} (hj : j < 8) (v : Value) : (hCells kk s8 rest n).setIfInBounds (64 + j) v = hCells kk (s8.setIfInBounds j v) rest n := by
  refine hCells_ext (by simpa using h8) (by simp [hCells_size h8]) (fun i hi => ?_) (fun i hi => ?_) ?_ ?_
  · rw [Array.getElem?_setIfInBounds_ne (by omega), hCells_k h8 hi]
  · by_cases e : i = j
    · subst e; rw [Array.getElem?_setIfInBounds_self, Array.getElem?_setIfInBounds_self, hCells_size h8, h8]; simp [hi]; omega
    · rw [Array.getElem?_setIfInBounds_ne (by omega), Array.getElem?_setIfInBounds_ne (by omega), hCells_s h8 hi]
  · rw [Array.getElem?_setIfInBounds_ne (by omega), hCells_rest h8]
  · rw [Array.getElem?_setIfInBounds_ne (by omega), hCells_n h8]
theorem hCells_set_rest (h8 : s8.size = 8) (v : Value) : (hCells kk s8 rest n).setIfInBounds 72 v = hCells kk s8 v n := by
  refine hCells_ext h8 (by simp [hCells_size h8]) (fun i hi => ?_) (fun i hi => ?_) ?_ ?_
  · rw [Array.getElem?_setIfInBounds_ne (by omega), hCells_k h8 hi]
  · rw [Array.getElem?_setIfInBounds_ne (by omega), hCells_s h8 hi]
  · rw [Array.getElem?_setIfInBounds_self, hCells_size h8]; simp
  · rw [Array.getElem?_setIfInBounds_ne (by omega), hCells_n h8]
theorem hCells_set_n (h8 : s8.size = 8) (m : Int) : (hCells kk s8 rest n).setIfInBounds 73 (.int .i64 m) = hCells kk s8 rest m := by
  refine hCells_ext h8 (by simp [hCells_size h8]) (fun i hi => ?_) (fun i hi => ?_) ?_ ?_
  · rw [Array.getElem?_setIfInBounds_ne (by omega), hCells_k h8 hi]
  · rw [Array.getElem?_setIfInBounds_ne (by omega), hCells_s h8 hi]
  · rw [Array.getElem?_setIfInBounds_ne (by omega), hCells_rest h8]
  · rw [Array.getElem?_setIfInBounds_self, hCells_size h8]; simp
end

theorem prm_small {j : Nat} (h : j < 8) : prm j < 4294967296 := by
  have : j = 0 ∨ j = 1 ∨ j = 2 ∨ j = 3 ∨ j = 4 ∨ j = 5 ∨ j = 6 ∨ j = 7 := by omega
  rcases this with rfl | rfl | rfl | rfl | rfl | rfl | rfl | rfl <;> decide +kernel

theorem zeros_fold : Array.foldl (fun cs x => cs.setIfInBounds x.snd x.fst) Try.zeroCells158 (wArr kw 64 64).zipIdx 0 64 = hCells kw (wArr iw 0 8) (.slice none 0 0) 0 := by kernel_rfl

set_option maxRecDepth 100000 in
set_option maxHeartbeats 1000000 in
theorem newsha_any (w : World) :
    Calls Try.prog 85 #[] w fun e w' => ∃ g, e = .returned (.pointer (some ⟨g, 0, none⟩)) ∧ Blk w' g 158 (hCells kw (wArr iw 8 8) (.slice none 0 0) 0) ∧ Below w.heap.size w w' ∧ w.heap.size ≤ g := by
  go_enter Try.func85, Try.ntmps85
  go_wp2_with fail
  refine (roots_any _).mono ?_
  rintro e w1 ⟨rfl, hl1⟩
  have Hl1 := Lib.hid hl1
  clear hl1
  generalize hk : wArr kw 64 64 = KW
  have Hk := Lib.hid hk
  have hks : KW.size = 64 := by rw [← hk, wArr_size]
  clear hk
  go_wp2_with fail
  refine abs_world ?_
  intro w2 hw2
  rw [← Hk.out, zeros_fold] at hw2
  have hb2 : Blk w2 w1.heap.size 158 (hCells kw (wArr iw 0 8) (.slice none 0 0) 0) := by rw [hw2]; exact Blk.new _ _ _
  have hl2 : Below w.heap.size w w2 := by rw [hw2]; exact Hl1.out.alloc Hl1.out.size _
  clear hw2
  have Hb2 := Lib.hid hb2
  have Hl2 := Lib.hid hl2
  clear hb2 hl2
  go_loopw [6] (fun i wr => ∃ j : Nat, i = .int .i64 j ∧ j ≤ 8 ∧ Blk wr w1.heap.size 158 (hCells kw (wArr iw j 8) (.slice none 0 0) 0) ∧ Below w.heap.size w wr) (fun i _ => 8 - (intOf i).toNat)
  case atStart => exact ⟨0, rfl, by omega, Hb2.out, Hl2.out⟩
  case round =>
    obtain ⟨j, rfl, hj, hb, hl⟩ := hrel
    have Hb := Lib.hid hb
    have Hl := Lib.hid hl
    clear hb hl
    by_cases h8 : j < 8
    · have hc := (Hb.out.cell (64 + j)).trans ((hCells_s (wArr_size _ _ _) h8).trans (wArr_at _ _ _ _ h8))
      have hf := Hb.out.frozen (64 + j)
      go_wp2_with fail
      refine wp_region_still_tail 8 (by kernel_rfl) (by kernel_rfl) ?_
      simp only [List.take_succ_cons, List.take_zero, List.drop_succ_cons, List.drop_zero]
      change wpStill _ _ (World.drewN wr 1) _ _ _
      still_step
      still_step
      still_step
      still_call (prime_any j h8 _)
      still_call (rootS (prm j) (prm_small h8) _)
      still_step
      still_step
      still_step
      refine wpStill_nil ?_
      rw [show UInt32.ofNat (riter (prm j) false 49) = iw j from rfl]
      go_wp2
      go_roundw
      case rel => exact ⟨j + 1, by go_num, by omega, by have := (Hb.out.drewN 1).set_ (64 + j) (.int .u32 (I32 (iw j))); rwa [hCells_set_s (wArr_size _ _ _) h8, wArr_set] at this, below_set (below_drewN Hl.out 1) Hl1.out.size _ _⟩
      case measure => simp [intOf]; omega
    · obtain rfl : j = 8 := by omega
      go_wp2
      go_ret
      exact ⟨_, rfl, Hb.out, Hl.out, Hl1.out.size⟩
end Go.Proofs.Ytgkhdpplmdkkaaa
