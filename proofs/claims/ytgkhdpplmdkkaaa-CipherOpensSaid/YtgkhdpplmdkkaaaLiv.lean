/- The walk of the laws' own question of layer 19 (lives). -/
import Derived.Test.YtgkhdpplmdkkaaaSe
namespace Go.Proofs.Ytgkhdpplmdkkaaa
open Go.RowKit Go.Lib

def nul (n : Nat) : List UInt8 := List.replicate n 0
theorem nul_length (n : Nat) : (nul n).length = n := by simp [nul]
theorem zRow_nul (n : Nat) : zRow (fun _ => 0) 0 n = (bv (nul n)).toArray := by
  apply Array.ext_getElem?
  intro j
  by_cases h : j < n
  · rw [zRow_at _ _ _ _ h]
    simp [bv, nul, h]
  · rw [Array.getElem?_eq_none (by rw [zRow_size]; omega), Array.getElem?_eq_none (by simp [bv, nul]; omega)]
def zo (n : Nat) : Obj := .cells (zRow (fun _ => 0) 0 n) 5
set_option maxRecDepth 100000 in
theorem conv_at {W : World} {n g : Nat} (h : W.heap[g]? = some (zo n)) : (convert 27 9 (.slice (some ⟨g, 0, none⟩) n n)).run Try.prog W = .ok (.string ⟨(nul n).toArray⟩) W := by
  have := run_convert_bytes_back (P := Try.prog) W 27 9 5 ⟨g, 0, none⟩ n (nul n) (by kernel_rfl) (by kernel_rfl) (by kernel_rfl) (fun j hj => by
    have hadd : (⟨g, 0, none⟩ : Addr).add j = ⟨g, j, none⟩ := by unfold Addr.add; split <;> simp_all
    rw [hadd, cell_of_row W g j _ _ _ h, zRow_nul, List.getElem?_toArray, bv_at, List.getElem?_eq_getElem hj]
    rfl)
  rwa [nul_length] at this
@[go_sem] theorem conv_n1 {w : World} {n g : Nat} (hg : g = w.heap.size) : (convert 27 9 (.slice (some ⟨g, 0, none⟩) n n)).run Try.prog (w.alloc (.cells (zRow (fun _ => 0) 0 n) 5)) = .ok (.string ⟨(nul n).toArray⟩) (w.alloc (.cells (zRow (fun _ => 0) 0 n) 5)) := by
  subst hg; exact conv_at (heap_alloc_new w _)
@[go_sem] theorem conv_n2 {w : World} {n g : Nat} (hg : g = w.heap.size) : (convert 27 9 (.slice (some ⟨g, 0, none⟩) n n)).run Try.prog (w.alloc (.cells (zRow (fun _ => 0) 0 n) 5)).drew = .ok (.string ⟨(nul n).toArray⟩) (w.alloc (.cells (zRow (fun _ => 0) 0 n) 5)).drew := by
  subst hg; exact conv_at (heap_alloc_new w _)
@[go_sem] theorem conv_o1 {w : World} {n g : Nat} {o : Obj} (hg : g = w.heap.size) : (convert 27 9 (.slice (some ⟨g, 0, none⟩) n n)).run Try.prog ((w.alloc (.cells (zRow (fun _ => 0) 0 n) 5)).alloc o) = .ok (.string ⟨(nul n).toArray⟩) ((w.alloc (.cells (zRow (fun _ => 0) 0 n) 5)).alloc o) := by
  subst hg; exact conv_at ((Below.heap_alloc _ o _ (by simp)).trans (heap_alloc_new w _))
@[go_sem] theorem conv_o2 {w : World} {n g : Nat} {o : Obj} (hg : g = w.heap.size) : (convert 27 9 (.slice (some ⟨g, 0, none⟩) n n)).run Try.prog ((w.alloc (.cells (zRow (fun _ => 0) 0 n) 5)).alloc o).drew = .ok (.string ⟨(nul n).toArray⟩) ((w.alloc (.cells (zRow (fun _ => 0) 0 n) 5)).alloc o).drew := by
  subst hg; exact conv_at ((Below.heap_alloc _ o _ (by simp)).trans (heap_alloc_new w _))
@[go_sem] theorem conv_o3 {w : World} {n g : Nat} {o : Obj} (hg : g = w.heap.size) : (convert 27 9 (.slice (some ⟨g, 0, none⟩) n n)).run Try.prog ((w.alloc (.cells (zRow (fun _ => 0) 0 n) 5)).drew.alloc o) = .ok (.string ⟨(nul n).toArray⟩) ((w.alloc (.cells (zRow (fun _ => 0) 0 n) 5)).drew.alloc o) := by
  subst hg; exact conv_at ((Below.heap_alloc _ o _ (by simp)).trans (heap_alloc_new w _))

set_option maxRecDepth 100000 in
set_option maxHeartbeats 4000000 in
theorem lives_any (w : World) : Calls Try.prog 27 #[] w fun e w' => e = .returned (.bool true) ∧ Below w.heap.size w w' := by
  have m32 : ∀ W, (Instr.makeSlice 27 (.int .i64 32) (.int .i64 32)).run Try.prog W = .ok (.slice (some ⟨W.heap.size, 0, none⟩) 32 32) (W.alloc (.cells (zRow (fun _ => 0) 0 32) 5)) := fun W => make_any (fun _ => 0) 32 32 (by omega) (by omega) W
  have m12 : ∀ W, (Instr.makeSlice 27 (.int .i64 12) (.int .i64 12)).run Try.prog W = .ok (.slice (some ⟨W.heap.size, 0, none⟩) 12 12) (W.alloc (.cells (zRow (fun _ => 0) 0 12) 5)) := fun W => make_any (fun _ => 0) 12 12 (by omega) (by omega) W
  go_enter Try.func27, Try.ntmps27
  go_wp2_with fail
  go_region
  all_goals
    refine abs_q ?_
    intro w1 hw1
    have hl1 : Below w.heap.size w w1 := by
      rw [hw1]
      exact below_drewN' (((Below.refl _ _).alloc (Nat.le_refl _) _).alloc (by simp) _) 1
    have Hl1 := Lib.hid hl1
    clear hw1 hl1 m32 m12
    go_wp2_with fail
    refine (hide_any (nul 32) (nul 12) [] _ (nul_length 32) (nul_length 12) (by decide)).mono ?_
    rintro e w2 ⟨rfl, hl2⟩
    rw [show hid (nul 32) (nul 12) [] = [] from rfl]
    have hB2 := Hl1.out.trans (hl2.mono Hl1.out.size)
    have HB2 := Lib.hid hB2
    clear hl2 hB2
    go_wp2_with fail
    refine (cseal_any [115] (nul 12) [108] [116, 101, 120, 116] _ (by decide) (nul_length 12) (by decide) (by decide)).mono ?_
    rintro e w3 ⟨rfl, hl3⟩
    obtain ⟨X, hX⟩ : ∃ X, X = sealP [115] (nul 12) [108] [116, 101, 120, 116] := ⟨_, rfl⟩
    rw [← hX]
    have hXl : (X.length : Int) = 20 := by rw [hX, sealP_length]; rfl
    have hB3 := HB2.out.trans (hl3.mono HB2.out.size)
    have HB3 := Lib.hid hB3
    clear hl3 hB3 hX
    go_wp2_with fail
    refine (blk_any (nul 32) (nul 12) 0 _ (nul_length 32) (nul_length 12)).mono ?_
    rintro e w4 ⟨rfl, hl4⟩
    obtain ⟨Y, hY⟩ : ∃ Y, Y = blkP (begP (nul 32) (nul 12)) 0 := ⟨_, rfl⟩
    rw [← hY]
    have hYl : (Y.length : Int) = 64 := by rw [hY, blkP_length]; rfl
    have hB4 := HB3.out.trans (hl4.mono HB3.out.size)
    have HB4 := Lib.hid hB4
    clear hl4 hB4 hY
    go_wp2_with fail
    go_ret
    exact ⟨rfl, HB4.out⟩
end Go.Proofs.Ytgkhdpplmdkkaaa
