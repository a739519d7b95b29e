/- The walk of the laws' own test of lengths (short); plain facts on hidden and sealed texts. -/
import Derived.Test.YtgkhdpplmdkkaaaLiv
namespace Go.Proofs.Ytgkhdpplmdkkaaa
open Go.RowKit Go.Lib

/-- four texts as they lie -/
def s4Arr (L : Nat → List UInt8) : Array Value := #[.string ⟨(L 0).toArray⟩, .string ⟨(L 1).toArray⟩, .string ⟨(L 2).toArray⟩, .string ⟨(L 3).toArray⟩]
def agg4s (L : Nat → List UInt8) : Value := .agg (s4Arr L)
theorem s4_at (L : Nat → List UInt8) (i : Nat) (h : i < 4) : (s4Arr L)[i]? = some (.string ⟨(L i).toArray⟩) := by
  have : i = 0 ∨ i = 1 ∨ i = 2 ∨ i = 3 := by omega
  rcases this with rfl | rfl | rfl | rfl <;> rfl

/-- are four texts short? -/
def shortB (L : Nat → List UInt8) : Bool := decide ((L 0).length ≤ 1000) && (decide ((L 1).length ≤ 1000) && (decide ((L 2).length ≤ 1000) && decide ((L 3).length ≤ 1000)))
theorem shortB_iff (L : Nat → List UInt8) : shortB L = true ↔ ∀ i, i < 4 → (L i).length ≤ 1000 := by
  unfold shortB
  simp only [Bool.and_eq_true, decide_eq_true_iff]
  constructor
  · rintro ⟨h0, h1, h2, h3⟩ i hi
    have : i = 0 ∨ i = 1 ∨ i = 2 ∨ i = 3 := by omega
    rcases this with rfl | rfl | rfl | rfl <;> assumption
  · intro h
    exact ⟨h 0 (by omega), h 1 (by omega), h 2 (by omega), h 3 (by omega)⟩

set_option maxRecDepth 100000 in
set_option maxHeartbeats 2000000 in
theorem short_any (L : Nat → List UInt8) (w : World) : Calls Try.prog 31 #[agg4s L] w fun e w' => e = .returned (.bool (shortB L)) ∧ Below w.heap.size w w' := by
  unfold agg4s s4Arr
  go_enter Try.func31, Try.ntmps31
  go_wp2_with fail
  refine abs_world ?_
  intro w1 hw1
  have hb1 : Blk w1 w.heap.size 56 (s4Arr L) := by rw [hw1]; exact Blk.new _ _ _
  have hl1 : Below w.heap.size w w1 := by rw [hw1]; exact (Below.refl _ _).alloc (Nat.le_refl _) _
  have Hb1 := Lib.hid hb1
  have Hl1 := Lib.hid hl1
  clear hw1 hb1 hl1
  go_loopw [3] (fun i wr => ∃ j : Nat, i = .int .i64 j ∧ j ≤ 4 ∧ (∀ t, t < j → (L t).length ≤ 1000) ∧ wr = w1) (fun i _ => 4 - (intOf i).toNat)
  case atStart => exact ⟨0, rfl, by omega, fun t ht => absurd ht (by omega), rfl⟩
  case round =>
    obtain ⟨j, rfl, hj, ht, rfl⟩ := hrel
    have Ht := Lib.hid ht
    clear ht
    by_cases h4 : j < 4
    · have hd4 : decide ((j : Int) < 4) = true := by simp; omega
      have hj' : (j : Int) < 4 := by omega
      have c0 := (Hb1.out.cell j).trans (s4_at L j h4)
      by_cases hx : (L j).length ≤ 1000
      · have hx2 : decide ((1000 : Int) < ((L j).length : Int)) = false := by simp; omega
        have Hx := Lib.hid hx
        clear hx
        go_wp2_with fail
        go_roundw
        case rel =>
          refine ⟨j + 1, by go_num, by omega, fun t h => ?_, by first | rfl | trivial⟩
          rcases Nat.lt_or_ge t j with h1 | h1
          · exact Ht.out t h1
          · obtain rfl : t = j := by omega
            exact Hx.out
        case measure => simp [intOf]; omega
      · have hx2 : decide ((1000 : Int) < ((L j).length : Int)) = true := by simp; omega
        have hF : shortB L = false := by
          rw [Bool.eq_false_iff]
          intro h
          exact hx ((shortB_iff L).1 h j h4)
        have HF := Lib.hid hF
        clear hx hF
        go_wp2_with fail
        go_ret
        exact ⟨by rw [HF.out]; rfl, Hl1.out⟩
    · have hd4 : decide ((j : Int) < 4) = false := by simp; omega
      have hF : shortB L = true := by
        rw [shortB_iff]
        intro i hi
        exact Ht.out i (by omega)
      have HF := Lib.hid hF
      clear hF
      go_wp2_with fail
      go_ret
      exact ⟨by rw [HF.out]; rfl, Hl1.out⟩

theorem hid_hid (key nonce text : List UInt8) : hid key nonce (hid key nonce text) = text := by
  apply List.ext_getElem (by rw [hid_length, hid_length])
  intro j h1 h2
  have hj : j < text.length := h2
  have e1 : gt (hid key nonce text) j = gt text j ^^^ ks (begP key nonce) (0 + j) := by
    unfold gt hid hidA
    rw [List.getD_eq_getElem?_getD, List.getElem?_map, List.getElem?_range hj]
    rfl
  have e2 : (hid key nonce (hid key nonce text))[j] = gt (hid key nonce text) j ^^^ ks (begP key nonce) (0 + j) := by
    show ((List.range (hid key nonce text).length).map fun j => gt (hid key nonce text) j ^^^ ks (begP key nonce) (0 + j))[j]'(by rw [List.length_map, List.length_range, hid_length]; exact hj) = _
    rw [List.getElem_map, List.getElem_range]
  rw [e2, e1, UInt8.xor_assoc, UInt8.xor_self, UInt8.xor_zero]
  unfold gt
  rw [List.getD_eq_getElem?_getD, List.getElem?_eq_getElem hj]
  rfl

/-- of a sealed text with another seal -/
theorem openP_app (secret nonce lab H o : List UInt8) (ho : o.length = 16) : openP secret nonce lab (H ++ o) = if tagP (key2 secret) nonce lab H = o then (hid (key1 secret) nonce H, 0) else ([], 4) := by
  unfold openP
  have h1 : (H ++ o).length - 16 = H.length := by rw [List.length_append, ho]; omega
  rw [h1, List.take_left, List.drop_left]
theorem open_seal (secret nonce lab text : List UInt8) : openP secret nonce lab (sealP secret nonce lab text) = (text, 0) := by
  unfold sealP
  rw [openP_app _ _ _ _ _ (tagP_length _ _ _ _), if_pos rfl, hid_hid]
theorem seal_open (secret nonce lab sl : List UInt8) (h : (openP secret nonce lab sl).2 = 0) : sealP secret nonce lab (openP secret nonce lab sl).1 = sl := by
  unfold openP at h ⊢
  split at h
  · rename_i hc
    rw [if_pos hc]
    unfold sealP
    rw [hid_hid, hc, List.take_append_drop]
  · simp at h
theorem openP_bad (secret nonce lab sl : List UInt8) (h : (openP secret nonce lab sl).2 ≠ 0) : openP secret nonce lab sl = ([], 4) := by
  unfold openP at h ⊢
  split at h
  · simp at h
  · rename_i hc; rw [if_neg hc]
end Go.Proofs.Ytgkhdpplmdkkaaa
