/- Plain facts on hidden and sealed texts. -/
import Derived.Test.YtoankokkdmbjmaaDoorSe
namespace Go.Proofs.YtoankokkdmbjmaaDoor
open Go.RowKit Go.Lib

theorem hid_hid (key nonce text : List UInt8) : hid key nonce (hid key nonce text) = text := by
  apply List.ext_getElem (by rw [hid_length, hid_length])
  intro j h1 h2
  have hj : j < text.length := h2
  have e1 : gt (hid key nonce text) j = gt text j ^^^ ks (begP key nonce) (0 + j) := by
    unfold gt hid hidA
    rw [List.getD_eq_getElem?_getD, List.getElem?_map, List.getElem?_range hj]
    rfl
  have e2 : (hid key nonce (hid key nonce text))[j] = gt (hid key nonce text) j ^^^ ks (begP key nonce) (0 + j) := by
    show ((List.range (hid key nonce text).length).map fun j => gt (hid key nonce text) j ^^^ ks (begP key nonce) (0 + j))[j]'(by rw [List.length_map, List.length_range, hid_length]; exact hj) = _
    rw [List.getElem_map, List.getElem_range]
  rw [e2, e1, UInt8.xor_assoc, UInt8.xor_self, UInt8.xor_zero]
  unfold gt
  rw [List.getD_eq_getElem?_getD, List.getElem?_eq_getElem hj]
  rfl

/-- of a sealed text with another seal -/
theorem openP_app (secret nonce lab H o : List UInt8) (ho : o.length = 16) : openP secret nonce lab (H ++ o) = if tagP (key2 secret) nonce lab H = o then (hid (key1 secret) nonce H, 0) else ([], 4) := by
  unfold openP
  have h1 : (H ++ o).length - 16 = H.length := by rw [List.length_append, ho]; omega
  rw [h1, List.take_left, List.drop_left]
theorem open_seal (secret nonce lab text : List UInt8) : openP secret nonce lab (sealP secret nonce lab text) = (text, 0) := by
  unfold sealP
  rw [openP_app _ _ _ _ _ (tagP_length _ _ _ _), if_pos rfl, hid_hid]
theorem seal_open (secret nonce lab sl : List UInt8) (h : (openP secret nonce lab sl).2 = 0) : sealP secret nonce lab (openP secret nonce lab sl).1 = sl := by
  unfold openP at h ⊢
  split at h
  · rename_i hc
    rw [if_pos hc]
    unfold sealP
    rw [hid_hid, hc, List.take_append_drop]
  · simp at h
theorem openP_bad (secret nonce lab sl : List UInt8) (h : (openP secret nonce lab sl).2 ≠ 0) : openP secret nonce lab sl = ([], 4) := by
  unfold openP at h ⊢
  split at h
  · simp at h
  · rename_i hc; rw [if_neg hc]
end Go.Proofs.YtoankokkdmbjmaaDoor
