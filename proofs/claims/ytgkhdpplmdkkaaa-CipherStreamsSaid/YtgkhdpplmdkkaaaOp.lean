/- Arguments opened: a slice of bytes, a slice of such slices. -/
import Derived.Test.YtgkhdpplmdkkaaaLm
import Derived.OpenShut
import Derived.Deep.Slices
import Derived.ChangeOld
namespace Go.Proofs.Ytgkhdpplmdkkaaa
open Go.RowKit Go.Lib Go.ChangeShapes Go.Deep

theorem cell_lt {w : World} {a : Addr} {v : Value} (h : w.cell? a = some v) : a.block < w.heap.size := by
  rcases Nat.lt_or_ge a.block w.heap.size with h' | h'
  · exact h'
  · simp [World.cell?, Array.getElem?_eq_none h'] at h
theorem cellsB : Try.prog.cellsOf 5 = 1 := by kernel_rfl
theorem cellsBs : Try.prog.cellsOf 27 = 1 := by kernel_rfl
theorem I8_of {z : Int} (h : (Lit.int .u8 z).wf = true) : I8 (UInt8.ofNat z.toNat) = z := by
  have h2 : (0 : Int) ≤ z ∧ z ≤ 255 := by simpa [Lit.wf, IntKind.min, IntKind.max, IntKind.signed, IntKind.bits] using h
  unfold I8
  rw [UInt8.toNat_ofNat_of_lt' (by show _ < 2 ^ 8; omega)]
  omega

section
variable {H : Type} {enc : TypeId × Value → H} {w : World} {base : Nat} {spare : Nat → Bool} {held : Bool}
theorem open_rowB {fuel : Nat} {v : Value} {x : DataW H × List MemPlace} (h : DataW.trod enc Try.prog w base spare held fuel 27 [v] = some x) : ∃ l, RowB w v l := by
  rcases open_slice1 Try.underlying27 cellsB h with ⟨hcs, _⟩ | ⟨a, len, cap, m, n, V, D, Pl, hcs, _, hl, _, hmm, _, hx⟩
  · injection hcs with h1 _
    subst h1
    exact ⟨[], none, 0, rfl, fun h => absurd h (by simp)⟩
  · injection hcs with h1 _
    subst h1
    have hlm : len ≤ m := by rw [hmm]; split <;> omega
    obtain ⟨U, hU⟩ := choose_lt (α := UInt8) (n := m) (p := fun i u => w.cell? (a.add i) = some (.int .u8 (I8 u))) (fun i hi => by
      obtain ⟨h1, h2⟩ := hx i hi
      obtain ⟨z, e, _, wz⟩ := DataW.trod_int Try.underlying5 h2
      injection e with e _
      exact ⟨UInt8.ofNat z.toNat, by rw [h1, e, I8_of wz]⟩)
    refine ⟨(List.range len).map U, some a, cap, by simp, fun h0 => ?_⟩
    rw [List.length_map, List.length_range] at h0
    obtain ⟨b, off, spot⟩ := a
    have hspot : spot = none := by simpa [Addr.add] using World.cell?_spot (hU 0 (by omega))
    subst hspot
    refine ⟨b, off, rfl, by rw [List.length_map, List.length_range]; exact hl, by simpa [block_of_add] using cell_lt (hU 0 (by omega)), fun j hj => ?_⟩
    rw [List.length_map, List.length_range] at hj
    have h1 := hU j (by omega)
    have hadd : (⟨b, off, none⟩ : Addr).add j = ⟨b, off + j, none⟩ := by unfold Addr.add; split <;> simp_all
    rw [hadd] at h1
    rw [h1]
    unfold gt
    rw [List.getD_eq_getElem?_getD, List.getElem?_map, List.getElem?_range hj]
    rfl
theorem open_rowBs {fuel : Nat} {v : Value} {x : DataW H × List MemPlace} (h : DataW.trod enc Try.prog w base spare held fuel 59 [v] = some x) : ∃ A n c Ls, v = .slice A n c ∧ n ≤ maxLen ∧ RowBs w A n Ls := by
  rcases open_slice1 Try.underlying59 cellsBs h with ⟨hcs, _⟩ | ⟨a, len, cap, m, n, V, D, Pl, hcs, _, hl, hcm, hmm, _, hx⟩
  · injection hcs with h1 _
    subst h1
    exact ⟨none, 0, 0, fun _ => [], rfl, Nat.zero_le _, fun h => absurd h (by omega)⟩
  · injection hcs with h1 _
    subst h1
    have hlm : len ≤ m := by rw [hmm]; split <;> omega
    obtain ⟨U, hU⟩ := choose_lt (α := List UInt8) (n := m) (p := fun i l => RowB w (V i) l) (fun i hi => open_rowB (hx i hi).2)
    refine ⟨some a, len, cap, U, rfl, Nat.le_trans hl hcm, fun h0 => ?_⟩
    obtain ⟨b, off, spot⟩ := a
    have hspot : spot = none := by simpa [Addr.add] using World.cell?_spot (hx 0 (by omega)).1
    subst hspot
    refine ⟨b, off, rfl, by simpa [block_of_add] using cell_lt (hx 0 (by omega)).1, fun i hi => ⟨V i, ?_, hU i (by omega)⟩⟩
    have h1 := (hx i (by omega)).1
    have hadd : (⟨b, off, none⟩ : Addr).add i = ⟨b, off + i, none⟩ := by unfold Addr.add; split <;> simp_all
    rwa [hadd] at h1
end
end Go.Proofs.Ytgkhdpplmdkkaaa
