/- The contract of mac.Derive. -/
import Derived.Test.YtgkhdpplmdkkaaaMc
namespace Go.Proofs.Ytgkhdpplmdkkaaa
open Go.RowKit Go.Lib

def dlast (key lab : List UInt8) : Nat → List UInt8
  | 0 => []
  | k + 1 => sealB key (dlast key lab k ++ lab ++ [UInt8.ofNat (k + 1)])
def dout (key lab : List UInt8) : Nat → List UInt8
  | 0 => []
  | k + 1 => dout key lab k ++ dlast key lab (k + 1)
theorem dlast_le (key lab : List UInt8) (k : Nat) : (dlast key lab k).length ≤ 32 := by
  cases k with
  | zero => simp [dlast]
  | succ k => simp [dlast, seal_length]
theorem dlast_length (key lab : List UInt8) (k : Nat) : (dlast key lab (k + 1)).length = 32 := seal_length _ _
theorem dout_length (key lab : List UInt8) (k : Nat) : (dout key lab k).length = 32 * k := by
  induction k with
  | zero => rfl
  | succ k ih => simp [dout, ih, dlast_length]; omega

theorem OwnB.cap_le {w : World} {base n c : Nat} {A : Option Addr} {l : List UInt8} (h : OwnB w base (.slice A n c) l) (h0 : 0 < l.length) : l.length ≤ c := by
  rcases h.2 with ⟨_, h1⟩ | ⟨g, cap, cur, hv, _, _, hnc, _⟩
  · omega
  · injection hv with _ _ h3; omega
theorem u8_succ (k : Nat) : UInt8.ofNat (k + 1) = UInt8.ofNat k + 1 := by
  apply UInt8.toNat_inj.1
  simp [UInt8.toNat_add]

set_option maxRecDepth 100000 in
set_option maxHeartbeats 2000000 in
theorem derive_any (key lab : List UInt8) (w : World) (hk : key.length ≤ 1099511627776) (hm : lab.length ≤ 1000) :
    Calls Try.prog 52 #[.string ⟨key.toArray⟩, .string ⟨lab.toArray⟩, .int .i64 64] w fun e w' => e = .returned (.tuple #[.string ⟨(dout key lab 2).toArray⟩, .int .i64 0]) ∧ Below w.heap.size w w' := by
  go_enter Try.func52, Try.ntmps52
  go_wp2_with fail
  go_loopw [8, 9, 10] (fun b l i wr => ∃ (k : Nat) (A : Option Addr) (c : Nat), k ≤ 2 ∧ i = .int .u8 ((k + 1 : Nat) : Int) ∧ l = .string ⟨(dlast key lab k).toArray⟩ ∧ b = .slice A (32 * k) c ∧ OwnB wr w.heap.size (.slice A (32 * k) c) (dout key lab k) ∧ Below w.heap.size w wr) (fun _ _ i _ => 10 - (intOf i).toNat)
  case atStart => exact ⟨0, none, 0, by omega, rfl, rfl, rfl, OwnB.nil _ _, Below.refl _ _⟩
  case round =>
    obtain ⟨k, A, c, hk2, rfl, rfl, rfl, ho, hl⟩ := hrel
    have Ho := Lib.hid ho
    have Hl := Lib.hid hl
    clear ho hl
    by_cases h2 : k < 2
    · have hdl : ∃ D, D = dlast key lab k := ⟨_, rfl⟩
      obtain ⟨D, hD⟩ := hdl
      have hDl : D.length ≤ 32 := by rw [hD]; exact dlast_le _ _ _
      rw [← hD]
      have HD := Lib.hid hD
      clear hD
      have hlt : ((32 * k : Nat) : Int) < 64 := by omega
      have ha1 := str_add D lab (by omega)
      have ha2 := str_add (D ++ lab) [UInt8.ofNat k + 1] (by simp; omega)
      go_wp2_with fail
      refine (seal_any key (D ++ (lab ++ [UInt8.ofNat k + 1])) _ hk (by simp; omega)).mono ?_
      rintro e w2 ⟨rfl, hl2⟩
      have hS : sealB key (D ++ (lab ++ [UInt8.ofNat k + 1])) = dlast key lab (k + 1) := by rw [HD.out, ← u8_succ, ← List.append_assoc]; rfl
      rw [hS]
      have ho2 : OwnB w2 w.heap.size (.slice A (32 * k) c) (dout key lab k) := (Ho.out.alloc _).below_size hl2
      have hl2w : Below w.heap.size w w2 := (Hl.out.alloc Hl.out.size _).trans (hl2.mono (by have := Hl.out.size; simp; omega))
      have Ho2 := Lib.hid ho2
      have Hl2 := Lib.hid hl2w
      clear hl2 hS ho2 hl2w
      go_wp2_with (at_builtin; refine wpList_app_str rfl (.tmp 32) (.tmp 33) rfl w.heap.size (.slice A (32 * k) c) (dout key lab k) rfl Ho2.out (dlast key lab (k + 1)) rfl (by rw [dlast_length, dout_length]; omega) Hl2.out.size ?_; intro v3 w3 ho3 hg3)
      obtain ⟨A3, c3, hv3, _⟩ := ho3.form
      subst hv3
      have hl3 : Below w.heap.size w w3 := below_app Hl2.out Ho2.out hg3 (Nat.le_refl _) Hl2.out.size
      have hlen : (dout key lab k ++ dlast key lab (k + 1)).length = 32 * (k + 1) := by rw [List.length_append, dlast_length, dout_length]; omega
      rw [hlen] at ho3
      rw [hlen]
      go_roundw
      case rel =>
        refine ⟨k + 1, A3, c3, by omega, ?_, rfl, rfl, ho3, hl3⟩
        have : k = 0 ∨ k = 1 := by omega
        rcases this with rfl | rfl <;> rfl
      case measure =>
        have : k = 0 ∨ k = 1 := by omega
        rcases this with rfl | rfl <;> decide
    · obtain rfl : k = 2 := by omega
      have hcc := Ho.out.cap_le (by rw [dout_length]; omega)
      rw [dout_length] at hcc
      have hci : (64 : Int) ≤ (c : Int) := by omega
      have hs := Ho.out.string
      simp only [Nat.reduceMul] at hs
      go_wp2
      go_ret2
      exact ⟨rfl, Hl.out⟩

end Go.Proofs.Ytgkhdpplmdkkaaa

namespace Go.Proofs.Ytgkhdpplmdkkaaa
open Go.RowKit Go.Lib

set_option maxRecDepth 100000 in
/-- string(b[:n]) of a slice that lies owned -/
theorem OwnB.string_take {w : World} {base : Nat} {A : Option Addr} {m c n : Nat} {l : List UInt8} (h : OwnB w base (.slice A m c) l) (hn : n ≤ l.length) : (convert 27 9 (.slice A n c)).run Try.prog w = .ok (.string ⟨(l.take n).toArray⟩) w := by
  obtain ⟨A', cap, hv, hA⟩ := h.form
  injection hv with hv1 hv2 hv3
  subst hv1 hv2 hv3
  cases A with
  | none =>
    rcases h.2 with ⟨_, h0⟩ | ⟨g, cap', cur, hv, _⟩
    · have : l = [] := List.eq_nil_of_length_eq_zero h0
      subst this
      obtain rfl : n = 0 := by simpa using hn
      exact run_convert_nil_bytes w _ _ 5 _ (by kernel_rfl) (by kernel_rfl) (by kernel_rfl)
    · injection hv with h2; cases h2
  | some a =>
    have hl : (l.take n).length = n := by rw [List.length_take]; omega
    have := run_convert_bytes_back (P := Try.prog) w 27 9 5 a c (l.take n) (by kernel_rfl) (by kernel_rfl) (by kernel_rfl) fun j hj => by
      obtain ⟨g, rfl, _⟩ := hA a rfl
      show _ = some (Value.int .u8 (I8 _))
      have hj2 : j < l.length := by omega
      have := World.ownsRow.cells (g := g) h rfl j _ (by rw [bv_at, List.getElem?_eq_getElem hj2]; rfl)
      simpa using this
    rw [hl] at this
    exact this

set_option maxRecDepth 100000 in
set_option maxHeartbeats 2000000 in
theorem derive_gen (key lab : List UInt8) (n K : Nat) (w : World) (hk : key.length ≤ 1099511627776) (hm : lab.length ≤ 1000) (hK1 : 1 ≤ K) (hK : K ≤ 2) (hn : n ≤ 32 * K) (hlt : ∀ k, k < K → 32 * k < n) :
    Calls Try.prog 52 #[.string ⟨key.toArray⟩, .string ⟨lab.toArray⟩, .int .i64 n] w fun e w' => e = .returned (.tuple #[.string ⟨((dout key lab K).take n).toArray⟩, .int .i64 0]) ∧ Below w.heap.size w w' := by
  have Hlt := Lib.hid hlt
  have h0 : ¬ (n : Int) < 0 := by omega
  have hmax : decide ((8160 : Int) < (n : Int)) = false := by simp; omega
  clear hlt
  go_enter Try.func52, Try.ntmps52
  go_wp2_with fail
  go_loopw [8, 9, 10] (fun b l i wr => ∃ (k : Nat) (A : Option Addr) (c : Nat), k ≤ K ∧ i = .int .u8 ((k + 1 : Nat) : Int) ∧ l = .string ⟨(dlast key lab k).toArray⟩ ∧ b = .slice A (32 * k) c ∧ OwnB wr w.heap.size (.slice A (32 * k) c) (dout key lab k) ∧ Below w.heap.size w wr) (fun _ _ i _ => 10 - (intOf i).toNat)
  case atStart => exact ⟨0, none, 0, by omega, rfl, rfl, rfl, OwnB.nil _ _, Below.refl _ _⟩
  case round =>
    obtain ⟨k, A, c, hk2, rfl, rfl, rfl, ho, hl⟩ := hrel
    have Ho := Lib.hid ho
    have Hl := Lib.hid hl
    clear ho hl
    by_cases h2 : k < K
    · have hdl : ∃ D, D = dlast key lab k := ⟨_, rfl⟩
      obtain ⟨D, hD⟩ := hdl
      have hDl : D.length ≤ 32 := by rw [hD]; exact dlast_le _ _ _
      rw [← hD]
      have HD := Lib.hid hD
      clear hD
      have hlt : ((32 * k : Nat) : Int) < (n : Int) := by have := Hlt.out k h2; omega
      have ha1 := str_add D lab (by omega)
      have ha2 := str_add (D ++ lab) [UInt8.ofNat k + 1] (by simp; omega)
      go_wp2_with fail
      refine (seal_any key (D ++ (lab ++ [UInt8.ofNat k + 1])) _ hk (by simp; omega)).mono ?_
      rintro e w2 ⟨rfl, hl2⟩
      have hS : sealB key (D ++ (lab ++ [UInt8.ofNat k + 1])) = dlast key lab (k + 1) := by rw [HD.out, ← u8_succ, ← List.append_assoc]; rfl
      rw [hS]
      have ho2 : OwnB w2 w.heap.size (.slice A (32 * k) c) (dout key lab k) := (Ho.out.alloc _).below_size hl2
      have hl2w : Below w.heap.size w w2 := (Hl.out.alloc Hl.out.size _).trans (hl2.mono (by have := Hl.out.size; simp; omega))
      have Ho2 := Lib.hid ho2
      have Hl2 := Lib.hid hl2w
      clear hl2 hS ho2 hl2w
      go_wp2_with (at_builtin; refine wpList_app_str rfl (.tmp 32) (.tmp 33) rfl w.heap.size (.slice A (32 * k) c) (dout key lab k) rfl Ho2.out (dlast key lab (k + 1)) rfl (by rw [dlast_length, dout_length]; omega) Hl2.out.size ?_; intro v3 w3 ho3 hg3)
      obtain ⟨A3, c3, hv3, _⟩ := ho3.form
      subst hv3
      have hl3 : Below w.heap.size w w3 := below_app Hl2.out Ho2.out hg3 (Nat.le_refl _) Hl2.out.size
      have hlen : (dout key lab k ++ dlast key lab (k + 1)).length = 32 * (k + 1) := by rw [List.length_append, dlast_length, dout_length]; omega
      rw [hlen] at ho3
      rw [hlen]
      go_roundw
      case rel =>
        refine ⟨k + 1, A3, c3, by omega, ?_, rfl, rfl, ho3, hl3⟩
        have : k = 0 ∨ k = 1 := by omega
        rcases this with rfl | rfl <;> rfl
      case measure =>
        have : k = 0 ∨ k = 1 := by omega
        rcases this with rfl | rfl <;> decide
    · obtain rfl : k = K := by omega
      have hcc := Ho.out.cap_le (by rw [dout_length]; omega)
      rw [dout_length] at hcc
      have hci : (n : Int) ≤ (c : Int) := by omega
      have hge : ¬ ((32 * k : Nat) : Int) < (n : Int) := by omega
      have hs := Ho.out.string_take (n := n) (by rw [dout_length]; exact hn)
      go_wp2
      go_ret2
      exact ⟨rfl, Hl.out⟩

end Go.Proofs.Ytgkhdpplmdkkaaa
