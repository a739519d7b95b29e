/- The contract of the reference: derived bytes. -/
import Derived.Test.YtgkhdpplmdkkaaaMR3
import Derived.Test.YtgkhdpplmdkkaaaMq
namespace Go.Proofs.Ytgkhdpplmdkkaaa
open Go.RowKit Go.Lib

set_option maxRecDepth 100000 in
set_option maxHeartbeats 2000000 in
/-- Derive of n bytes, in K rounds (one or two) -/
theorem rderive_any (key lab : List UInt8) (n K : Nat) (w : World) (hk : key.length ≤ 549755813888) (hm : lab.length ≤ 1000) (hK : K ≤ 2) (hn : n ≤ 32 * K) (hlt : ∀ k, k < K → 32 * k < n) :
    Calls Try.prog 53 #[.string ⟨key.toArray⟩, .string ⟨lab.toArray⟩, .int .i64 n] w fun e w' => e = .returned (.tuple #[.string ⟨((dout key lab K).take n).toArray⟩, .int .i64 0]) ∧ Below w.heap.size w w' := by
  have Hlt := Lib.hid hlt
  have h0 : ¬ (n : Int) < 0 := by omega
  have hmax : decide ((8160 : Int) < (n : Int)) = false := by simp; omega
  clear hlt
  go_enter Try.func53, Try.ntmps53
  go_wp2_with fail
  go_loopw [8, 9, 10] (fun a l ix wr => ∃ k : Nat, k ≤ K ∧ ix = .int .i64 ((k : Int) + 1) ∧ a = .string ⟨(dout key lab k).toArray⟩ ∧ l = .string ⟨(dlast key lab k).toArray⟩ ∧ Below w.heap.size w wr) (fun _ _ i _ => 10 - (intOf i).toNat)
  case atStart => exact ⟨0, by omega, rfl, rfl, rfl, Below.refl _ _⟩
  case round =>
    obtain ⟨k, hkK, rfl, rfl, rfl, hl⟩ := hrel
    obtain ⟨U, hU⟩ : ∃ U, U = dout key lab k := ⟨_, rfl⟩
    obtain ⟨V, hV⟩ : ∃ V, V = dlast key lab k := ⟨_, rfl⟩
    rw [← hU, ← hV]
    have hUl : U.length = 32 * k := by rw [hU, dout_length]
    have hUi : (U.length : Int) = 32 * (k : Int) := by omega
    have hVl : V.length ≤ 32 := by rw [hV]; exact dlast_le _ _ _
    have HU := Lib.hid hU
    have HV := Lib.hid hV
    have HUl := Lib.hid hUl
    have HVl := Lib.hid hVl
    have Hl := Lib.hid hl
    clear hU hV hUl hVl hl
    by_cases hkk : k < K
    · have hk1 := Hlt.out k hkk
      have hd : decide (32 * (k : Int) < (n : Int)) = true := by simp; omega
      have hk8 : IntKind.u8.wrap ((k : Int) + 1) = (k : Int) + 1 := by simp [IntKind.wrap, IntKind.bits, IntKind.signed]; omega
      obtain ⟨b, hb⟩ : ∃ b, b = UInt8.ofNat (k + 1) := ⟨_, rfl⟩
      have hb1 : UInt8.ofNat ((k : Int) + 1).toNat = b := by rw [hb]; rfl
      have hb2 : UInt8.ofNat (k + 1) = b := hb.symm
      have hb3 : UInt8.ofNat k + 1 = b := by rw [hb, u8_succ]
      obtain ⟨C, hC⟩ : ∃ C, C = V ++ lab := ⟨_, rfl⟩
      have ha : ∀ W, (Op.stringOp .add ⟨V.toArray⟩ ⟨lab.toArray⟩).run Try.prog W = .ok (.string ⟨C.toArray⟩) W := fun W => by
        rw [hC]; exact str_add V lab (by have := HVl.out; omega) W
      have hCl : C.length ≤ 1032 := by rw [hC, List.length_append]; have := HVl.out; omega
      obtain ⟨D, hD⟩ : ∃ D, D = C ++ [b] := ⟨_, rfl⟩
      have ha2 : ∀ W, (Op.stringOp .add ⟨C.toArray⟩ ⟨#[b]⟩).run Try.prog W = .ok (.string ⟨D.toArray⟩) W := fun W => by
        rw [hD]; exact str_add C [b] (by simp; omega) W
      have hDl : D.length ≤ 1033 := by rw [hD, List.length_append]; simp; omega
      have HC := Lib.hid hC
      have HD := Lib.hid hD
      have HDl := Lib.hid hDl
      have Hb := Lib.hid hb
      clear hC hD hCl hDl hb
      go_wp2_with fail
      refine (rseal_any key D _ hk (by have := HDl.out; omega)).mono ?_
      rintro e w2 ⟨rfl, hl2⟩
      obtain ⟨E, hE⟩ : ∃ E, E = sealB key D := ⟨_, rfl⟩
      rw [← hE]
      have hE2 : E = dlast key lab (k + 1) := by rw [hE, HD.out, HC.out, HV.out, Hb.out]; rfl
      have hEl : E.length = 32 := by rw [hE, seal_length]
      obtain ⟨UN, hUN⟩ : ∃ UN, UN = U ++ E := ⟨_, rfl⟩
      have ha3 : ∀ W, (Op.stringOp .add ⟨U.toArray⟩ ⟨E.toArray⟩).run Try.prog W = .ok (.string ⟨UN.toArray⟩) W := fun W => by
        rw [hUN]; exact str_add U E (by have := HUl.out; omega) W
      have hUN2 : UN = dout key lab (k + 1) := by rw [hUN, HU.out, hE2]; rfl
      have HE := Lib.hid hE2
      have HUN := Lib.hid hUN2
      have hl2w : Below w.heap.size w w2 := (Hl.out.alloc Hl.out.size _).trans (hl2.mono (by have := Hl.out.size; simp; omega))
      have Hl2 := Lib.hid hl2w
      clear hE hE2 hEl hUN hUN2 hl2 hl2w ha ha2 hb1 hb2 hb3
      go_wp2_with fail
      go_roundw
      case rel => exact ⟨k + 1, by omega, by congr 1, by rw [HUN.out], by rw [HE.out], Hl2.out⟩
      case measure => simp [intOf]; omega
    · have hkE : k = K := by omega
      have hd : decide (32 * (k : Int) < (n : Int)) = false := by simp; omega
      have hle : (n : Int) ≤ 32 * (k : Int) := by omega
      have hle2 : n ≤ U.length := by have := HUl.out; omega
      have hR : (dout key lab K).take n = (U.take n).drop 0 := by rw [HU.out, hkE]; rfl
      have HR := Lib.hid hR
      clear hR hkE
      go_wp2_with fail
      rw [extract_cut]
      go_ret2
      exact ⟨by rw [HR.out]; rfl, Hl.out⟩
end Go.Proofs.Ytgkhdpplmdkkaaa
