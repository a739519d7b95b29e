/- The contracts of the reference: its mac. -/
import Derived.Test.YtgkhdpplmdkkaaaMRu
import Derived.Test.YtgkhdpplmdkkaaaMc
namespace Go.Proofs.Ytgkhdpplmdkkaaa
open Go.RowKit Go.Lib

/-- the first j bytes of a key's block -/
def kp (key : List UInt8) (n : UInt8) (j : Nat) : List UInt8 := (List.range j).map (kpad key n)
theorem kp_succ (key : List UInt8) (n : UInt8) (j : Nat) : kp key n (j + 1) = kp key n j ++ [kpad key n j] := by
  unfold kp; rw [List.range_succ, List.map_append]; rfl
theorem kp_length (key : List UInt8) (n : UInt8) (j : Nat) : (kp key n j).length = j := by simp [kp]

set_option maxRecDepth 100000 in
set_option maxHeartbeats 2000000 in
theorem rturned_any (key : List UInt8) (n : UInt8) (w : World) (hk : key.length ≤ 549755813888) :
    Calls Try.prog 90 #[.string ⟨key.toArray⟩, .int .u8 (I8 n)] w fun e w' => e = .returned (.string ⟨(kblk key n).toArray⟩) ∧ Below w.heap.size w w' := by
  go_enter Try.func90, Try.ntmps90
  by_cases h64 : 64 < key.length
  · have hd64 : decide ((64 : Int) < (key.length : Int)) = true := by simp; omega
    go_wp2_with fail
    refine (rsum_any key _ hk).mono ?_
    rintro e w1 ⟨rfl, hl1⟩
    obtain ⟨KB, hKB⟩ : ∃ KB, KB = dig key := ⟨_, rfl⟩
    rw [← hKB]
    have hKB2 : KB = kb key := by rw [hKB]; unfold kb; rw [if_pos h64]
    have HKB := Lib.hid hKB2
    have HB := Lib.hid hl1
    clear hKB hKB2 hl1
    go_wp2_with fail
    go_loopw [5, 6] (fun s ix wr => ∃ j : Nat, ix = .int .i64 j ∧ j ≤ 64 ∧ s = .string ⟨(kp key n j).toArray⟩ ∧ Below w.heap.size w wr) (fun _ i _ => 64 - (intOf i).toNat)
    case atStart => exact ⟨0, rfl, by omega, rfl, HB.out⟩
    case round =>
      obtain ⟨j, rfl, hj, rfl, hl⟩ := hrel
      obtain ⟨O, hO⟩ : ∃ O, O = kp key n j := ⟨_, rfl⟩
      rw [← hO]
      have hOl : O.length = j := by rw [hO, kp_length]
      have HO := Lib.hid hO
      have HOl := Lib.hid hOl
      have Hl := Lib.hid hl
      clear hO hOl hl
      by_cases h64 : j < 64
      · have hd : decide ((j : Int) < 64) = true := by simp; omega
        obtain ⟨x, hx⟩ : ∃ x, x = kpad key n j := ⟨_, rfl⟩
        have hb := I8_back' x
        obtain ⟨ON, hON⟩ : ∃ ON, ON = O ++ [x] := ⟨_, rfl⟩
        have ha : ∀ W, (Op.stringOp .add ⟨O.toArray⟩ ⟨#[x]⟩).run Try.prog W = .ok (.string ⟨ON.toArray⟩) W := fun W => by
          rw [hON]; exact str_add O [x] (by have := HOl.out; simp; omega) W
        have hE : ON = kp key n (j + 1) := by rw [hON, HO.out, kp_succ, hx]
        have HE := Lib.hid hE
        have Hx := Lib.hid hx
        clear hON hE hx
        by_cases hjk : j < KB.length
        · have hjk2 : decide ((j : Int) < (KB.length : Int)) = true := by simp; omega
          have hjk3 : (j : Int) < (KB.length : Int) := by omega
          have hxor : bits .xor .u8 (I8 (gb KB j)) (I8 n) = I8 x := by rw [Hx.out, u8_bits_xor]; unfold kpad; rw [← HKB.out]; rfl
          go_wp2_with fail
          go_roundw
          case rel => exact ⟨j + 1, by go_num, by omega, by rw [HE.out], Hl.out.alloc Hl.out.size _⟩
          case measure => simp [intOf]; omega
        · have hjk2 : decide ((j : Int) < (KB.length : Int)) = false := by simp; omega
          have hxor : bits .xor .u8 0 (I8 n) = I8 x := by
            have h0 : gt (kb key) j = 0 := by
              unfold gt; rw [List.getD_eq_getElem?_getD, List.getElem?_eq_none (by rw [← HKB.out]; omega)]; rfl
            have h1 := u8_bits_xor 0 n
            rw [Hx.out]; unfold kpad; rw [h0]; exact h1
          go_wp2_with fail
          go_roundw
          case rel => exact ⟨j + 1, by go_num, by omega, by rw [HE.out], Hl.out.alloc Hl.out.size _⟩
          case measure => simp [intOf]; omega
      · have hd : decide ((j : Int) < 64) = false := by simp; omega
        have hj64 : j = 64 := by omega
        have hR : kblk key n = O := by rw [HO.out, hj64]; rfl
        have HR := Lib.hid hR
        clear hR hj64
        go_wp2_with fail
        go_ret
        exact ⟨by rw [HR.out]; rfl, Hl.out⟩
  · have hd64 : decide ((64 : Int) < (key.length : Int)) = false := by simp; omega
    have hKB2 : key = kb key := by unfold kb; rw [if_neg h64]
    have HKB := Lib.hid hKB2
    have HB := Lib.hid (Below.refl w.heap.size w)
    clear hKB2
    go_wp2_with fail
    go_loopw [5, 6] (fun s ix wr => ∃ j : Nat, ix = .int .i64 j ∧ j ≤ 64 ∧ s = .string ⟨(kp key n j).toArray⟩ ∧ Below w.heap.size w wr) (fun _ i _ => 64 - (intOf i).toNat)
    case atStart => exact ⟨0, rfl, by omega, rfl, HB.out⟩
    case round =>
      obtain ⟨j, rfl, hj, rfl, hl⟩ := hrel
      obtain ⟨O, hO⟩ : ∃ O, O = kp key n j := ⟨_, rfl⟩
      rw [← hO]
      have hOl : O.length = j := by rw [hO, kp_length]
      have HO := Lib.hid hO
      have HOl := Lib.hid hOl
      have Hl := Lib.hid hl
      clear hO hOl hl
      by_cases h64 : j < 64
      · have hd : decide ((j : Int) < 64) = true := by simp; omega
        obtain ⟨x, hx⟩ : ∃ x, x = kpad key n j := ⟨_, rfl⟩
        have hb := I8_back' x
        obtain ⟨ON, hON⟩ : ∃ ON, ON = O ++ [x] := ⟨_, rfl⟩
        have ha : ∀ W, (Op.stringOp .add ⟨O.toArray⟩ ⟨#[x]⟩).run Try.prog W = .ok (.string ⟨ON.toArray⟩) W := fun W => by
          rw [hON]; exact str_add O [x] (by have := HOl.out; simp; omega) W
        have hE : ON = kp key n (j + 1) := by rw [hON, HO.out, kp_succ, hx]
        have HE := Lib.hid hE
        have Hx := Lib.hid hx
        clear hON hE hx
        by_cases hjk : j < key.length
        · have hjk2 : decide ((j : Int) < (key.length : Int)) = true := by simp; omega
          have hjk3 : (j : Int) < (key.length : Int) := by omega
          have hxor : bits .xor .u8 (I8 (gb key j)) (I8 n) = I8 x := by rw [Hx.out, u8_bits_xor]; unfold kpad; rw [← HKB.out]; rfl
          go_wp2_with fail
          go_roundw
          case rel => exact ⟨j + 1, by go_num, by omega, by rw [HE.out], Hl.out.alloc Hl.out.size _⟩
          case measure => simp [intOf]; omega
        · have hjk2 : decide ((j : Int) < (key.length : Int)) = false := by simp; omega
          have hxor : bits .xor .u8 0 (I8 n) = I8 x := by
            have h0 : gt (kb key) j = 0 := by
              unfold gt; rw [List.getD_eq_getElem?_getD, List.getElem?_eq_none (by rw [← HKB.out]; omega)]; rfl
            have h1 := u8_bits_xor 0 n
            rw [Hx.out]; unfold kpad; rw [h0]; exact h1
          go_wp2_with fail
          go_roundw
          case rel => exact ⟨j + 1, by go_num, by omega, by rw [HE.out], Hl.out.alloc Hl.out.size _⟩
          case measure => simp [intOf]; omega
      · have hd : decide ((j : Int) < 64) = false := by simp; omega
        have hj64 : j = 64 := by omega
        have hR : kblk key n = O := by rw [HO.out, hj64]; rfl
        have HR := Lib.hid hR
        clear hR hj64
        go_wp2_with fail
        go_ret
        exact ⟨by rw [HR.out]; rfl, Hl.out⟩

set_option maxRecDepth 100000 in
set_option maxHeartbeats 2000000 in
theorem rseal_any (key m : List UInt8) (w : World) (hk : key.length ≤ 549755813888) (hm : m.length ≤ 274877906944) :
    Calls Try.prog 62 #[.string ⟨key.toArray⟩, .string ⟨m.toArray⟩] w fun e w' => e = .returned (.string ⟨(sealB key m).toArray⟩) ∧ Below w.heap.size w w' := by
  go_enter Try.func62, Try.ntmps62
  go_wp2_with fail
  refine (rturned_any key 92 _ hk).mono ?_
  rintro e w1 ⟨rfl, hl1⟩
  obtain ⟨A, hA⟩ : ∃ A, A = kblk key 92 := ⟨_, rfl⟩
  rw [← hA]
  have HA := Lib.hid hA
  have Hl1 := Lib.hid hl1
  clear hA hl1
  go_wp2_with fail
  refine (rturned_any key 54 _ hk).mono ?_
  rintro e w2 ⟨rfl, hl2⟩
  obtain ⟨B, hB⟩ : ∃ B, B = kblk key 54 := ⟨_, rfl⟩
  rw [← hB]
  have hBl : B.length = 64 := by rw [hB, kblk_length]
  obtain ⟨C, hC⟩ : ∃ C, C = B ++ m := ⟨_, rfl⟩
  have ha : ∀ W, (Op.stringOp .add ⟨B.toArray⟩ ⟨m.toArray⟩).run Try.prog W = .ok (.string ⟨C.toArray⟩) W := fun W => by
    rw [hC]; exact str_add B m (by omega) W
  have hCl : C.length ≤ 549755813888 := by rw [hC, List.length_append]; omega
  have hl2w := Hl1.out.trans (hl2.mono Hl1.out.size)
  have HB := Lib.hid hB
  have HC := Lib.hid hC
  have HCl := Lib.hid hCl
  have Hl2 := Lib.hid hl2w
  clear hB hBl hC hCl hl2 hl2w
  go_wp2_with fail
  refine (rsum_any C _ HCl.out).mono ?_
  rintro e w3 ⟨rfl, hl3⟩
  obtain ⟨D, hD⟩ : ∃ D, D = dig C := ⟨_, rfl⟩
  rw [← hD]
  obtain ⟨E, hE⟩ : ∃ E, E = A ++ D := ⟨_, rfl⟩
  have hAl : A.length = 64 := by rw [HA.out, kblk_length]
  have hDl : D.length = 32 := by rw [hD, dig_length]
  have ha2 : ∀ W, (Op.stringOp .add ⟨A.toArray⟩ ⟨D.toArray⟩).run Try.prog W = .ok (.string ⟨E.toArray⟩) W := fun W => by
    rw [hE]; exact str_add A D (by omega) W
  have hEl : E.length ≤ 549755813888 := by rw [hE, List.length_append]; omega
  have hl3w := Hl2.out.trans (hl3.mono Hl2.out.size)
  have HD := Lib.hid hD
  have HE := Lib.hid hE
  have HEl := Lib.hid hEl
  have Hl3 := Lib.hid hl3w
  clear hD hE hAl hDl hEl hl3 hl3w ha
  go_wp2_with fail
  refine (rsum_any E _ HEl.out).mono ?_
  rintro e w4 ⟨rfl, hl4⟩
  have hR : sealB key m = dig E := by unfold sealB; rw [HE.out, HD.out, HC.out, HB.out, HA.out]
  have hl4w := Hl3.out.trans (hl4.mono Hl3.out.size)
  have HR := Lib.hid hR
  have Hl4 := Lib.hid hl4w
  clear hR hl4 hl4w
  go_wp2_with fail
  go_ret
  exact ⟨by rw [HR.out]; rfl, Hl4.out⟩

end Go.Proofs.Ytgkhdpplmdkkaaa
