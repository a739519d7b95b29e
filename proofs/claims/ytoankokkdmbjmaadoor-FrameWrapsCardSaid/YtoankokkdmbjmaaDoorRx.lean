/- The walks of the reference's Seal and Open of layer 19. -/
import Derived.Test.YtoankokkdmbjmaaDoorJr
import Derived.Test.YtoankokkdmbjmaaDoorRh
import Derived.Test.YtoankokkdmbjmaaDoorLs
namespace Go.Proofs.YtoankokkdmbjmaaDoor
open Go.RowKit Go.Lib

theorem kdf_take (secret : List UInt8) : (dout secret sealLab 2).take 64 = kdf secret := by
  rw [List.take_of_length_le]
  · rfl
  · rw [dout_length]; omega

set_option maxRecDepth 100000 in
set_option maxHeartbeats 2000000 in
theorem rcseal_any (secret nonce lab text : List UInt8) (w : World) (hk : secret.length ≤ 549755813888) (hn : nonce.length = 12) (hl : lab.length ≤ 65536) (ht : text.length ≤ 65536) :
    Calls Tryd.prog 63 #[.string ⟨secret.toArray⟩, .string ⟨nonce.toArray⟩, .string ⟨lab.toArray⟩, .string ⟨text.toArray⟩] w fun e w' => e = .returned (.string ⟨(sealP secret nonce lab text).toArray⟩) ∧ Below w.heap.size w w' := by
  have Hn := Lib.hid hn
  have Hl := Lib.hid hl
  have Ht := Lib.hid ht
  clear hn hl ht
  go_enter Tryd.func63, Tryd.ntmps63
  go_wp2_with fail
  refine (rderive_any secret sealLab 64 2 _ hk (by decide) (by omega) (by omega) (by omega)).mono ?_
  rintro e w1 ⟨rfl, hl1⟩
  rw [kdf_take]
  obtain ⟨KK, hKK⟩ : ∃ KK, KK = kdf secret := ⟨_, rfl⟩
  rw [← hKK]
  have hKl : (KK.length : Int) = 64 := by rw [hKK, kdf_length]; rfl
  have hKn : KK.length = 64 := by omega
  obtain ⟨K1, hK1⟩ : ∃ K, K = key1 secret := ⟨_, rfl⟩
  obtain ⟨K2, hK2⟩ : ∃ K, K = key2 secret := ⟨_, rfl⟩
  have x1 : (ByteArray.mk KK.toArray).extract 0 32 = ⟨K1.toArray⟩ := by rw [extract_mk, hK1, hKK]; rfl
  have x2 : (ByteArray.mk KK.toArray).extract 32 KK.length = ⟨K2.toArray⟩ := by rw [extract_mk, List.take_of_length_le (Nat.le_refl _), hK2, hKK]; rfl
  have x3 : (ByteArray.mk KK.toArray).extract 32 64 = ⟨K2.toArray⟩ := by rw [← hKn]; exact x2
  have HK1 := Lib.hid hK1
  have HK2 := Lib.hid hK2
  have Hl1 := Lib.hid hl1
  have HKn := Lib.hid hKn
  clear hKK hK1 hK2 hl1 hKn
  go_wp2_with fail
  refine (rhide_any K1 nonce text _ (by rw [HK1.out, key1_length]) Hn.out Ht.out).mono ?_
  rintro e w2 ⟨rfl, hl2⟩
  obtain ⟨H, hH⟩ : ∃ H, H = hid K1 nonce text := ⟨_, rfl⟩
  rw [← hH]
  have hHl : H.length ≤ 65536 := by rw [hH, hid_length]; exact Ht.out
  have hB2 := Hl1.out.trans (hl2.mono Hl1.out.size)
  have HH := Lib.hid hH
  have HHl := Lib.hid hHl
  have HB2 := Lib.hid hB2
  clear hH hHl hl2 hB2
  go_wp2_with fail
  go_loopw [12, 13, 14] (fun m s ix wr => ∃ j : Nat, ix = .int .i64 j ∧ j ≤ 8 ∧ m = .int .i64 ((lab.length / 2 ^ (8 * j) : Nat) : Int) ∧ s = .string ⟨(le8 lab.length j).toArray⟩ ∧ Below w.heap.size w wr) (fun _ _ i _ => 8 - (intOf i).toNat)
  case atStart => exact ⟨0, rfl, by omega, by simp, rfl, HB2.out⟩
  case round =>
    obtain ⟨j, rfl, hj, rfl, rfl, hb⟩ := hrel
    obtain ⟨Q, hQ⟩ : ∃ Q, Q = lab.length / 2 ^ (8 * j) := ⟨_, rfl⟩
    have hQl : Q ≤ 65536 := by rw [hQ]; exact Nat.le_trans (Nat.div_le_self _ _) Hl.out
    obtain ⟨O, hO⟩ : ∃ O, O = le8 lab.length j := ⟨_, rfl⟩
    rw [← hQ, ← hO]
    have hOl : O.length = j := by rw [hO, le8_length]
    have HQ := Lib.hid hQ
    have HO := Lib.hid hO
    have HOl := Lib.hid hOl
    have Hb := Lib.hid hb
    clear hQ hO hOl hb
    by_cases h8 : j < 8
    · have hd : decide ((j : Int) < 8) = true := by simp; omega
      obtain ⟨ON, hON⟩ : ∃ ON, ON = O ++ [UInt8.ofNat (Q % 256)] := ⟨_, rfl⟩
      have ha : ∀ W, (Op.stringOp .add ⟨O.toArray⟩ ⟨#[UInt8.ofNat (Q % 256)]⟩).run Tryd.prog W = .ok (.string ⟨ON.toArray⟩) W := fun W => by
        rw [hON]; exact str_add O [UInt8.ofNat (Q % 256)] (by have := HOl.out; simp; omega) W
      have hE : ON = le8 lab.length (j + 1) := by rw [hON, HO.out, le8_succ, u8_mod', HQ.out]
      have HE := Lib.hid hE
      clear hON hE
      go_wp2_with fail
      go_roundw
      case rel =>
        refine ⟨j + 1, by go_num, by omega, ?_, by rw [HE.out], Hb.out.alloc Hb.out.size _⟩
        rw [HQ.out, show 8 * (j + 1) = 8 * j + 8 by omega, Nat.pow_add, ← Nat.div_div_eq_div_mul]; rfl
      case measure => simp [intOf]; omega
    · have hd : decide ((j : Int) < 8) = false := by simp; omega
      have hj8 : j = 8 := by omega
      obtain ⟨M1, hM1⟩ : ∃ M, M = nonce ++ O := ⟨_, rfl⟩
      obtain ⟨M2, hM2⟩ : ∃ M, M = M1 ++ lab := ⟨_, rfl⟩
      obtain ⟨M3, hM3⟩ : ∃ M, M = M2 ++ H := ⟨_, rfl⟩
      have l1 : M1.length ≤ 20 := by rw [hM1, List.length_append]; have := Hn.out; have := HOl.out; omega
      have l2 : M2.length ≤ 65556 := by rw [hM2, List.length_append]; have := Hl.out; omega
      have l3 : M3.length ≤ 131092 := by rw [hM3, List.length_append]; have := HHl.out; omega
      have a1 : ∀ W, (Op.stringOp .add ⟨nonce.toArray⟩ ⟨O.toArray⟩).run Tryd.prog W = .ok (.string ⟨M1.toArray⟩) W := fun W => by
        rw [hM1]; exact str_add nonce O (by have := Hn.out; have := HOl.out; omega) W
      have a2 : ∀ W, (Op.stringOp .add ⟨M1.toArray⟩ ⟨lab.toArray⟩).run Tryd.prog W = .ok (.string ⟨M2.toArray⟩) W := fun W => by
        rw [hM2]; exact str_add M1 lab (by have := Hl.out; omega) W
      have a3 : ∀ W, (Op.stringOp .add ⟨M2.toArray⟩ ⟨H.toArray⟩).run Tryd.prog W = .ok (.string ⟨M3.toArray⟩) W := fun W => by
        rw [hM3]; exact str_add M2 H (by have := HHl.out; omega) W
      have hM : M3 = tagM nonce lab H := by rw [hM3, hM2, hM1, HO.out, hj8]; rfl
      have HM := Lib.hid hM
      have Hl3 := Lib.hid l3
      clear hM1 hM2 hM3 l1 l2 l3 hM hj8
      go_wp2_with fail
      refine (rseal_any K2 M3 _ (by rw [HK2.out, key2_length]; omega) (by have := Hl3.out; omega)).mono ?_
      rintro e w4 ⟨rfl, hl4⟩
      obtain ⟨D, hD⟩ : ∃ D, D = sealB K2 M3 := ⟨_, rfl⟩
      rw [← hD]
      have hDl : (D.length : Int) = 32 := by rw [hD, seal_length]; rfl
      obtain ⟨G, hG⟩ : ∃ G, G = tagP K2 nonce lab H := ⟨_, rfl⟩
      have x4 : (ByteArray.mk D.toArray).extract 0 16 = ⟨G.toArray⟩ := by rw [extract_mk, hG, hD, HM.out]; rfl
      obtain ⟨R, hR⟩ : ∃ R, R = H ++ G := ⟨_, rfl⟩
      have a4 : ∀ W, (Op.stringOp .add ⟨H.toArray⟩ ⟨G.toArray⟩).run Tryd.prog W = .ok (.string ⟨R.toArray⟩) W := fun W => by
        rw [hR]; exact str_add H G (by rw [hG, tagP_length]; have := HHl.out; omega) W
      have hE : sealP secret nonce lab text = R := by rw [hR, hG, HH.out, HK1.out, HK2.out]; rfl
      have hB4 := Hb.out.trans (hl4.mono Hb.out.size)
      have HE := Lib.hid hE
      have HB4 := Lib.hid hB4
      clear hD hG hR hE hl4 hB4 a1 a2 a3
      go_wp2_with fail
      go_ret
      exact ⟨by rw [HE.out]; rfl, HB4.out⟩
end Go.Proofs.YtoankokkdmbjmaaDoor
