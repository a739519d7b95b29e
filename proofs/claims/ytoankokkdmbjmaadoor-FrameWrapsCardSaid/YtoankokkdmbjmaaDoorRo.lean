/- The walk of the reference's Open of layer 19. -/
import Derived.Test.YtoankokkdmbjmaaDoorRx
namespace Go.Proofs.YtoankokkdmbjmaaDoor
open Go.RowKit Go.Lib

set_option maxRecDepth 100000 in
set_option maxHeartbeats 2000000 in
theorem ropen_nonce (secret nonce lab sl : List UInt8) (w : World) (hn : nonce.length ≠ 12) :
    Calls Tryd.prog 66 #[.string ⟨secret.toArray⟩, .string ⟨nonce.toArray⟩, .string ⟨lab.toArray⟩, .string ⟨sl.toArray⟩] w fun e w' => e = .returned (.tuple #[.string ⟨#[]⟩, .int .i64 1]) ∧ w' = w := by
  have hn2 : ((nonce.length : Int) == 12) = false := by rw [beq_eq_false_iff_ne]; omega
  have hn3 : ¬ (nonce.length : Int) = 12 := by omega
  clear hn
  go_enter Tryd.func66, Tryd.ntmps66
  go_wp2_with fail
  go_ret2
  exact ⟨rfl, rfl⟩

set_option maxRecDepth 100000 in
set_option maxHeartbeats 2000000 in
theorem ropen_end (secret nonce lab sl : List UInt8) (w : World) (hn : nonce.length = 12) (hl : lab.length ≤ 65536) (hs : sl.length < 16) :
    Calls Tryd.prog 66 #[.string ⟨secret.toArray⟩, .string ⟨nonce.toArray⟩, .string ⟨lab.toArray⟩, .string ⟨sl.toArray⟩] w fun e w' => e = .returned (.tuple #[.string ⟨#[]⟩, .int .i64 3]) ∧ w' = w := by
  have hn2 : ((nonce.length : Int) == 12) = true := by simp; omega
  have hl2 : decide ((65536 : Int) < (lab.length : Int)) = false := by simp; omega
  have hs1 : decide ((65552 : Int) < (sl.length : Int)) = false := by simp; omega
  have hs2 : decide ((sl.length : Int) < 16) = true := by simp; omega
  clear hn hl
  go_enter Tryd.func66, Tryd.ntmps66
  go_wp2_with fail
  go_ret2
  exact ⟨rfl, rfl⟩

theorem openP_ref (secret nonce lab sl : List UInt8) :
    openP secret nonce lab sl = if sealP secret nonce lab (hid (key1 secret) nonce (sl.take (sl.length - 16))) = sl then (hid (key1 secret) nonce (sl.take (sl.length - 16)), 0) else ([], 4) := by
  unfold openP sealP
  rw [hid_hid]
  have h : sl.take (sl.length - 16) ++ sl.drop (sl.length - 16) = sl := List.take_append_drop _ _
  by_cases hc : tagP (key2 secret) nonce lab (sl.take (sl.length - 16)) = sl.drop (sl.length - 16)
  · rw [if_pos hc, if_pos (by rw [hc, h])]
  · rw [if_neg hc, if_neg]
    intro he
    apply hc
    have h2 : sl.take (sl.length - 16) ++ tagP (key2 secret) nonce lab (sl.take (sl.length - 16)) = sl.take (sl.length - 16) ++ sl.drop (sl.length - 16) := by rw [he, h]
    exact List.append_cancel_left h2

set_option maxRecDepth 100000 in
set_option maxHeartbeats 4000000 in
theorem ropen_any (secret nonce lab sl : List UInt8) (w : World) (hk : secret.length ≤ 549755813888) (hn : nonce.length = 12) (hl : lab.length ≤ 65536) (hs : 16 ≤ sl.length) (hs2 : sl.length ≤ 65552) :
    Calls Tryd.prog 66 #[.string ⟨secret.toArray⟩, .string ⟨nonce.toArray⟩, .string ⟨lab.toArray⟩, .string ⟨sl.toArray⟩] w fun e w' => e = .returned (.tuple #[.string ⟨(openP secret nonce lab sl).1.toArray⟩, .int .i64 (openP secret nonce lab sl).2]) ∧ Below w.heap.size w w' := by
  have hn2 : ((nonce.length : Int) == 12) = true := by simp; omega
  have hl2 : decide ((65536 : Int) < (lab.length : Int)) = false := by simp; omega
  have hd1 : decide ((65552 : Int) < (sl.length : Int)) = false := by simp; omega
  have hd2 : decide ((sl.length : Int) < 16) = false := by simp; omega
  obtain ⟨m, hm⟩ : ∃ m, m = sl.length - 16 := ⟨_, rfl⟩
  have hw : IntKind.i64.wrap ((sl.length : Int) - 16) = (m : Int) := by rw [IntKind.wrap_i64]; omega
  have hml : (m : Int) ≤ (sl.length : Int) := by omega
  have hml2 : m ≤ sl.length := by omega
  obtain ⟨H, hH⟩ : ∃ H, H = sl.take m := ⟨_, rfl⟩
  have hHl : H.length ≤ 65536 := by rw [hH, List.length_take]; omega
  have x0 : (ByteArray.mk sl.toArray).extract 0 m = ⟨H.toArray⟩ := by rw [extract_mk, hH]; rfl
  obtain ⟨X, hX⟩ : ∃ X, X = hid (key1 secret) nonce H := ⟨_, rfl⟩
  have hO : openP secret nonce lab sl = if sealP secret nonce lab X = sl then (X, 0) else ([], 4) := by
    rw [openP_ref, hX, hH, hm]
  have Hn := Lib.hid hn
  have Hl := Lib.hid hl
  have HHl := Lib.hid hHl
  have HX := Lib.hid hX
  have HO := Lib.hid hO
  clear hn hl hs hs2 hm hH hHl hX hO
  go_enter Tryd.func66, Tryd.ntmps66
  go_wp2_with fail
  refine (rderive_any secret sealLab 64 2 _ hk (by decide) (by omega) (by omega) (by omega)).mono ?_
  rintro e w1 ⟨rfl, hl1⟩
  rw [kdf_take]
  obtain ⟨KK, hKK⟩ : ∃ KK, KK = kdf secret := ⟨_, rfl⟩
  rw [← hKK]
  have hKl : (KK.length : Int) = 64 := by rw [hKK, kdf_length]; rfl
  obtain ⟨K1, hK1⟩ : ∃ K, K = key1 secret := ⟨_, rfl⟩
  have x1 : (ByteArray.mk KK.toArray).extract 0 32 = ⟨K1.toArray⟩ := by rw [extract_mk, hK1, hKK]; rfl
  have HK1 := Lib.hid hK1
  have Hl1 := Lib.hid hl1
  clear hKK hK1 hl1
  go_wp2_with fail
  go_region_law (go_simp; go_at_call 94; refine (rhide_any K1 nonce H _ (by rw [HK1.out, key1_length]) Hn.out HHl.out).mono ?_; rintro e w2 ⟨rfl, hl2⟩; rw [HK1.out, ← HX.out]; have hB2 := (below_drewN' Hl1.out 1).trans (hl2.mono (below_drewN' Hl1.out 1).size); have HB2 := Lib.hid hB2; clear hl2 hB2)
  all_goals
    have hXl : X.length ≤ 65536 := by rw [HX.out, hid_length]; exact HHl.out
    have HXl := Lib.hid hXl
    clear hXl
    go_wp2_with fail
    refine (rcseal_any secret nonce lab X _ hk Hn.out Hl.out HXl.out).mono ?_
    rintro e w3 ⟨rfl, hl3⟩
    have hB3 := HB2.out.trans (hl3.mono HB2.out.size)
    have HB3 := Lib.hid hB3
    obtain ⟨Y, hY⟩ : ∃ Y, Y = sealP secret nonce lab X := ⟨_, rfl⟩
    rw [← hY]
    have hO2 := HO.out
    rw [← hY] at hO2
    clear hl3 hB3 hY
    by_cases hc : Y = sl
    · have hO3 : openP secret nonce lab sl = (X, 0) := by rw [hO2, if_pos hc]
      have HO3 := Lib.hid hO3
      have hb : (Y == sl) = true := by rw [beq_iff_eq]; exact hc
      clear hO2 hO3 hc
      go_wp2_with fail
      go_ret2
      exact ⟨by rw [HO3.out]; rfl, HB3.out⟩
    · have hO3 : openP secret nonce lab sl = ([], 4) := by rw [hO2, if_neg hc]
      have HO3 := Lib.hid hO3
      have hb : (Y == sl) = false := by rw [beq_eq_false_iff_ne]; exact hc
      clear hO2 hO3
      go_wp2_with fail
      go_ret2
      exact ⟨by rw [HO3.out]; rfl, HB3.out⟩
end Go.Proofs.YtoankokkdmbjmaaDoor
