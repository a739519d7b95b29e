/- The walks of the laws CipherBlocks and CipherHides. -/
import Derived.Test.YtgkhdpplmdkkaaaRh
import Derived.Test.YtgkhdpplmdkkaaaLm
namespace Go.Proofs.Ytgkhdpplmdkkaaa
open Go.RowKit Go.Lib

set_option maxRecDepth 100000 in
set_option maxHeartbeats 4000000 in
theorem blocks_walk (key nonce : List UInt8) (n : UInt32) (w : World) : Calls Try.prog 6 #[.string ⟨key.toArray⟩, .string ⟨nonce.toArray⟩, .int .u32 (I32 n)] w fun e w' => e = .returned (.bool true) ∧ Below w.heap.size w w' := by
  by_cases hk : key.length ≤ 1000
  · have hk2 : decide ((1000 : Int) < (key.length : Int)) = false := by simp; omega
    by_cases hn : nonce.length ≤ 1000
    · have hn2 : decide ((1000 : Int) < (nonce.length : Int)) = false := by simp; omega
      clear hk hn
      by_cases hok : key.length = 32 ∧ nonce.length = 12
      · have hd : decide (key.length = 32 ∧ nonce.length = 12) = true := by simp only [decide_eq_true_iff]; exact hok
        have Hok := Lib.hid hok
        clear hok
        go_enter Try.func6, Try.ntmps6
        go_wp2_with fail
        refine (blk_any key nonce n _ Hok.out.1 Hok.out.2).mono ?_
        rintro e w1 ⟨rfl, hl1⟩
        obtain ⟨B, hB⟩ : ∃ B, B = blkP (begP key nonce) n := ⟨_, rfl⟩
        rw [← hB]
        have HB := Lib.hid hB
        have Hl1 := Lib.hid hl1
        clear hB hl1
        go_wp2_with fail
        refine (lright_any key nonce _).mono ?_
        rintro e w2 ⟨rfl, rfl⟩
        rw [hd]
        go_wp2_with fail
        refine (rblock_any key nonce n _ Hok.out.1 Hok.out.2).mono ?_
        rintro e w3 ⟨rfl, hl3⟩
        rw [← HB.out]
        have hB3 := Hl1.out.trans (hl3.mono Hl1.out.size)
        have HB3 := Lib.hid hB3
        clear hl3 hB3
        go_wp2_with fail
        refine (lives_any _).mono ?_
        rintro e w9 ⟨rfl, hl9⟩
        have hB9 := HB3.out.trans (hl9.mono HB3.out.size)
        have HB9 := Lib.hid hB9
        clear hl9 hB9
        go_wp2_with fail
        go_ret
        exact ⟨rfl, HB9.out⟩
      · have hd : decide (key.length = 32 ∧ nonce.length = 12) = false := by simp only [decide_eq_false_iff_not]; exact hok
        have Hok := Lib.hid hok
        clear hok
        go_enter Try.func6, Try.ntmps6
        go_wp2_with fail
        refine (blk_bad key nonce n _ Hok.out).mono ?_
        rintro e w1 ⟨rfl, rfl⟩
        go_wp2_with fail
        refine (lright_any key nonce _).mono ?_
        rintro e w2 ⟨rfl, rfl⟩
        rw [hd]
        go_wp2_with fail
        refine (lives_any _).mono ?_
        rintro e w9 ⟨rfl, hl9⟩
        have hB9 := hl9
        have HB9 := Lib.hid hB9
        clear hl9 hB9
        go_wp2_with fail
        go_ret
        exact ⟨rfl, HB9.out⟩
    · have hn2 : decide ((1000 : Int) < (nonce.length : Int)) = true := by simp; omega
      clear hk hn
      go_enter Try.func6, Try.ntmps6
      go_wp2_with fail
      refine (lives_any _).mono ?_
      rintro e w9 ⟨rfl, hl9⟩
      have hB9 := hl9
      have HB9 := Lib.hid hB9
      clear hl9 hB9
      go_wp2_with fail
      go_ret
      exact ⟨rfl, HB9.out⟩
  · have hk2 : decide ((1000 : Int) < (key.length : Int)) = true := by simp; omega
    clear hk
    go_enter Try.func6, Try.ntmps6
    go_wp2_with fail
    refine (lives_any _).mono ?_
    rintro e w9 ⟨rfl, hl9⟩
    have hB9 := hl9
    have HB9 := Lib.hid hB9
    clear hl9 hB9
    go_wp2_with fail
    go_ret
    exact ⟨rfl, HB9.out⟩

set_option maxRecDepth 100000 in
set_option maxHeartbeats 4000000 in
theorem hides_walk (key nonce text : List UInt8) (w : World) : Calls Try.prog 7 #[.string ⟨key.toArray⟩, .string ⟨nonce.toArray⟩, .string ⟨text.toArray⟩] w fun e w' => e = .returned (.bool true) ∧ Below w.heap.size w w' := by
  obtain ⟨L, hL⟩ : ∃ L : Nat → List UInt8, L = fun i => match i with | 0 => key | 1 => nonce | 2 => text | _ => [] := ⟨_, rfl⟩
  have hs := short_any L w
  have ha : agg4s L = .agg #[.string ⟨key.toArray⟩, .string ⟨nonce.toArray⟩, .string ⟨text.toArray⟩, .string ⟨#[]⟩] := by rw [hL]; rfl
  rw [ha] at hs
  by_cases hb : shortB L = true
  · have h3 := (shortB_iff L).1 hb
    have hk : key.length ≤ 1000 := by have := h3 0 (by omega); rw [hL] at this; exact this
    have hn : nonce.length ≤ 1000 := by have := h3 1 (by omega); rw [hL] at this; exact this
    have ht : text.length ≤ 1000 := by have := h3 2 (by omega); rw [hL] at this; exact this
    rw [hb] at hs
    have Hs := Lib.hid hs
    have Hk := Lib.hid hk
    have Hn := Lib.hid hn
    have Ht := Lib.hid ht
    clear hs ha hb h3 hk hn ht hL
    by_cases hok : key.length = 32 ∧ nonce.length = 12
    · have hd : decide (key.length = 32 ∧ nonce.length = 12) = true := by simp only [decide_eq_true_iff]; exact hok
      have Hok := Lib.hid hok
      clear hok
      go_enter Try.func7, Try.ntmps7
      go_wp2_with fail
      refine Hs.out.mono ?_
      rintro e w1 ⟨rfl, hl1⟩
      have Hl1 := Lib.hid hl1
      clear hl1
      go_wp2_with fail
      refine (hide_any key nonce text _ Hok.out.1 Hok.out.2 (by have := Ht.out; omega)).mono ?_
      rintro e w2 ⟨rfl, hl2⟩
      obtain ⟨H, hH⟩ : ∃ H, H = hid key nonce text := ⟨_, rfl⟩
      rw [← hH]
      have hHl : H.length ≤ 1000 := by rw [hH, hid_length]; exact Ht.out
      have hHH : hid key nonce H = text := by rw [hH, hid_hid]
      have hB2 := Hl1.out.trans (hl2.mono Hl1.out.size)
      have HH := Lib.hid hH
      have HHl := Lib.hid hHl
      have HHH := Lib.hid hHH
      have HB2 := Lib.hid hB2
      clear hH hHl hHH hl2 hB2
      go_wp2_with fail
      refine (lright_any key nonce _).mono ?_
      rintro e w3 ⟨rfl, rfl⟩
      rw [hd]
      go_wp2_with fail
      refine (hide_any key nonce H _ Hok.out.1 Hok.out.2 (by have := HHl.out; omega)).mono ?_
      rintro e w4 ⟨rfl, hl4⟩
      rw [HHH.out]
      have hB4 := HB2.out.trans (hl4.mono HB2.out.size)
      have HB4 := Lib.hid hB4
      clear hl4 hB4
      go_wp2_with fail
      refine (rhide_any key nonce text _ Hok.out.1 Hok.out.2 (by have := Ht.out; omega)).mono ?_
      rintro e w5 ⟨rfl, hl5⟩
      rw [← HH.out]
      have hB5 := HB4.out.trans (hl5.mono HB4.out.size)
      have HB5 := Lib.hid hB5
      clear hl5 hB5
      go_wp2_with fail
      refine (lives_any _).mono ?_
      rintro e w9 ⟨rfl, hl9⟩
      have hB9 := HB5.out.trans (hl9.mono HB5.out.size)
      have HB9 := Lib.hid hB9
      clear hl9 hB9
      go_wp2_with fail
      go_ret
      exact ⟨rfl, HB9.out⟩
    · have hd : decide (key.length = 32 ∧ nonce.length = 12) = false := by simp only [decide_eq_false_iff_not]; exact hok
      have Hok := Lib.hid hok
      clear hok
      go_enter Try.func7, Try.ntmps7
      go_wp2_with fail
      refine Hs.out.mono ?_
      rintro e w1 ⟨rfl, hl1⟩
      have Hl1 := Lib.hid hl1
      clear hl1
      go_wp2_with fail
      refine (hide_bad key nonce text _ Hok.out).mono ?_
      rintro e w2 ⟨rfl, rfl⟩
      go_wp2_with fail
      refine (lright_any key nonce _).mono ?_
      rintro e w3 ⟨rfl, rfl⟩
      rw [hd]
      go_wp2_with fail
      refine (lives_any _).mono ?_
      rintro e w9 ⟨rfl, hl9⟩
      have hB9 := Hl1.out.trans (hl9.mono Hl1.out.size)
      have HB9 := Lib.hid hB9
      clear hl9 hB9
      go_wp2_with fail
      go_ret
      exact ⟨rfl, HB9.out⟩
  · have hb2 : shortB L = false := by rw [Bool.eq_false_iff]; exact hb
    rw [hb2] at hs
    have Hs := Lib.hid hs
    clear hs ha hb hb2 hL
    go_enter Try.func7, Try.ntmps7
    go_wp2_with fail
    refine Hs.out.mono ?_
    rintro e w1 ⟨rfl, hl1⟩
    have Hl1 := Lib.hid hl1
    clear hl1
    go_wp2_with fail
    refine (lives_any _).mono ?_
    rintro e w9 ⟨rfl, hl9⟩
    have hB9 := Hl1.out.trans (hl9.mono Hl1.out.size)
    have HB9 := Lib.hid hB9
    clear hl9 hB9
    go_wp2_with fail
    go_ret
    exact ⟨rfl, HB9.out⟩

end Go.Proofs.Ytgkhdpplmdkkaaa
