/- The walks of the laws CipherSeals and CipherOpens. -/
import Derived.Test.YtgkhdpplmdkkaaaRo
namespace Go.Proofs.Ytgkhdpplmdkkaaa
open Go.RowKit Go.Lib

set_option maxRecDepth 100000 in
set_option maxHeartbeats 4000000 in
theorem seals_walk (L : Nat → List UInt8) (w : World) : Calls Try.prog 10 #[agg4s L] w fun e w' => e = .returned (.bool true) ∧ Below w.heap.size w w' := by
  have hagg : agg4s L = .agg #[.string ⟨(L 0).toArray⟩, .string ⟨(L 1).toArray⟩, .string ⟨(L 2).toArray⟩, .string ⟨(L 3).toArray⟩] := rfl
  rw [hagg]
  clear hagg
  go_enter Try.func10, Try.ntmps10
  go_wp2_with fail
  refine (short_any L _).mono ?_
  rintro e w1 ⟨rfl, hl1⟩
  have hb1 : Blk w1 w.heap.size 56 (s4Arr L) := (Blk.new w _ _).below hl1 (by simp)
  have hB1 : Below w.heap.size w w1 := ((Below.refl w.heap.size w).alloc (Nat.le_refl _) (.cells (s4Arr L) 56)).trans (hl1.mono (by simp))
  have c0 := (hb1.cell 0).trans (s4_at L 0 (by omega))
  have c1 := (hb1.cell 1).trans (s4_at L 1 (by omega))
  have c2 := (hb1.cell 2).trans (s4_at L 2 (by omega))
  have c3 := (hb1.cell 3).trans (s4_at L 3 (by omega))
  have Hb1 := Lib.hid hb1
  have HB1 := Lib.hid hB1
  clear hl1 hb1 hB1
  by_cases hs : ∀ i, i < 4 → (L i).length ≤ 1000
  · have hsd : shortB L = true := (shortB_iff L).2 hs
    rw [hsd]
    have Hs0 := Lib.hid (hs 0 (by omega))
    have Hs2 := Lib.hid (hs 2 (by omega))
    have Hs3 := Lib.hid (hs 3 (by omega))
    clear hs hsd
    by_cases hn : (L 1).length = 12
    · have hn2 : (((L 1).length : Int) == 12) = true := by simp; omega
      have hn3 : ((L 1).length : Int) = 12 := by omega
      have Hn := Lib.hid hn
      clear hn
      go_wp2_with fail
      refine (cseal_any (L 0) (L 1) (L 2) (L 3) _ (by have := Hs0.out; omega) Hn.out (by have := Hs2.out; omega) (by have := Hs3.out; omega)).mono ?_
      rintro e w2 ⟨rfl, hl2⟩
      obtain ⟨S, hS⟩ : ∃ S, S = sealP (L 0) (L 1) (L 2) (L 3) := ⟨_, rfl⟩
      rw [← hS]
      have hSl : S.length = (L 3).length + 16 := by rw [hS, sealP_length]
      have hop : openP (L 0) (L 1) (L 2) S = (L 3, 0) := by rw [hS, open_seal]
      have hb2 := Hb1.out.below hl2 Hb1.out.lt
      have hB2 := HB1.out.trans (hl2.mono HB1.out.size)
      have d0 := (hb2.cell 0).trans (s4_at L 0 (by omega))
      have d1 := (hb2.cell 1).trans (s4_at L 1 (by omega))
      have d2 := (hb2.cell 2).trans (s4_at L 2 (by omega))
      have d3 := (hb2.cell 3).trans (s4_at L 3 (by omega))
      have Hb2 := Lib.hid hb2
      have HB2 := Lib.hid hB2
      have HS := Lib.hid hS
      have HSl := Lib.hid hSl
      have Hop := Lib.hid hop
      clear hl2 hb2 hB2 hS hSl hop c0 c1 c2 c3
      go_wp2_with fail
      refine (copen_any (L 0) (L 1) (L 2) S _ (by have := Hs0.out; omega) Hn.out (by have := Hs2.out; omega) (by have := HSl.out; omega) (by have := HSl.out; have := Hs3.out; omega)).mono ?_
      rintro e w3 ⟨rfl, hl3⟩
      rw [Hop.out]
      have hb3 := Hb2.out.below hl3 Hb2.out.lt
      have hB3 := HB2.out.trans (hl3.mono HB2.out.size)
      have m0 := (hb3.cell 0).trans (s4_at L 0 (by omega))
      have m1 := (hb3.cell 1).trans (s4_at L 1 (by omega))
      have m2 := (hb3.cell 2).trans (s4_at L 2 (by omega))
      have m3 := (hb3.cell 3).trans (s4_at L 3 (by omega))
      have Hb3 := Lib.hid hb3
      have HB3 := Lib.hid hB3
      clear hl3 hb3 hB3 d0 d1 d2 d3
      go_wp2_with fail
      refine (rcseal_any (L 0) (L 1) (L 2) (L 3) _ (by have := Hs0.out; omega) Hn.out (by have := Hs2.out; omega) (by have := Hs3.out; omega)).mono ?_
      rintro e w4 ⟨rfl, hl4⟩
      rw [← HS.out]
      have hb4 := Hb3.out.below hl4 Hb3.out.lt
      have hB4 := HB3.out.trans (hl4.mono HB3.out.size)
      have n3 := (hb4.cell 3).trans (s4_at L 3 (by omega))
      have HB4 := Lib.hid hB4
      clear hl4 hb4 hB4 m0 m1 m2 m3
      go_wp2_with fail
      refine (lives_any _).mono ?_
      rintro e w9 ⟨rfl, hl9⟩
      have hB9 := HB4.out.trans (hl9.mono HB4.out.size)
      have HB9 := Lib.hid hB9
      clear hl9 hB9
      go_wp2_with fail
      go_ret
      exact ⟨rfl, HB9.out⟩
    · have hn2 : (((L 1).length : Int) == 12) = false := by rw [beq_eq_false_iff_ne]; omega
      have hn3 : ¬ ((L 1).length : Int) = 12 := by omega
      have Hn := Lib.hid hn
      clear hn
      go_wp2_with fail
      refine (cseal_bad (L 0) (L 1) (L 2) (L 3) _ Hn.out).mono ?_
      rintro e w2 ⟨rfl, rfl⟩
      go_wp2_with fail
      refine (lives_any _).mono ?_
      rintro e w9 ⟨rfl, hl9⟩
      have hB9 := HB1.out.trans (hl9.mono HB1.out.size)
      have HB9 := Lib.hid hB9
      clear hl9 hB9
      go_wp2_with fail
      go_ret
      exact ⟨rfl, HB9.out⟩
  · have hsd : shortB L = false := by
      rw [Bool.eq_false_iff]
      exact fun h => hs ((shortB_iff L).1 h)
    rw [hsd]
    clear hs hsd
    go_wp2_with fail
    refine (lives_any _).mono ?_
    rintro e w9 ⟨rfl, hl9⟩
    have hB9 := HB1.out.trans (hl9.mono HB1.out.size)
    have HB9 := Lib.hid hB9
    clear hl9 hB9
    go_wp2_with fail
    go_ret
    exact ⟨rfl, HB9.out⟩

set_option maxRecDepth 100000 in
set_option maxHeartbeats 4000000 in
theorem opens_walk (L : Nat → List UInt8) (w : World) : Calls Try.prog 11 #[agg4s L] w fun e w' => e = .returned (.bool true) ∧ Below w.heap.size w w' := by
  have hagg : agg4s L = .agg #[.string ⟨(L 0).toArray⟩, .string ⟨(L 1).toArray⟩, .string ⟨(L 2).toArray⟩, .string ⟨(L 3).toArray⟩] := rfl
  rw [hagg]
  clear hagg
  go_enter Try.func11, Try.ntmps11
  go_wp2_with fail
  refine (short_any L _).mono ?_
  rintro e w1 ⟨rfl, hl1⟩
  have hb1 : Blk w1 w.heap.size 56 (s4Arr L) := (Blk.new w _ _).below hl1 (by simp)
  have hB1 : Below w.heap.size w w1 := ((Below.refl w.heap.size w).alloc (Nat.le_refl _) (.cells (s4Arr L) 56)).trans (hl1.mono (by simp))
  have c0 := (hb1.cell 0).trans (s4_at L 0 (by omega))
  have c1 := (hb1.cell 1).trans (s4_at L 1 (by omega))
  have c2 := (hb1.cell 2).trans (s4_at L 2 (by omega))
  have c3 := (hb1.cell 3).trans (s4_at L 3 (by omega))
  have Hb1 := Lib.hid hb1
  have HB1 := Lib.hid hB1
  clear hl1 hb1 hB1
  by_cases hs : ∀ i, i < 4 → (L i).length ≤ 1000
  · have hsd : shortB L = true := (shortB_iff L).2 hs
    rw [hsd]
    have Hs0 := Lib.hid (hs 0 (by omega))
    have Hs2 := Lib.hid (hs 2 (by omega))
    have Hs3 := Lib.hid (hs 3 (by omega))
    clear hs hsd
    by_cases hn : (L 1).length = 12
    · have Hn := Lib.hid hn
      clear hn
      by_cases h16 : 16 ≤ (L 3).length
      · have H16 := Lib.hid h16
        clear h16
        obtain ⟨P, hP⟩ : ∃ P, P = openP (L 0) (L 1) (L 2) (L 3) := ⟨_, rfl⟩
        have HP := Lib.hid hP
        clear hP
        go_wp2_with fail
        refine (copen_any (L 0) (L 1) (L 2) (L 3) _ (by have := Hs0.out; omega) Hn.out (by have := Hs2.out; omega) H16.out (by have := Hs3.out; omega)).mono ?_
        rintro e w2 ⟨rfl, hl2⟩
        rw [← HP.out]
        have hb2 := Hb1.out.below hl2 Hb1.out.lt
        have hB2 := HB1.out.trans (hl2.mono HB1.out.size)
        have d0 := (hb2.cell 0).trans (s4_at L 0 (by omega))
        have d1 := (hb2.cell 1).trans (s4_at L 1 (by omega))
        have d2 := (hb2.cell 2).trans (s4_at L 2 (by omega))
        have d3 := (hb2.cell 3).trans (s4_at L 3 (by omega))
        have Hb2 := Lib.hid hb2
        have HB2 := Lib.hid hB2
        clear hl2 hb2 hB2 c0 c1 c2 c3
        go_wp2_with fail
        refine (ropen_any (L 0) (L 1) (L 2) (L 3) _ (by have := Hs0.out; omega) Hn.out (by have := Hs2.out; omega) H16.out (by have := Hs3.out; omega)).mono ?_
        rintro e w3 ⟨rfl, hl3⟩
        rw [← HP.out]
        have hB3 := HB2.out.trans (hl3.mono HB2.out.size)
        have HB3 := Lib.hid hB3
        clear hl3 hB3 d0 d1 d2 d3
        go_wp2_with fail
        refine (lives_any _).mono ?_
        rintro e w9 ⟨rfl, hl9⟩
        have hB9 := HB3.out.trans (hl9.mono HB3.out.size)
        have HB9 := Lib.hid hB9
        clear hl9 hB9
        go_wp2_with fail
        go_ret
        exact ⟨rfl, HB9.out⟩
      · have H16 := Lib.hid h16
        clear h16
        go_wp2_with fail
        refine (copen_end (L 0) (L 1) (L 2) (L 3) _ Hn.out (by have := Hs2.out; omega) (by have := H16.out; omega)).mono ?_
        rintro e w2 ⟨rfl, rfl⟩
        go_wp2_with fail
        refine (ropen_end (L 0) (L 1) (L 2) (L 3) _ Hn.out (by have := Hs2.out; omega) (by have := H16.out; omega)).mono ?_
        rintro e w3 ⟨rfl, rfl⟩
        go_wp2_with fail
        refine (lives_any _).mono ?_
        rintro e w9 ⟨rfl, hl9⟩
        have hB9 := HB1.out.trans (hl9.mono HB1.out.size)
        have HB9 := Lib.hid hB9
        clear hl9 hB9
        go_wp2_with fail
        go_ret
        exact ⟨rfl, HB9.out⟩
    · have Hn := Lib.hid hn
      clear hn
      go_wp2_with fail
      refine (copen_nonce (L 0) (L 1) (L 2) (L 3) _ Hn.out).mono ?_
      rintro e w2 ⟨rfl, rfl⟩
      go_wp2_with fail
      refine (ropen_nonce (L 0) (L 1) (L 2) (L 3) _ Hn.out).mono ?_
      rintro e w3 ⟨rfl, rfl⟩
      go_wp2_with fail
      refine (lives_any _).mono ?_
      rintro e w9 ⟨rfl, hl9⟩
      have hB9 := HB1.out.trans (hl9.mono HB1.out.size)
      have HB9 := Lib.hid hB9
      clear hl9 hB9
      go_wp2_with fail
      go_ret
      exact ⟨rfl, HB9.out⟩
  · have hsd : shortB L = false := by
      rw [Bool.eq_false_iff]
      exact fun h => hs ((shortB_iff L).1 h)
    rw [hsd]
    clear hs hsd
    go_wp2_with fail
    refine (lives_any _).mono ?_
    rintro e w9 ⟨rfl, hl9⟩
    have hB9 := HB1.out.trans (hl9.mono HB1.out.size)
    have HB9 := Lib.hid hB9
    clear hl9 hB9
    go_wp2_with fail
    go_ret
    exact ⟨rfl, HB9.out⟩
end Go.Proofs.Ytgkhdpplmdkkaaa
