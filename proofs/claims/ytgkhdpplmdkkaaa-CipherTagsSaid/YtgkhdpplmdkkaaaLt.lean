/- The walk of the law CipherTags. -/
import Derived.Test.YtgkhdpplmdkkaaaLs
import Derived.Deep.RegionHeld3
namespace Go.Proofs.Ytgkhdpplmdkkaaa
open Go.RowKit Go.Lib

theorem S4s {w : World} {g : Nat} {t : TypeId} {L : Nat → List UInt8} (h : Blk w g t (s4Arr L)) :
    w.cell? ⟨g, 0, none⟩ = some (.string ⟨(L 0).toArray⟩) ∧ w.cell? ⟨g, 1, none⟩ = some (.string ⟨(L 1).toArray⟩) ∧ w.cell? ⟨g, 2, none⟩ = some (.string ⟨(L 2).toArray⟩) ∧ w.cell? ⟨g, 3, none⟩ = some (.string ⟨(L 3).toArray⟩) :=
  ⟨(h.cell 0).trans (s4_at L 0 (by omega)), (h.cell 1).trans (s4_at L 1 (by omega)), (h.cell 2).trans (s4_at L 2 (by omega)), (h.cell 3).trans (s4_at L 3 (by omega))⟩
set_option maxRecDepth 100000 in
set_option maxHeartbeats 4000000 in
theorem tags_walk (L : Nat → List UInt8) (o : List UInt8) (w : World) : Calls Try.prog 12 #[agg4s L, .string ⟨o.toArray⟩] w fun e w' => e = .returned (.bool true) ∧ Below w.heap.size w w' := by
  have hagg : agg4s L = .agg #[.string ⟨(L 0).toArray⟩, .string ⟨(L 1).toArray⟩, .string ⟨(L 2).toArray⟩, .string ⟨(L 3).toArray⟩] := rfl
  rw [hagg]
  clear hagg
  go_enter Try.func12, Try.ntmps12
  go_wp2_with fail
  refine (short_any L _).mono ?_
  rintro e w1 ⟨rfl, hl1⟩
  have hb1 : Blk w1 w.heap.size 56 (s4Arr L) := (Blk.new w _ _).below hl1 (by simp)
  have hB1 : Below w.heap.size w w1 := ((Below.refl w.heap.size w).alloc (Nat.le_refl _) (.cells (s4Arr L) 56)).trans (hl1.mono (by simp))
  have c0 := (hb1.cell 0).trans (s4_at L 0 (by omega))
  have c1 := (hb1.cell 1).trans (s4_at L 1 (by omega))
  have c2 := (hb1.cell 2).trans (s4_at L 2 (by omega))
  have c3 := (hb1.cell 3).trans (s4_at L 3 (by omega))
  have Hb1 := Lib.hid hb1
  have HB1 := Lib.hid hB1
  clear hl1 hb1 hB1
  by_cases hs : ∀ i, i < 4 → (L i).length ≤ 1000
  · have hsd : shortB L = true := (shortB_iff L).2 hs
    rw [hsd]
    have hs0 := hs 0 (by omega)
    have hs2 := hs 2 (by omega)
    have hs3 := hs 3 (by omega)
    have Hs0 := Lib.hid hs0
    have Hs2 := Lib.hid hs2
    have Hs3 := Lib.hid hs3
    clear hs hsd hs0 hs2
    by_cases hn : (L 1).length = 12
    · have hn2 : (((L 1).length : Int) == 12) = true := by simp; omega
      have hn3 : ((L 1).length : Int) = 12 := by omega
      have Hn := Lib.hid hn
      clear hn
      by_cases ho : o.length ≤ 16
      · have ho2 : decide ((16 : Int) < (o.length : Int)) = false := by simp; omega
        go_wp2_with fail
        refine (cseal_any (L 0) (L 1) (L 2) (L 3) _ (by have := Hs0.out; omega) Hn.out (by have := Hs2.out; omega) (by have := Hs3.out; omega)).mono ?_
        rintro e w2 ⟨rfl, hl2⟩
        obtain ⟨H, hH⟩ : ∃ H, H = hid (key1 (L 0)) (L 1) (L 3) := ⟨_, rfl⟩
        obtain ⟨tg, htg⟩ : ∃ tg, tg = tagP (key2 (L 0)) (L 1) (L 2) H := ⟨_, rfl⟩
        obtain ⟨S, hS⟩ : ∃ S, S = sealP (L 0) (L 1) (L 2) (L 3) := ⟨_, rfl⟩
        rw [← hS]
        have hSH : S = H ++ tg := by rw [hS, htg, hH]; rfl
        have hHl : H.length = (L 3).length := by rw [hH, hid_length]
        have htl : tg.length = 16 := by rw [htg, tagP_length]
        have hSl : (S.length : Int) = ((L 3).length : Int) + 16 := by rw [hSH, List.length_append, hHl, htl]; rfl
        have hb2 := Hb1.out.below hl2 Hb1.out.lt
        have hB2 := HB1.out.trans (hl2.mono HB1.out.size)
        have d0 := (hb2.cell 0).trans (s4_at L 0 (by omega))
        have d1 := (hb2.cell 1).trans (s4_at L 1 (by omega))
        have d2 := (hb2.cell 2).trans (s4_at L 2 (by omega))
        have d3 := (hb2.cell 3).trans (s4_at L 3 (by omega))
        have Hb2 := Lib.hid hb2
        have HB2 := Lib.hid hB2
        have HH := Lib.hid hH
        have Htg := Lib.hid htg
        have HS := Lib.hid hS
        have HSH := Lib.hid hSH
        have HHl := Lib.hid hHl
        have Htl := Lib.hid htl
        clear hl2 hb2 hB2 hH htg hS hSH hHl htl c0 c1 c2 c3
        have hle : ((L 3).length : Int) ≤ (S.length : Int) := by omega
        have hle2 : (L 3).length ≤ S.length := by omega
        have hx1 : (ByteArray.mk S.toArray).extract 0 (L 3).length = ⟨H.toArray⟩ := by
          rw [extract_mk, HSH.out, ← HHl.out, List.take_left]; rfl
        have hx2 : (ByteArray.mk S.toArray).extract (L 3).length S.length = ⟨tg.toArray⟩ := by
          rw [extract_mk, List.take_of_length_le (Nat.le_refl _), HSH.out, ← HHl.out, List.drop_left]
        by_cases ho16 : o.length = 16
        · have hoi : (o.length : Int) = 16 := by omega
          have hadd := str_add H o (by have := HHl.out; have := Hs3.out; omega)
          have Ho16 := Lib.hid ho16
          clear ho16 ho ho2
          go_wp2_with fail
          clear hSl
          by_cases hto : tg = o
          · have hop : openP (L 0) (L 1) (L 2) (H ++ o) = (hid (key1 (L 0)) (L 1) H, 0) := by rw [openP_app _ _ _ _ _ Ho16.out, ← Htg.out, if_pos hto]
            subst hto
            go_region_held3 (fun w' => w'.cell? ⟨w.heap.size, 0, none⟩ = some (.string ⟨(L 0).toArray⟩) ∧ w'.cell? ⟨w.heap.size, 1, none⟩ = some (.string ⟨(L 1).toArray⟩) ∧ w'.cell? ⟨w.heap.size, 2, none⟩ = some (.string ⟨(L 2).toArray⟩) ∧ w'.cell? ⟨w.heap.size, 3, none⟩ = some (.string ⟨(L 3).toArray⟩)) (first | with_reducible exact S4s Hb2.out | with_reducible exact S4s Hb2.out.drew | with_reducible exact S4s Hb3.out | fail) (first | (go_at_call 42; refine (copen_any (L 0) (L 1) (L 2) (H ++ tg) _ (by have := Hs0.out; omega) Hn.out (by have := Hs2.out; omega) (by have := Ho16.out; rw [List.length_append]; omega) (by have := Ho16.out; have := HHl.out; have := Hs3.out; rw [List.length_append]; omega)).mono ?_; rintro e3 w3 ⟨rfl, hl3⟩; rw [hop]; have hb3 : Blk w3 w.heap.size 56 (s4Arr L) := (Hb2.out.drewN 1).below hl3 Hb2.out.lt; have hB3 : Below w.heap.size w w3 := (below_drewN' HB2.out 1).trans (hl3.mono HB2.out.size); have m0 := (hb3.cell 0).trans (s4_at L 0 (by omega)); have m1 := (hb3.cell 1).trans (s4_at L 1 (by omega)); have m2 := (hb3.cell 2).trans (s4_at L 2 (by omega)); have m3 := (hb3.cell 3).trans (s4_at L 3 (by omega)); have Hb3 := Lib.hid hb3; have HB3 := Lib.hid hB3; clear hl3 hb3 hB3 d0 d1 d2 d3))
            all_goals
              go_wp2_with fail
              by_cases h16 : 16 ≤ (L 3).length
              · go_wp2_with fail
                refine (copen_any (L 0) (L 1) (L 2) (L 3) _ (by have := Hs0.out; omega) Hn.out (by have := Hs2.out; omega) h16 (by have := Hs3.out; omega)).mono ?_
                rintro e w5 ⟨rfl, hl5⟩
                have hb5 := Hb3.out.below hl5 Hb3.out.lt
                have hB5 := HB3.out.trans (hl5.mono HB3.out.size)
                have v0 := (hb5.cell 0).trans (s4_at L 0 (by omega))
                have v1 := (hb5.cell 1).trans (s4_at L 1 (by omega))
                have v2 := (hb5.cell 2).trans (s4_at L 2 (by omega))
                have v3 := (hb5.cell 3).trans (s4_at L 3 (by omega))
                have Hb5 := Lib.hid hb5
                have HB5 := Lib.hid hB5
                clear hl5 hb5 hB5
                by_cases hz : (openP (L 0) (L 1) (L 2) (L 3)).2 = 0
                · have hso := seal_open (L 0) (L 1) (L 2) (L 3) hz
                  rw [hz]
                  obtain ⟨T, hT⟩ : ∃ T, T = (openP (L 0) (L 1) (L 2) (L 3)).1 := ⟨_, rfl⟩
                  rw [← hT] at hso ⊢
                  have hTl : T.length ≤ 1000 := by have h1 := congrArg List.length hso; rw [sealP_length] at h1; have := Hs3.out; omega
                  have Hso := Lib.hid hso
                  have HTl := Lib.hid hTl
                  clear hz hso hT hTl
                  go_wp2_with fail
                  refine (cseal_any (L 0) (L 1) (L 2) T _ (by have := Hs0.out; omega) Hn.out (by have := Hs2.out; omega) (by have := HTl.out; omega)).mono ?_
                  rintro e w6 ⟨rfl, hl6⟩
                  rw [Hso.out]
                  have hb6 := Hb5.out.below hl6 Hb5.out.lt
                  have hB6 := HB5.out.trans (hl6.mono HB5.out.size)
                  have x3 := (hb6.cell 3).trans (s4_at L 3 (by omega))
                  have HB6 := Lib.hid hB6
                  clear hl6 hb6 hB6
                  go_wp2_with fail
                  refine (lives_any _).mono ?_
                  rintro e w9 ⟨rfl, hl9⟩
                  have hB9 := HB6.out.trans (hl9.mono HB6.out.size)
                  have HB9 := Lib.hid hB9
                  clear hl9 hB9
                  go_wp2_with fail
                  go_ret
                  exact ⟨rfl, HB9.out⟩
                · rw [openP_bad _ _ _ _ hz]
                  clear hz
                  go_wp2_with fail
                  refine (lives_any _).mono ?_
                  rintro e w9 ⟨rfl, hl9⟩
                  have hB9 := HB5.out.trans (hl9.mono HB5.out.size)
                  have HB9 := Lib.hid hB9
                  clear hl9 hB9
                  go_wp2_with fail
                  go_ret
                  exact ⟨rfl, HB9.out⟩
              · go_wp2_with fail
                refine (copen_end (L 0) (L 1) (L 2) (L 3) _ Hn.out (by have := Hs2.out; omega) (by omega)).mono ?_
                rintro e w5 ⟨rfl, rfl⟩
                go_wp2_with fail
                refine (lives_any _).mono ?_
                rintro e w9 ⟨rfl, hl9⟩
                have hB9 := HB3.out.trans (hl9.mono HB3.out.size)
                have HB9 := Lib.hid hB9
                clear hl9 hB9
                go_wp2_with fail
                go_ret
                exact ⟨rfl, HB9.out⟩
          · have hto2 : ¬ o = tg := fun h => hto h.symm
            have hto3 : (o == tg) = false := by rw [beq_eq_false_iff_ne]; exact hto2
            have hop : openP (L 0) (L 1) (L 2) (H ++ o) = ([], 4) := by rw [openP_app _ _ _ _ _ Ho16.out, ← Htg.out, if_neg hto]
            go_region_held3 (fun w' => w'.cell? ⟨w.heap.size, 0, none⟩ = some (.string ⟨(L 0).toArray⟩) ∧ w'.cell? ⟨w.heap.size, 1, none⟩ = some (.string ⟨(L 1).toArray⟩) ∧ w'.cell? ⟨w.heap.size, 2, none⟩ = some (.string ⟨(L 2).toArray⟩) ∧ w'.cell? ⟨w.heap.size, 3, none⟩ = some (.string ⟨(L 3).toArray⟩)) (first | with_reducible exact S4s Hb2.out | with_reducible exact S4s Hb2.out.drew | with_reducible exact S4s Hb3.out | fail) (first | (go_at_call 42; refine (copen_any (L 0) (L 1) (L 2) (H ++ o) _ (by have := Hs0.out; omega) Hn.out (by have := Hs2.out; omega) (by have := Ho16.out; rw [List.length_append]; omega) (by have := Ho16.out; have := HHl.out; have := Hs3.out; rw [List.length_append]; omega)).mono ?_; rintro e3 w3 ⟨rfl, hl3⟩; rw [hop]; have hb3 : Blk w3 w.heap.size 56 (s4Arr L) := (Hb2.out.drewN 1).below hl3 Hb2.out.lt; have hB3 : Below w.heap.size w w3 := (below_drewN' HB2.out 1).trans (hl3.mono HB2.out.size); have m0 := (hb3.cell 0).trans (s4_at L 0 (by omega)); have m1 := (hb3.cell 1).trans (s4_at L 1 (by omega)); have m2 := (hb3.cell 2).trans (s4_at L 2 (by omega)); have m3 := (hb3.cell 3).trans (s4_at L 3 (by omega)); have Hb3 := Lib.hid hb3; have HB3 := Lib.hid hB3; clear hl3 hb3 hB3 d0 d1 d2 d3))
            all_goals
              go_wp2_with fail
              by_cases h16 : 16 ≤ (L 3).length
              · go_wp2_with fail
                refine (copen_any (L 0) (L 1) (L 2) (L 3) _ (by have := Hs0.out; omega) Hn.out (by have := Hs2.out; omega) h16 (by have := Hs3.out; omega)).mono ?_
                rintro e w5 ⟨rfl, hl5⟩
                have hb5 := Hb3.out.below hl5 Hb3.out.lt
                have hB5 := HB3.out.trans (hl5.mono HB3.out.size)
                have v0 := (hb5.cell 0).trans (s4_at L 0 (by omega))
                have v1 := (hb5.cell 1).trans (s4_at L 1 (by omega))
                have v2 := (hb5.cell 2).trans (s4_at L 2 (by omega))
                have v3 := (hb5.cell 3).trans (s4_at L 3 (by omega))
                have Hb5 := Lib.hid hb5
                have HB5 := Lib.hid hB5
                clear hl5 hb5 hB5
                by_cases hz : (openP (L 0) (L 1) (L 2) (L 3)).2 = 0
                · have hso := seal_open (L 0) (L 1) (L 2) (L 3) hz
                  rw [hz]
                  obtain ⟨T, hT⟩ : ∃ T, T = (openP (L 0) (L 1) (L 2) (L 3)).1 := ⟨_, rfl⟩
                  rw [← hT] at hso ⊢
                  have hTl : T.length ≤ 1000 := by have h1 := congrArg List.length hso; rw [sealP_length] at h1; have := Hs3.out; omega
                  have Hso := Lib.hid hso
                  have HTl := Lib.hid hTl
                  clear hz hso hT hTl
                  go_wp2_with fail
                  refine (cseal_any (L 0) (L 1) (L 2) T _ (by have := Hs0.out; omega) Hn.out (by have := Hs2.out; omega) (by have := HTl.out; omega)).mono ?_
                  rintro e w6 ⟨rfl, hl6⟩
                  rw [Hso.out]
                  have hb6 := Hb5.out.below hl6 Hb5.out.lt
                  have hB6 := HB5.out.trans (hl6.mono HB5.out.size)
                  have x3 := (hb6.cell 3).trans (s4_at L 3 (by omega))
                  have HB6 := Lib.hid hB6
                  clear hl6 hb6 hB6
                  go_wp2_with fail
                  refine (lives_any _).mono ?_
                  rintro e w9 ⟨rfl, hl9⟩
                  have hB9 := HB6.out.trans (hl9.mono HB6.out.size)
                  have HB9 := Lib.hid hB9
                  clear hl9 hB9
                  go_wp2_with fail
                  go_ret
                  exact ⟨rfl, HB9.out⟩
                · rw [openP_bad _ _ _ _ hz]
                  clear hz
                  go_wp2_with fail
                  refine (lives_any _).mono ?_
                  rintro e w9 ⟨rfl, hl9⟩
                  have hB9 := HB5.out.trans (hl9.mono HB5.out.size)
                  have HB9 := Lib.hid hB9
                  clear hl9 hB9
                  go_wp2_with fail
                  go_ret
                  exact ⟨rfl, HB9.out⟩
              · go_wp2_with fail
                refine (copen_end (L 0) (L 1) (L 2) (L 3) _ Hn.out (by have := Hs2.out; omega) (by omega)).mono ?_
                rintro e w5 ⟨rfl, rfl⟩
                go_wp2_with fail
                refine (lives_any _).mono ?_
                rintro e w9 ⟨rfl, hl9⟩
                have hB9 := HB3.out.trans (hl9.mono HB3.out.size)
                have HB9 := Lib.hid hB9
                clear hl9 hB9
                go_wp2_with fail
                go_ret
                exact ⟨rfl, HB9.out⟩
        · have hoi : ((o.length : Int) == 16) = false := by rw [beq_eq_false_iff_ne]; omega
          clear ho16 ho ho2
          by_cases h16 : 16 ≤ (L 3).length
          · go_wp2_with fail
            refine (copen_any (L 0) (L 1) (L 2) (L 3) _ (by have := Hs0.out; omega) Hn.out (by have := Hs2.out; omega) h16 (by have := Hs3.out; omega)).mono ?_
            rintro e w5 ⟨rfl, hl5⟩
            have hb5 := Hb2.out.below hl5 Hb2.out.lt
            have hB5 := HB2.out.trans (hl5.mono HB2.out.size)
            have v0 := (hb5.cell 0).trans (s4_at L 0 (by omega))
            have v1 := (hb5.cell 1).trans (s4_at L 1 (by omega))
            have v2 := (hb5.cell 2).trans (s4_at L 2 (by omega))
            have v3 := (hb5.cell 3).trans (s4_at L 3 (by omega))
            have Hb5 := Lib.hid hb5
            have HB5 := Lib.hid hB5
            clear hl5 hb5 hB5
            by_cases hz : (openP (L 0) (L 1) (L 2) (L 3)).2 = 0
            · have hso := seal_open (L 0) (L 1) (L 2) (L 3) hz
              rw [hz]
              obtain ⟨T, hT⟩ : ∃ T, T = (openP (L 0) (L 1) (L 2) (L 3)).1 := ⟨_, rfl⟩
              rw [← hT] at hso ⊢
              have hTl : T.length ≤ 1000 := by have h1 := congrArg List.length hso; rw [sealP_length] at h1; have := Hs3.out; omega
              have Hso := Lib.hid hso
              have HTl := Lib.hid hTl
              clear hz hso hT hTl
              go_wp2_with fail
              refine (cseal_any (L 0) (L 1) (L 2) T _ (by have := Hs0.out; omega) Hn.out (by have := Hs2.out; omega) (by have := HTl.out; omega)).mono ?_
              rintro e w6 ⟨rfl, hl6⟩
              rw [Hso.out]
              have hb6 := Hb5.out.below hl6 Hb5.out.lt
              have hB6 := HB5.out.trans (hl6.mono HB5.out.size)
              have x3 := (hb6.cell 3).trans (s4_at L 3 (by omega))
              have HB6 := Lib.hid hB6
              clear hl6 hb6 hB6
              go_wp2_with fail
              refine (lives_any _).mono ?_
              rintro e w9 ⟨rfl, hl9⟩
              have hB9 := HB6.out.trans (hl9.mono HB6.out.size)
              have HB9 := Lib.hid hB9
              clear hl9 hB9
              go_wp2_with fail
              go_ret
              exact ⟨rfl, HB9.out⟩
            · rw [openP_bad _ _ _ _ hz]
              clear hz
              go_wp2_with fail
              refine (lives_any _).mono ?_
              rintro e w9 ⟨rfl, hl9⟩
              have hB9 := HB5.out.trans (hl9.mono HB5.out.size)
              have HB9 := Lib.hid hB9
              clear hl9 hB9
              go_wp2_with fail
              go_ret
              exact ⟨rfl, HB9.out⟩
          · go_wp2_with fail
            refine (copen_end (L 0) (L 1) (L 2) (L 3) _ Hn.out (by have := Hs2.out; omega) (by omega)).mono ?_
            rintro e w5 ⟨rfl, rfl⟩
            go_wp2_with fail
            refine (lives_any _).mono ?_
            rintro e w9 ⟨rfl, hl9⟩
            have hB9 := HB2.out.trans (hl9.mono HB2.out.size)
            have HB9 := Lib.hid hB9
            clear hl9 hB9
            go_wp2_with fail
            go_ret
            exact ⟨rfl, HB9.out⟩
      · have ho2 : decide ((16 : Int) < (o.length : Int)) = true := by simp; omega
        clear ho
        go_wp2_with fail
        refine (lives_any _).mono ?_
        rintro e w9 ⟨rfl, hl9⟩
        have hB9 := HB1.out.trans (hl9.mono HB1.out.size)
        have HB9 := Lib.hid hB9
        clear hl9 hB9
        go_wp2_with fail
        go_ret
        exact ⟨rfl, HB9.out⟩
    · have hn2 : (((L 1).length : Int) == 12) = false := by rw [beq_eq_false_iff_ne]; omega
      have hn3 : ¬ ((L 1).length : Int) = 12 := by omega
      clear hn
      go_wp2_with fail
      refine (lives_any _).mono ?_
      rintro e w9 ⟨rfl, hl9⟩
      have hB9 := HB1.out.trans (hl9.mono HB1.out.size)
      have HB9 := Lib.hid hB9
      clear hl9 hB9
      go_wp2_with fail
      go_ret
      exact ⟨rfl, HB9.out⟩
  · have hsd : shortB L = false := by
      rw [Bool.eq_false_iff]
      exact fun h => hs ((shortB_iff L).1 h)
    rw [hsd]
    clear hs hsd
    go_wp2_with fail
    refine (lives_any _).mono ?_
    rintro e w9 ⟨rfl, hl9⟩
    have hB9 := HB1.out.trans (hl9.mono HB1.out.size)
    have HB9 := Lib.hid hB9
    clear hl9 hB9
    go_wp2_with fail
    go_ret
    exact ⟨rfl, HB9.out⟩

end Go.Proofs.Ytgkhdpplmdkkaaa
