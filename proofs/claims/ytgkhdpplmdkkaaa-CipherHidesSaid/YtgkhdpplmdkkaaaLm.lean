/- The walk of the law CipherStreams. -/
import Derived.Test.YtgkhdpplmdkkaaaLs
import Derived.Lib.SlBytesConst
namespace Go.Proofs.Ytgkhdpplmdkkaaa
open Go.RowKit Go.Lib

set_option maxRecDepth 100000 in
set_option maxHeartbeats 2000000 in
theorem lright_any (key nonce : List UInt8) (w : World) :
    Calls Try.prog 29 #[.string ⟨key.toArray⟩, .string ⟨nonce.toArray⟩] w fun e w' => e = .returned (.bool (decide (key.length = 32 ∧ nonce.length = 12))) ∧ w' = w := by
  by_cases hk : key.length = 32
  · have hk2 : ((key.length : Int) == 32) = true := by simp; omega
    by_cases hn : nonce.length = 12
    · have hn2 : ((nonce.length : Int) == 12) = true := by simp; omega
      have Hk := Lib.hid hk
      have Hn := Lib.hid hn
      clear hk hn
      go_enter Try.func29, Try.ntmps29
      go_wp2_with fail
      go_ret
      exact ⟨ret_bool (by rw [Hk.out, Hn.out]; rfl), rfl⟩
    · have hn2 : ((nonce.length : Int) == 12) = false := by rw [beq_eq_false_iff_ne]; omega
      have Hk := Lib.hid hk
      have Hn := Lib.hid hn
      clear hk hn
      go_enter Try.func29, Try.ntmps29
      go_wp2_with fail
      go_ret
      exact ⟨ret_bool (by have := Hn.out; simp [this]), rfl⟩
  · have hk2 : ((key.length : Int) == 32) = false := by rw [beq_eq_false_iff_ne]; omega
    have Hk := Lib.hid hk
    clear hk
    go_enter Try.func29, Try.ntmps29
    go_wp2_with fail
    go_ret
    exact ⟨ret_bool (by have := Hk.out; simp [this]), rfl⟩

/-- a slice that reads as bytes -/
def RowB (w : World) (v : Value) (l : List UInt8) : Prop :=
  ∃ A c, v = .slice A l.length c ∧ (0 < l.length → ∃ bb ob, A = some ⟨bb, ob, none⟩ ∧ l.length ≤ c ∧ bb < w.heap.size ∧ ∀ j, j < l.length → w.cell? ⟨bb, ob + j, none⟩ = some (.int .u8 (I8 (gt l j))))
theorem RowB.below {w w' : World} {v : Value} {l : List UInt8} (h : RowB w v l) {B : Nat} (hb : Below B w w') (hB : w.heap.size ≤ B) : RowB w' v l := by
  obtain ⟨A, c, hv, hr⟩ := h
  refine ⟨A, c, hv, fun h0 => ?_⟩
  obtain ⟨bb, ob, hA, hc, hlt, hcell⟩ := hr h0
  exact ⟨bb, ob, hA, hc, Nat.lt_of_lt_of_le hlt hb.size, fun j hj => (hb.cell (p := ⟨bb, ob + j, none⟩) (by show bb < B; omega)).trans (hcell j hj)⟩
set_option maxRecDepth 100000 in
theorem RowB.string {w : World} {v : Value} {l : List UInt8} (h : RowB w v l) : (convert 27 9 v).run Try.prog w = .ok (.string ⟨l.toArray⟩) w := by
  obtain ⟨A, cap, rfl, hr⟩ := h
  cases A with
  | none =>
    by_cases h0 : 0 < l.length
    · obtain ⟨bb, ob, hA, _⟩ := hr h0
      cases hA
    · have : l = [] := List.eq_nil_of_length_eq_zero (by omega)
      subst this
      exact run_convert_nil_bytes w _ _ 5 _ (by kernel_rfl) (by kernel_rfl) (by kernel_rfl)
  | some a =>
    refine run_convert_bytes_back w _ _ 5 a cap l (by kernel_rfl) (by kernel_rfl) (by kernel_rfl) fun j hj => ?_
    obtain ⟨bb, ob, hA, _, _, hcell⟩ := hr (by omega)
    injection hA with hA
    subst hA
    have := hcell j hj
    have hadd : (⟨bb, ob, none⟩ : Addr).add j = ⟨bb, ob + j, none⟩ := by unfold Addr.add; split <;> simp_all
    rw [hadd, this]
    unfold gt
    rw [List.getD_eq_getElem?_getD, List.getElem?_eq_getElem hj]
    rfl

/-- a slice of slices of bytes -/
def RowBs (w : World) (A : Option Addr) (n : Nat) (Ls : Nat → List UInt8) : Prop :=
  0 < n → ∃ a off, A = some ⟨a, off, none⟩ ∧ a < w.heap.size ∧ ∀ i, i < n → ∃ v, w.cell? ⟨a, off + i, none⟩ = some v ∧ RowB w v (Ls i)
/-- the first i of them, put together -/
def cat (Ls : Nat → List UInt8) : Nat → List UInt8
  | 0 => []
  | i + 1 => cat Ls i ++ Ls i

theorem hidA_app (S : Nat → UInt32) (T x : List UInt8) : hidA S 0 (T ++ x) = hidA S 0 T ++ hidA S T.length x := by
  apply List.ext_getElem (by rw [List.length_append, hidA_length, hidA_length, hidA_length, List.length_append])
  intro j h1 h2
  rw [hidA_length, List.length_append] at h1
  by_cases hj : j < T.length
  · rw [List.getElem_append_left (by rw [hidA_length]; exact hj)]
    show ((List.range (T ++ x).length).map fun j => gt (T ++ x) j ^^^ ks S (0 + j))[j]'(by rw [List.length_map, List.length_range, List.length_append]; exact h1) = ((List.range T.length).map fun j => gt T j ^^^ ks S (0 + j))[j]'(by rw [List.length_map, List.length_range]; exact hj)
    rw [List.getElem_map, List.getElem_range, List.getElem_map, List.getElem_range]
    unfold gt
    rw [List.getD_eq_getElem?_getD, List.getD_eq_getElem?_getD, List.getElem?_append_left hj]
  · rw [List.getElem_append_right (by rw [hidA_length]; omega)]
    show ((List.range (T ++ x).length).map fun j => gt (T ++ x) j ^^^ ks S (0 + j))[j]'(by rw [List.length_map, List.length_range, List.length_append]; exact h1) = ((List.range x.length).map fun j => gt x j ^^^ ks S (T.length + j))[j - (hidA S 0 T).length]'(by rw [List.length_map, List.length_range, hidA_length]; omega)
    rw [List.getElem_map, List.getElem_range, List.getElem_map, List.getElem_range]
    have e : T.length + (j - (hidA S 0 T).length) = 0 + j := by rw [hidA_length]; omega
    rw [e]
    unfold gt
    rw [List.getD_eq_getElem?_getD, List.getD_eq_getElem?_getD, List.getElem?_append_right (show T.length ≤ j by omega), hidA_length]

set_option maxRecDepth 100000 in
set_option maxHeartbeats 8000000 in
theorem streams_walk (key nonce : List UInt8) (A : Option Addr) (n c : Nat) (Ls : Nat → List UInt8) (w : World) (hr : RowBs w A n Ls) (hn : n ≤ maxLen) : Calls Try.prog 8 #[.string ⟨key.toArray⟩, .string ⟨nonce.toArray⟩, .slice A n c] w fun e w' => e = .returned (.bool true) ∧ Below w.heap.size w w' := by
  have Hr := Lib.hid hr
  have Hnm := Lib.hid hn
  clear hr hn
  by_cases hk : key.length ≤ 1000
  · have hk2 : decide ((1000 : Int) < (key.length : Int)) = false := by simp; omega
    by_cases hn : nonce.length ≤ 1000
    · have hn2 : decide ((1000 : Int) < (nonce.length : Int)) = false := by simp; omega
      clear hk hn
      by_cases hok : key.length = 32 ∧ nonce.length = 12
      · have hd : decide (key.length = 32 ∧ nonce.length = 12) = true := by simp only [decide_eq_true_iff]; exact hok
        have Hok := Lib.hid hok
        clear hok
        go_enter Try.func8, Try.ntmps8
        go_wp2_with fail
        refine (new_any key nonce _ Hok.out.1 Hok.out.2).mono ?_
        rintro e w1 ⟨g, rfl, hst, hl1, hg⟩
        have Hst := Lib.hid hst
        have Hl1 := Lib.hid hl1
        clear hst hl1
        go_wp2_with fail
        refine (lright_any key nonce _).mono ?_
        rintro e w1' ⟨rfl, rfl⟩
        rw [hd]
        obtain ⟨S, hS⟩ : ∃ S, S = begP key nonce := ⟨_, rfl⟩
        rw [← hS] at Hst
        have HS := Lib.hid hS
        clear hS
        go_wp2_with fail
        go_loopw [9, 10, 11] (fun t h iv wr => ∃ (i : Nat) (T : List UInt8) (A1 : Option Addr) (c1 : Nat), iv = .int .i64 i ∧ i ≤ n ∧ i ≤ 20 ∧ t = .string ⟨T.toArray⟩ ∧ h = .string ⟨(hidA S 0 T).toArray⟩ ∧ T.length ≤ 300 * i ∧ Strm wr g S T.length A1 c1 ∧ Below w.heap.size w wr) (fun _ _ i _ => 20 - (intOf i).toNat)
        case atStart => exact ⟨0, [], none, 0, rfl, by omega, by omega, rfl, rfl, by simp, Hst.out, Hl1.out⟩
        case round =>
          obtain ⟨i, T, A1, c1, rfl, hin, hi20, rfl, rfl, hT, hst, hl⟩ := hrel
          have Hst2 := Lib.hid hst
          have Hl := Lib.hid hl
          have HT := Lib.hid hT
          clear hst hl hT
          by_cases hlt : i < n ∧ i < 20
          · obtain ⟨h1, h2⟩ := hlt
            have hd1 : decide ((i : Int) < (n : Int)) = true := by simp; omega
            have hd2 : decide ((i : Int) < 20) = true := by simp; omega
            obtain ⟨a, off, hA, ha, hcells⟩ := Hr.out (by omega)
            subst hA
            obtain ⟨v, hv, hrow⟩ := hcells i h1
            have cv := (Hl.out.cell (p := ⟨a, off + i, none⟩) ha).trans hv
            have hrow2 := hrow.below Hl.out (Nat.le_refl _)
            have hs1 := hrow2.string
            obtain ⟨Ai, ci, hvv, hAi⟩ := hrow2
            have Hv := Lib.hid hvv
            have Hcv := Lib.hid hv
            rw [hvv] at hs1 cv
            clear hvv
            obtain ⟨X, hX⟩ : ∃ X, X = Ls i := ⟨_, rfl⟩
            rw [← hX] at hs1 cv hAi
            have hi' : (i : Int) < (n : Int) := by omega
            have HX := Lib.hid hX
            have HAi := Lib.hid hAi
            have Hrow := Lib.hid hrow
            clear hX hAi hv hcells hrow
            by_cases h300 : X.length ≤ 300
            · have hx3 : decide ((300 : Int) < (X.length : Int)) = false := by simp; omega
              go_wp2_with fail
              have hbb : ∃ bb ob, (∀ j, j < X.length → wr.cell? ⟨bb, ob + j, none⟩ = some (.int .u8 (I8 (gt X j)))) ∧ (0 < X.length → Ai = some ⟨bb, ob, none⟩ ∧ X.length ≤ ci ∧ bb ≠ g) := by
                by_cases h0 : 0 < X.length
                · obtain ⟨A', c', hv', hr'⟩ := Hrow.out
                  have hX0 : (Ls i).length = X.length := by rw [HX.out]
                  obtain ⟨bb, ob, hA', hc', hlt', hcell'⟩ := HAi.out h0
                  obtain ⟨bb2, ob2, hA2, _, hlt2, _⟩ := hr' (by omega)
                  have hAA : A' = Ai := by
                    have := Hv.out
                    rw [hv'] at this
                    injection this
                  rw [hAA, hA'] at hA2
                  injection hA2 with hA2
                  injection hA2 with e1 e2
                  refine ⟨bb, ob, hcell', fun _ => ⟨hA', hc', ?_⟩⟩
                  rw [e1]
                  omega
                · exact ⟨0, 0, fun j hj => absurd hj (by omega), fun h => absurd h h0⟩
              obtain ⟨bb, ob, hbb1, hbb2⟩ := hbb
              refine (next_any g S T.length A1 c1 X Ai bb ob ci wr Hst2.out hbb1 hbb2 (by omega)).mono ?_
              rintro e w4 ⟨go, A2, c2, rfl, ho4, hgo, hst4, hon4⟩
              have hs4 := ho4.string
              have hl4 : Below w.heap.size w w4 := Hl.out.trans (hon4.below hg Hl.out.size)
              have hTX : (T ++ X).length = T.length + X.length := List.length_append
              have ha1 := str_add (hidA S 0 T) (hidA S T.length X) (by rw [hidA_length, hidA_length]; have := HT.out; omega)
              rw [← hidA_app] at ha1
              have ha2 := str_add T X (by have := HT.out; omega)
              have cv4 := (hl4.cell (p := ⟨a, off + i, none⟩) ha).trans Hcv.out
              rw [Hv.out, ← HX.out] at cv4
              have hrow4 := Hrow.out.below hl4 (Nat.le_refl _)
              have hs5 := hrow4.string
              rw [Hv.out, ← HX.out] at hs5
              rw [← hTX] at hst4
              have Hst4 := Lib.hid hst4
              have Hl4 := Lib.hid hl4
              have HTX := Lib.hid hTX
              obtain ⟨TX, hTXn⟩ : ∃ TX, TX = T ++ X := ⟨_, rfl⟩
              rw [← hTXn] at ha1 ha2 Hst4 HTX
              have HTXn := Lib.hid hTXn
              clear hTXn
              clear ho4 hst4 hon4 hl4 hTX hrow4 hbb1 hbb2
              go_wp2_with fail
              go_roundw
              case rel => exact ⟨i + 1, TX, A2, c2, by go_num, by omega, by omega, rfl, rfl, by have := HT.out; have := HTX.out; omega, Hst4.out, Hl4.out⟩
              case measure => simp [intOf]; omega
            · have hx3 : decide ((300 : Int) < (X.length : Int)) = true := by simp; omega
              go_wp2_with fail
              refine (lives_any _).mono ?_
              rintro e w9 ⟨rfl, hl9⟩
              have hB9 := Hl.out.trans (hl9.mono Hl.out.size)
              have HB9 := Lib.hid hB9
              clear hl9 hB9
              go_wp2_with fail
              go_ret
              exact ⟨rfl, HB9.out⟩
          · have hT6 : T.length ≤ 6000 := by have := HT.out; omega
            have hend : (decide ((i : Int) < (n : Int)) = false ∧ ¬ i < n) ∨ (decide ((i : Int) < (n : Int)) = true ∧ decide ((i : Int) < 20) = false ∧ i < n ∧ ¬ i < 20) := by
              by_cases h1 : i < n
              · exact .inr ⟨by simp; omega, by simp; omega, h1, by omega⟩
              · exact .inl ⟨by simp; omega, h1⟩
            have hhid : hidA S 0 T = hid key nonce T := by rw [HS.out]; rfl
            have Hhid := Lib.hid hhid
            clear hhid hlt
            rcases hend with ⟨h1, g1⟩ | ⟨h1, h2, g1, g2⟩
            · go_wp2_with fail
              refine (hide_any key nonce T _ Hok.out.1 Hok.out.2 (by omega)).mono ?_
              rintro e w4 ⟨rfl, hl4⟩
              rw [← Hhid.out]
              have hB4 := Hl.out.trans (hl4.mono Hl.out.size)
              have HB4 := Lib.hid hB4
              clear hl4 hB4
              go_wp2_with fail
              refine (lives_any _).mono ?_
              rintro e w9 ⟨rfl, hl9⟩
              have hB9 := HB4.out.trans (hl9.mono HB4.out.size)
              have HB9 := Lib.hid hB9
              clear hl9 hB9
              go_wp2_with fail
              go_ret
              exact ⟨rfl, HB9.out⟩
            · go_wp2_with fail
              refine (hide_any key nonce T _ Hok.out.1 Hok.out.2 (by omega)).mono ?_
              rintro e w4 ⟨rfl, hl4⟩
              rw [← Hhid.out]
              have hB4 := Hl.out.trans (hl4.mono Hl.out.size)
              have HB4 := Lib.hid hB4
              clear hl4 hB4
              go_wp2_with fail
              refine (lives_any _).mono ?_
              rintro e w9 ⟨rfl, hl9⟩
              have hB9 := HB4.out.trans (hl9.mono HB4.out.size)
              have HB9 := Lib.hid hB9
              clear hl9 hB9
              go_wp2_with fail
              go_ret
              exact ⟨rfl, HB9.out⟩
      · have hd : decide (key.length = 32 ∧ nonce.length = 12) = false := by simp only [decide_eq_false_iff_not]; exact hok
        have Hok := Lib.hid hok
        have hcs := fun (W : World) (C : Array Value) (n c : Nat) => Lib.run_convert_bytes_const (P := Try.prog) W 27 5 C n c Try.underlying27 Try.underlying5
        clear hok
        go_enter Try.func8, Try.ntmps8
        go_wp2_with fail
        refine (new_bad key nonce _ Hok.out).mono ?_
        rintro e w1 ⟨rfl, rfl⟩
        go_wp2_with fail
        refine (lright_any key nonce _).mono ?_
        rintro e w1' ⟨rfl, rfl⟩
        rw [hd]
        go_wp2_with fail
        refine (next_nil _ _).mono ?_
        rintro e w2 ⟨rfl, rfl⟩
        go_wp2_with fail
        refine (lives_any _).mono ?_
        rintro e w9 ⟨rfl, hl9⟩
        have hB9 := ((Below.refl w1'.heap.size w1').alloc (Nat.le_refl _) (.cells #[.int .u8 97] 5 (1, 2))).trans (hl9.mono (by simp))
        have HB9 := Lib.hid hB9
        clear hl9 hB9
        go_wp2_with fail
        go_ret
        exact ⟨rfl, HB9.out⟩
    · have hn2 : decide ((1000 : Int) < (nonce.length : Int)) = true := by simp; omega
      clear hk hn
      go_enter Try.func8, Try.ntmps8
      go_wp2_with fail
      refine (lives_any _).mono ?_
      rintro e w9 ⟨rfl, hl9⟩
      have HB9 := Lib.hid hl9
      clear hl9
      go_wp2_with fail
      go_ret
      exact ⟨rfl, HB9.out⟩
  · have hk2 : decide ((1000 : Int) < (key.length : Int)) = true := by simp; omega
    clear hk
    go_enter Try.func8, Try.ntmps8
    go_wp2_with fail
    refine (lives_any _).mono ?_
    rintro e w9 ⟨rfl, hl9⟩
    have HB9 := Lib.hid hl9
    clear hl9
    go_wp2_with fail
    go_ret
    exact ⟨rfl, HB9.out⟩
end Go.Proofs.Ytgkhdpplmdkkaaa
