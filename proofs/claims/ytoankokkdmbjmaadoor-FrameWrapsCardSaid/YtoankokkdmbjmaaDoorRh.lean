/- The walk of the reference's Hide. -/
import Derived.Test.YtoankokkdmbjmaaDoorRb
import Derived.Test.YtoankokkdmbjmaaDoorHi
namespace Go.Proofs.YtoankokkdmbjmaaDoor
open Go.RowKit Go.Lib

def outH (X : Nat → UInt8) (i : Nat) : List UInt8 := (List.range i).map X
theorem outH_succ (X : Nat → UInt8) (i : Nat) : outH X (i + 1) = outH X i ++ [X i] := by
  unfold outH; rw [List.range_succ, List.map_append]; rfl
theorem outH_length (X : Nat → UInt8) (i : Nat) : (outH X i).length = i := by simp [outH]

@[go_sem] theorem run_str1d {P : Program} (w : World) (src dst e : TypeId) (a : Int) (c g : Nat) (fr : Nat × Nat) (hg : g = w.heap.size) (hs : P.underlying src = some (.slice e)) (he : P.underlying e = some (.int .u8)) (hd : P.underlying dst = some .string) :
    (convert src dst (.slice (some ⟨g, 0, none⟩) 1 c)).run P (w.alloc (.cells #[.int .u8 a] e fr)).drew = .ok (.string ⟨#[UInt8.ofNat a.toNat]⟩) (w.alloc (.cells #[.int .u8 a] e fr)).drew := by
  subst hg
  rw [run_convert_bytes_arg (P := P) _ src e hs he w.heap.size 0 1 c [a] rfl (fun i hi => by
    have : i = 0 := by omega
    subst this
    have h := World.cell?_alloc_mark w #[.int .u8 a] e fr 0
    simpa using h) dst hd]
  rfl

set_option maxRecDepth 100000 in
set_option maxHeartbeats 2000000 in
theorem rhide_any (key nonce text : List UInt8) (w : World) (hk : key.length = 32) (hn : nonce.length = 12) (ht : text.length ≤ 65536) :
    Calls Tryd.prog 94 #[.string ⟨key.toArray⟩, .string ⟨nonce.toArray⟩, .string ⟨text.toArray⟩] w fun e w' => e = .returned (.string ⟨(hid key nonce text).toArray⟩) ∧ Below w.heap.size w w' := by
  obtain ⟨S, hS⟩ : ∃ S, S = begP key nonce := ⟨_, rfl⟩
  obtain ⟨X, hX⟩ : ∃ X, X = fun j => gt text j ^^^ ks S (0 + j) := ⟨_, rfl⟩
  obtain ⟨n, hln⟩ : ∃ n, n = text.length := ⟨_, rfl⟩
  have HS := Lib.hid hS
  have HX := Lib.hid hX
  have Hln := Lib.hid hln
  have Hk := Lib.hid hk
  have Hn := Lib.hid hn
  rw [← hln] at ht
  have hni : (text.length : Int) = (n : Int) := by omega
  have Hni := Lib.hid hni
  clear hS hX hln hk hn hni
  go_enter Tryd.func94, Tryd.ntmps94
  go_wp2_with fail
  go_loopw [7, 8, 9] (fun o s iv wr => ∃ (i : Nat) (st : List UInt8), iv = .int .i64 i ∧ i ≤ n ∧ o = .string ⟨(outH X i).toArray⟩ ∧ s = .string ⟨st.toArray⟩ ∧ (i % 64 ≠ 0 → st = blkP S (UInt32.ofNat (i / 64 + 1))) ∧ Below w.heap.size w wr) (fun _ _ i _ => n - (intOf i).toNat)
  case atStart => exact ⟨0, [], rfl, by omega, rfl, rfl, fun h => absurd rfl h, Below.refl _ _⟩
  case round =>
    obtain ⟨i, st, rfl, hi, rfl, rfl, hst, hB⟩ := hrel
    have hni := Hni.out
    have Hst := Lib.hid hst
    have HB := Lib.hid hB
    clear hst hB
    obtain ⟨O, hO⟩ : ∃ O, O = outH X i := ⟨_, rfl⟩
    rw [← hO]
    have HO := Lib.hid hO
    clear hO
    by_cases hin : i < n
    · have hd : decide ((i : Int) < (n : Int)) = true := by simp; omega
      have hi' : (i : Int) < (n : Int) := by omega
      by_cases h0 : i % 64 = 0
      · have hm0 : (i : Int) % 64 = 0 := by omega
        have H0 := Lib.hid h0
        clear h0
        go_wp2_with fail
        have hq : (i : Int) / 64 + 1 = I32 (UInt32.ofNat (i / 64 + 1)) := by rw [I32_ofNat (by omega)]; omega
        have hc := rblock_any key nonce (UInt32.ofNat (i / 64 + 1)) wr Hk.out Hn.out
        rw [← hq, ← HS.out] at hc
        refine hc.mono ?_
        rintro e w2 ⟨rfl, hl2⟩
        obtain ⟨B, hBl⟩ : ∃ B, B = blkP S (UInt32.ofNat (i / 64 + 1)) := ⟨_, rfl⟩
        rw [← hBl]
        have hBlen : (B.length : Int) = 64 := by rw [hBl, blkP_length]; rfl
        have hB2 := HB.out.trans (hl2.mono HB.out.size)
        have HB2 := Lib.hid hB2
        have HBl := Lib.hid hBl
        clear hc hq hl2 hB2 hBl hm0
        go_wp2_with fail
        obtain ⟨x, hx⟩ : ∃ x, x = gb text i ^^^ gb B (i % 64) := ⟨_, rfl⟩
        have hxor := u8_bits_xor (gb text i) (gb B (i % 64))
        rw [← hx] at hxor
        have hxX : x = X i := by rw [hx, HX.out]; show _ = gt text i ^^^ ks S (0 + i); rw [Nat.zero_add]; unfold ks; rw [← HBl.out]; rfl
        have hb := I8_back x
        have q1 : (i : Int) % 64 < 64 := by omega
        have q2 : (0 : Int) ≤ (i : Int) % 64 := by omega
        have q3 : ((i : Int) % 64).toNat = i % 64 := by omega
        obtain ⟨ON, hON⟩ : ∃ ON, ON = O ++ [x] := ⟨_, rfl⟩
        have ha : ∀ W, (Op.stringOp .add ⟨O.toArray⟩ ⟨#[x]⟩).run Tryd.prog W = .ok (.string ⟨ON.toArray⟩) W := fun W => by
          rw [hON]; exact str_add O [x] (by rw [HO.out, outH_length]; simp; omega) W
        have hE : ON = outH X (i + 1) := by rw [hON, HO.out, outH_succ, hxX]
        have HE := Lib.hid hE
        clear hx hON hE hxX
        go_region
        all_goals
          refine abs_q ?_
          intro w5 hw5
          have hB5 : Below w.heap.size w w5 := by rw [hw5]; exact below_drewN' (HB2.out.alloc HB2.out.size _) 1
          have HB5 := Lib.hid hB5
          clear hw5 hB5
          go_wp2_with fail
          refine ⟨⟨i + 1, B, by go_num, by omega, by rw [HE.out], rfl, fun h9 => ?_, HB5.out⟩, by simp [intOf]; omega⟩
          rw [HBl.out, show (i + 1) / 64 = i / 64 by omega]
      · have hm0 : ((i : Int) % 64 == 0) = false := by rw [beq_eq_false_iff_ne]; omega
        have hbl := Hst.out h0
        have hBlen : (st.length : Int) = 64 := by rw [hbl, blkP_length]; rfl
        have HBl := Lib.hid hbl
        clear hbl
        go_wp2_with fail
        obtain ⟨x, hx⟩ : ∃ x, x = gb text i ^^^ gb st (i % 64) := ⟨_, rfl⟩
        have hxor := u8_bits_xor (gb text i) (gb st (i % 64))
        rw [← hx] at hxor
        have hxX : x = X i := by rw [hx, HX.out]; show _ = gt text i ^^^ ks S (0 + i); rw [Nat.zero_add]; unfold ks; rw [← HBl.out]; rfl
        have hb := I8_back x
        have q1 : (i : Int) % 64 < 64 := by omega
        have q2 : (0 : Int) ≤ (i : Int) % 64 := by omega
        have q3 : ((i : Int) % 64).toNat = i % 64 := by omega
        obtain ⟨ON, hON⟩ : ∃ ON, ON = O ++ [x] := ⟨_, rfl⟩
        have ha : ∀ W, (Op.stringOp .add ⟨O.toArray⟩ ⟨#[x]⟩).run Tryd.prog W = .ok (.string ⟨ON.toArray⟩) W := fun W => by
          rw [hON]; exact str_add O [x] (by rw [HO.out, outH_length]; simp; omega) W
        have hE : ON = outH X (i + 1) := by rw [hON, HO.out, outH_succ, hxX]
        have HE := Lib.hid hE
        clear hx hON hE hxX
        go_region
        all_goals
          refine abs_q ?_
          intro w5 hw5
          have hB5 : Below w.heap.size w w5 := by rw [hw5]; exact below_drewN' (HB.out.alloc HB.out.size _) 1
          have HB5 := Lib.hid hB5
          clear hw5 hB5
          go_wp2_with fail
          refine ⟨⟨i + 1, st, by go_num, by omega, by rw [HE.out], rfl, fun h9 => ?_, HB5.out⟩, by simp [intOf]; omega⟩
          rw [HBl.out, show (i + 1) / 64 = i / 64 by omega]
    · have hd : decide ((i : Int) < (n : Int)) = false := by simp; omega
      have hin2 : i = n := by omega
      have hF : hid key nonce text = O := by rw [HO.out, hin2, Hln.out, HX.out, HS.out]; rfl
      have HF := Lib.hid hF
      clear hF hin2
      go_wp2_with fail
      go_ret
      exact ⟨by rw [HF.out]; rfl, HB.out⟩
end Go.Proofs.YtoankokkdmbjmaaDoor
