/- The walks of cipher's Seal and Open. -/
import Derived.Test.YtoankokkdmbjmaaDoorTag
namespace Go.Proofs.YtoankokkdmbjmaaDoor
open Go.RowKit Go.Lib

def sealP (secret nonce lab text : List UInt8) : List UInt8 := hid (key1 secret) nonce text ++ tagP (key2 secret) nonce lab (hid (key1 secret) nonce text)
theorem sealP_length (secret nonce lab text : List UInt8) : (sealP secret nonce lab text).length = text.length + 16 := by simp [sealP, hid_length, tagP_length]

set_option maxRecDepth 100000 in
set_option maxHeartbeats 2000000 in
theorem cseal_bad (secret nonce lab text : List UInt8) (w : World) (hn : nonce.length ≠ 12) :
    Calls Tryd.prog 60 #[.string ⟨secret.toArray⟩, .string ⟨nonce.toArray⟩, .string ⟨lab.toArray⟩, .string ⟨text.toArray⟩] w fun e w' => e = .returned (.tuple #[.string ⟨#[]⟩, .int .i64 1]) ∧ w' = w := by
  have hn2 : ((nonce.length : Int) == 12) = false := by rw [beq_eq_false_iff_ne]; omega
  have hn3 : ¬ (nonce.length : Int) = 12 := by omega
  clear hn
  go_enter Tryd.func60, Tryd.ntmps60
  go_wp2_with fail
  go_ret2
  exact ⟨rfl, rfl⟩

set_option maxRecDepth 100000 in
set_option maxHeartbeats 2000000 in
theorem cseal_any (secret nonce lab text : List UInt8) (w : World) (hk : secret.length ≤ 1099511627776) (hn : nonce.length = 12) (hl : lab.length ≤ 65536) (ht : text.length ≤ 65536) :
    Calls Tryd.prog 60 #[.string ⟨secret.toArray⟩, .string ⟨nonce.toArray⟩, .string ⟨lab.toArray⟩, .string ⟨text.toArray⟩] w fun e w' => e = .returned (.tuple #[.string ⟨(sealP secret nonce lab text).toArray⟩, .int .i64 0]) ∧ Below w.heap.size w w' := by
  have hn2 : ((nonce.length : Int) == 12) = true := by simp; omega
  have hl2 : decide ((65536 : Int) < (lab.length : Int)) = false := by simp; omega
  have ht2 : decide ((65536 : Int) < (text.length : Int)) = false := by simp; omega
  have Hn := Lib.hid hn
  have Hl := Lib.hid hl
  have Ht := Lib.hid ht
  clear hn hl ht
  go_enter Tryd.func60, Tryd.ntmps60
  go_wp2_with fail
  refine (keys_any secret _ hk).mono ?_
  rintro e w1 ⟨rfl, hl1⟩
  have Hl1 := Lib.hid hl1
  clear hl1
  obtain ⟨K1, hK1⟩ : ∃ K, K = key1 secret := ⟨_, rfl⟩
  obtain ⟨K2, hK2⟩ : ∃ K, K = key2 secret := ⟨_, rfl⟩
  rw [← hK1, ← hK2]
  have HK1 := Lib.hid hK1
  have HK2 := Lib.hid hK2
  clear hK1 hK2
  go_wp2_with fail
  refine (hide_any K1 nonce text _ (by rw [HK1.out, key1_length]) Hn.out Ht.out).mono ?_
  rintro e w2 ⟨rfl, hl2'⟩
  obtain ⟨H, hH⟩ : ∃ H, H = hid K1 nonce text := ⟨_, rfl⟩
  rw [← hH]
  have hB2 := Hl1.out.trans (hl2'.mono Hl1.out.size)
  have HH := Lib.hid hH
  have HB2 := Lib.hid hB2
  clear hH hl2' hB2
  go_wp2_with fail
  refine (tag_any K2 nonce lab H _ (by rw [HK2.out, key2_length]; omega) (by have := Hn.out; omega) (by have := Hl.out; omega) (by have := Ht.out; rw [HH.out, hid_length]; omega)).mono ?_
  rintro e w3 ⟨rfl, hl3⟩
  have hadd := str_add H (tagP K2 nonce lab H) (by have := Ht.out; rw [HH.out, hid_length, tagP_length]; omega)
  have hB3 := HB2.out.trans (hl3.mono HB2.out.size)
  have HB3 := Lib.hid hB3
  clear hl3 hB3
  go_wp2_with fail
  go_ret2
  refine ⟨?_, HB3.out⟩
  rw [sealP, ← HK1.out, ← HK2.out, ← HH.out]
  rfl

/-- what is gathered of the differences of the first i bytes -/
def orx (W T : List UInt8) : Nat → UInt8
  | 0 => 0
  | i + 1 => orx W T i ||| (gb W i ^^^ gb T i)
theorem u8_or_zero {a b : UInt8} : a ||| b = 0 ↔ a = 0 ∧ b = 0 := by
  constructor
  · intro h
    have h2 : (a ||| b).toNat = 0 := by rw [h]; rfl
    rw [UInt8.toNat_or] at h2
    have := Nat.or_eq_zero_iff.1 h2
    exact ⟨UInt8.toNat_inj.1 this.1, UInt8.toNat_inj.1 this.2⟩
  · rintro ⟨rfl, rfl⟩; rfl
theorem u8_xor_zero {a b : UInt8} : a ^^^ b = 0 ↔ a = b := UInt8.xor_eq_zero_iff
theorem orx_zero (W T : List UInt8) (n : Nat) : orx W T n = 0 ↔ ∀ j, j < n → gb W j = gb T j := by
  induction n with
  | zero => simp [orx]
  | succ n ih =>
    show orx W T n ||| _ = 0 ↔ _
    rw [u8_or_zero, ih, u8_xor_zero]
    constructor
    · rintro ⟨h1, h2⟩ j hj
      rcases Nat.lt_or_ge j n with h | h
      · exact h1 j h
      · obtain rfl : j = n := by omega
        exact h2
    · intro h
      exact ⟨fun j hj => h j (by omega), h n (by omega)⟩
theorem orx_eq {W T : List UInt8} (hW : W.length = 16) (hT : T.length = 16) : orx W T 16 = 0 ↔ W = T := by
  rw [orx_zero]
  constructor
  · intro h
    apply List.ext_getElem (by rw [hW, hT])
    intro j h1 h2
    have := h j (by omega)
    unfold gb at this
    rw [List.getD_eq_getElem?_getD, List.getD_eq_getElem?_getD, List.getElem?_eq_getElem h1, List.getElem?_eq_getElem h2] at this
    exact this
  · rintro rfl j _; rfl
theorem u8_bits_or (x y : UInt8) : bits .or .u8 (I8 x) (I8 y) = I8 (x ||| y) := by
  unfold I8; rw [u8_or_nat _ _ x.toNat_lt y.toNat_lt, UInt8.toNat_or]

set_option maxRecDepth 100000 in
set_option maxHeartbeats 2000000 in
theorem copen_nonce (secret nonce lab sl : List UInt8) (w : World) (hn : nonce.length ≠ 12) :
    Calls Tryd.prog 65 #[.string ⟨secret.toArray⟩, .string ⟨nonce.toArray⟩, .string ⟨lab.toArray⟩, .string ⟨sl.toArray⟩] w fun e w' => e = .returned (.tuple #[.string ⟨#[]⟩, .int .i64 1]) ∧ w' = w := by
  have hn2 : ((nonce.length : Int) == 12) = false := by rw [beq_eq_false_iff_ne]; omega
  have hn3 : ¬ (nonce.length : Int) = 12 := by omega
  clear hn
  go_enter Tryd.func65, Tryd.ntmps65
  go_wp2_with fail
  go_ret2
  exact ⟨rfl, rfl⟩

set_option maxRecDepth 100000 in
set_option maxHeartbeats 2000000 in
theorem copen_end (secret nonce lab sl : List UInt8) (w : World) (hn : nonce.length = 12) (hl : lab.length ≤ 65536) (hs : sl.length < 16) :
    Calls Tryd.prog 65 #[.string ⟨secret.toArray⟩, .string ⟨nonce.toArray⟩, .string ⟨lab.toArray⟩, .string ⟨sl.toArray⟩] w fun e w' => e = .returned (.tuple #[.string ⟨#[]⟩, .int .i64 3]) ∧ w' = w := by
  have hn2 : ((nonce.length : Int) == 12) = true := by simp; omega
  have hl2 : decide ((65536 : Int) < (lab.length : Int)) = false := by simp; omega
  have hs1 : decide ((65552 : Int) < (sl.length : Int)) = false := by simp; omega
  have hs2 : decide ((sl.length : Int) < 16) = true := by simp; omega
  clear hn hl
  go_enter Tryd.func65, Tryd.ntmps65
  go_wp2_with fail
  go_ret2
  exact ⟨rfl, rfl⟩

/-- what a sealed text is opened as, and the error's number -/
def openP (secret nonce lab sl : List UInt8) : List UInt8 × Int :=
  if tagP (key2 secret) nonce lab (sl.take (sl.length - 16)) = sl.drop (sl.length - 16) then (hid (key1 secret) nonce (sl.take (sl.length - 16)), 0) else ([], 4)

set_option maxRecDepth 100000 in
set_option maxHeartbeats 4000000 in
theorem copen_any (secret nonce lab sl : List UInt8) (w : World) (hk : secret.length ≤ 1099511627776) (hn : nonce.length = 12) (hl : lab.length ≤ 65536) (hs : 16 ≤ sl.length) (hs2 : sl.length ≤ 65552) :
    Calls Tryd.prog 65 #[.string ⟨secret.toArray⟩, .string ⟨nonce.toArray⟩, .string ⟨lab.toArray⟩, .string ⟨sl.toArray⟩] w fun e w' => e = .returned (.tuple #[.string ⟨(openP secret nonce lab sl).1.toArray⟩, .int .i64 (openP secret nonce lab sl).2]) ∧ Below w.heap.size w w' := by
  have hn2 : ((nonce.length : Int) == 12) = true := by simp; omega
  have hl2 : decide ((65536 : Int) < (lab.length : Int)) = false := by simp; omega
  have hd1 : decide ((65552 : Int) < (sl.length : Int)) = false := by simp; omega
  have hd2 : decide ((sl.length : Int) < 16) = false := by simp; omega
  obtain ⟨m, hm⟩ : ∃ m, m = sl.length - 16 := ⟨_, rfl⟩
  have hw : IntKind.i64.wrap ((sl.length : Int) - 16) = (m : Int) := by rw [IntKind.wrap_i64]; omega
  have hml : (m : Int) ≤ (sl.length : Int) := by omega
  have hml2 : m ≤ sl.length := by omega
  have Hn := Lib.hid hn
  have Hl := Lib.hid hl
  have Hs := Lib.hid hs
  have Hs2 := Lib.hid hs2
  have Hm := Lib.hid hm
  clear hn hl hs hs2 hm
  go_enter Tryd.func65, Tryd.ntmps65
  go_wp2_with fail
  refine (keys_any secret _ hk).mono ?_
  rintro e w1 ⟨rfl, hl1⟩
  have Hl1 := Lib.hid hl1
  clear hl1
  obtain ⟨K1, hK1⟩ : ∃ K, K = key1 secret := ⟨_, rfl⟩
  obtain ⟨K2, hK2⟩ : ∃ K, K = key2 secret := ⟨_, rfl⟩
  rw [← hK1, ← hK2]
  have HK1 := Lib.hid hK1
  have HK2 := Lib.hid hK2
  clear hK1 hK2
  go_wp2_with fail
  go_quiet (fail)
  rw [extract_mk, extract_mk]
  obtain ⟨H, hH⟩ : ∃ H, H = List.drop 0 (List.take m sl) := ⟨_, rfl⟩
  obtain ⟨T, hT⟩ : ∃ T, T = List.drop m (List.take sl.length sl) := ⟨_, rfl⟩
  rw [← hH, ← hT]
  have hH2 : H = sl.take (sl.length - 16) := by rw [hH, ← Hm.out]; rfl
  have hT2 : T = sl.drop (sl.length - 16) := by rw [hT, ← Hm.out, List.take_of_length_le (Nat.le_refl _)]
  have hHl : H.length ≤ 65536 := by rw [hH2, List.length_take]; have := Hs2.out; omega
  have hTl : T.length = 16 := by rw [hT2, List.length_drop]; have := Hs.out; omega
  have HH := Lib.hid hH2
  have HT := Lib.hid hT2
  have HHl := Lib.hid hHl
  clear hH hT hH2 hT2 hHl
  go_wp2_with fail
  refine (tag_any K2 nonce lab H _ (by rw [HK2.out, key2_length]; omega) (by have := Hn.out; omega) (by have := Hl.out; omega) (by have := HHl.out; omega)).mono ?_
  rintro e w3 ⟨rfl, hl3⟩
  obtain ⟨W, hW⟩ : ∃ W, W = tagP K2 nonce lab H := ⟨_, rfl⟩
  rw [← hW]
  have hWl : W.length = 16 := by rw [hW, tagP_length]
  have hB3 := (below_drewN' Hl1.out nq).trans (hl3.mono (below_drewN' Hl1.out nq).size)
  have HW := Lib.hid hW
  have HB3 := Lib.hid hB3
  clear hW hl3 hB3
  have hWi : (W.length : Int) = 16 := by omega
  have hTi : (T.length : Int) = 16 := by omega
  have HWl := Lib.hid hWl
  have HTl := Lib.hid hTl
  clear hWl hTl
  go_wp2_with fail
  go_loopw [15, 54] (fun d i wr => ∃ j : Nat, i = .int .i64 j ∧ j ≤ 16 ∧ d = .int .u8 (I8 (orx W T j)) ∧ ∃ k, wr = w3.drewN k) (fun _ i _ => 16 - (intOf i).toNat)
  case atStart => exact ⟨0, rfl, by omega, rfl, 0, rfl⟩
  case round =>
    obtain ⟨j, rfl, hj, rfl, k, rfl⟩ := hrel
    by_cases h16 : j < 16
    · have hd16 : decide ((j : Int) < 16) = true := by simp; omega
      have hjW : (j : Int) < (W.length : Int) := by omega
      have hjT : (j : Int) < (T.length : Int) := by omega
      have hx := u8_bits_xor (gb W j) (gb T j)
      have hor := u8_bits_or (orx W T j) (gb W j ^^^ gb T j)
      go_wp2_with fail
      go_quiet (fail)
      go_wp2_with fail
      go_roundw
      case rel => exact ⟨j + 1, by go_num, by omega, rfl, _, rfl⟩
      case measure => simp [intOf]; omega
    · have hd16 : decide ((j : Int) < 16) = false := by simp; omega
      have hj16 : j = 16 := by omega
      rw [hj16]
      have hcase := orx_eq HWl.out HTl.out
      obtain ⟨D, hD⟩ : ∃ D, D = orx W T 16 := ⟨_, rfl⟩
      rw [← hD] at hcase ⊢
      have Hj := Lib.hid hj16
      clear hD hj16
      by_cases hz : D = 0
      · have heq := hcase.1 hz
        have hO : openP secret nonce lab sl = (hid K1 nonce H, 0) := by
          unfold openP
          rw [← HH.out, ← HT.out, ← HK2.out, ← HK1.out, ← HW.out, if_pos heq]
        have HO := Lib.hid hO
        subst hz
        have hz2 : (I8 0 == 0) = true := by decide
        have hz3 : I8 0 = 0 := by decide
        clear hcase heq hO
        go_wp2_with fail
        refine (hide_any K1 nonce H _ (by rw [HK1.out, key1_length]) Hn.out HHl.out).mono ?_
        rintro e w4 ⟨rfl, hl4⟩
        have hB4 := (below_drewN' HB3.out k).trans (hl4.mono (below_drewN' HB3.out k).size)
        have HB4 := Lib.hid hB4
        clear hl4 hB4
        go_wp2_with fail
        go_ret2
        exact ⟨by rw [HO.out]; rfl, HB4.out⟩
      · have hne : ¬ W = T := fun h => hz (hcase.2 h)
        have hO : openP secret nonce lab sl = ([], 4) := by
          unfold openP
          rw [← HH.out, ← HT.out, ← HK2.out, ← HW.out, if_neg hne]
        have HO := Lib.hid hO
        have hz2 : (I8 D == 0) = false := by
          rw [beq_eq_false_iff_ne]; intro h
          exact hz (UInt8.toNat_inj.1 (by unfold I8 at h; have : D.toNat = 0 := by omega
                                          rw [this]; rfl))
        have hz3 : ¬ I8 D = 0 := by simpa using hz2
        clear hcase hne hO hz
        go_wp2_with fail
        go_ret2
        exact ⟨by rw [HO.out]; rfl, below_drewN' HB3.out k⟩
end Go.Proofs.YtoankokkdmbjmaaDoor
