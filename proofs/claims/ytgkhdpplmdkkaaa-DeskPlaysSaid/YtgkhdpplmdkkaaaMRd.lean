/- The contracts of the reference: its padding. -/
import Derived.Test.YtgkhdpplmdkkaaaMb
namespace Go.Proofs.Ytgkhdpplmdkkaaa
open Go.RowKit Go.Lib

/-- the last j of a number's bytes, the highest first -/
def revL (M : Nat) : Nat → List UInt8
  | 0 => []
  | j + 1 => UInt8.ofNat (M / 256 ^ j) :: revL M j
theorem revL_length (M j : Nat) : (revL M j).length = j := by
  induction j with
  | zero => rfl
  | succ j ih => simp [revL, ih]
theorem revL_8 (M : Nat) : revL M 8 = be8 M 8 := rfl
theorem u8_mod' (m : Nat) : UInt8.ofNat (m % 256) = UInt8.ofNat m := by
  apply UInt8.toNat_inj.1
  rw [UInt8.toNat_ofNat', UInt8.toNat_ofNat']
  omega

set_option maxRecDepth 100000 in
set_option maxHeartbeats 1000000 in
theorem rpad_any (n : Nat) (hn : n ≤ 1099511627776) (w : World) :
    Calls Try.prog 103 #[.int .i64 n] w fun e w' => e = .returned (.string ⟨(padL n).toArray⟩) ∧ Below w.heap.size w w' := by
  have hneg : ¬ (n : Int) < 0 := by omega
  go_enter Try.func103, Try.ntmps103
  go_wp2_with fail
  go_loopw [3] (fun s wr => ∃ (k : Nat) (S : List UInt8), s = .string ⟨S.toArray⟩ ∧ S = 128 :: List.replicate k 0 ∧ k ≤ zc n ∧ wr = w) (fun s _ => 200 - (match s with | .string b => b.size | _ => 0))
  case atStart => exact ⟨0, [128], rfl, rfl, by omega, rfl⟩
  case round =>
    obtain ⟨k, S, rfl, hS, hk, rfl⟩ := hrel
    have hz := zc_lt n
    have hSl : (S.length : Int) = 1 + (k : Int) := by rw [hS]; simp; omega
    have HS := Lib.hid hS
    clear hS
    by_cases hkz : k = zc n
    · have ht : (((n : Int) % 64 + (1 + (k : Int))) % 64 == 56) = true := by
        rw [beq_iff_eq]; unfold zc at hkz; omega
      have ht2 : ((n : Int) % 64 + (1 + (k : Int))) % 64 = 56 := by simpa using ht
      obtain ⟨M, hM⟩ : ∃ M, M = n * 8 := ⟨_, rfl⟩
      have hmul : IntKind.u64.wrap ((n : Int) * 8) = (M : Int) := by simp [IntKind.wrap, IntKind.bits, IntKind.signed]; omega
      have hw : IntKind.u64.wrap (n : Int) = (n : Int) := by simp [IntKind.wrap, IntKind.bits, IntKind.signed]; omega
      have hmul2 : (n : Int) * 8 = (M : Int) := by omega
      have HM := Lib.hid hM
      have Hkz := Lib.hid hkz
      clear hM hkz
      go_wp2_with fail
      have hMlt : M ≤ 8796093022208 := by have := HM.out; omega
      go_loopw [4, 5, 6] (fun m t iv w2 => ∃ j : Nat, iv = .int .i64 j ∧ j ≤ 8 ∧ t = .string ⟨(revL M j).toArray⟩ ∧ m = .int .u64 ((M / 256 ^ j : Nat) : Int) ∧ Below wr.heap.size wr w2) (fun _ _ i _ => 8 - (intOf i).toNat)
      case atStart => exact ⟨0, rfl, by omega, rfl, by simp, Below.refl _ _⟩
      case round =>
        obtain ⟨j, rfl, hj, rfl, rfl, hl⟩ := hrel
        obtain ⟨Q, hQ⟩ : ∃ Q, Q = M / 256 ^ j := ⟨_, rfl⟩
        have hQlt : Q ≤ 8796093022208 := by rw [hQ]; exact Nat.le_trans (Nat.div_le_self _ _) hMlt
        obtain ⟨T, hT⟩ : ∃ T, T = revL M j := ⟨_, rfl⟩
        rw [← hQ, ← hT]
        have HQ := Lib.hid hQ
        have HT := Lib.hid hT
        have Hl := Lib.hid hl
        clear hQ hT hl
        by_cases h8 : j < 8
        · have hd8 : decide ((j : Int) < 8) = true := by simp; omega
          obtain ⟨TN, hTN⟩ : ∃ TN, TN = [UInt8.ofNat (Q % 256)] ++ T := ⟨_, rfl⟩
          have ha : ∀ W, (Op.stringOp .add ⟨#[UInt8.ofNat (Q % 256)]⟩ ⟨T.toArray⟩).run Try.prog W = .ok (.string ⟨TN.toArray⟩) W := fun W => by
            rw [hTN]; exact str_add [UInt8.ofNat (Q % 256)] T (by rw [HT.out, revL_length]; simp; omega) W
          have hE : TN = revL M (j + 1) := by rw [hTN, u8_mod', HT.out, HQ.out]; rfl
          have HE := Lib.hid hE
          clear hTN hE
          go_wp2_with fail
          go_roundw
          case rel =>
            refine ⟨j + 1, by go_num, by omega, by rw [HE.out], ?_, Hl.out.alloc Hl.out.size _⟩
            rw [HQ.out, Nat.pow_succ, ← Nat.div_div_eq_div_mul]; rfl
          case measure => simp [intOf]; omega
        · have hd8 : decide ((j : Int) < 8) = false := by simp; omega
          have hj8 : j = 8 := by omega
          obtain ⟨P, hP⟩ : ∃ P, P = S ++ T := ⟨_, rfl⟩
          have ha : ∀ W, (Op.stringOp .add ⟨S.toArray⟩ ⟨T.toArray⟩).run Try.prog W = .ok (.string ⟨P.toArray⟩) W := fun W => by
            rw [hP]; exact str_add S T (by rw [HT.out, revL_length, HS.out]; simp; omega) W
          have hE : padL n = P := by rw [hP, HS.out, HT.out, hj8, revL_8, HM.out, Hkz.out]; rfl
          have HE := Lib.hid hE
          clear hP hE hj8
          go_wp2_with fail
          go_ret
          exact ⟨by rw [HE.out]; rfl, Hl.out⟩
    · have ht : (((n : Int) % 64 + (1 + (k : Int))) % 64 == 56) = false := by
        rw [beq_eq_false_iff_ne]; unfold zc at hkz hk; omega
      have ht2 : ¬ ((n : Int) % 64 + (1 + (k : Int))) % 64 = 56 := by simpa using ht
      obtain ⟨SN, hSN⟩ : ∃ SN, SN = S ++ [0] := ⟨_, rfl⟩
      have ha : ∀ W, (Op.stringOp .add ⟨S.toArray⟩ ⟨#[0]⟩).run Try.prog W = .ok (.string ⟨SN.toArray⟩) W := fun W => by
        rw [hSN]; exact str_add S [0] (by rw [HS.out]; simp; omega) W
      have hE : SN = 128 :: List.replicate (k + 1) 0 := by
        rw [hSN, HS.out, List.cons_append]
        congr 1
        rw [List.replicate_succ', List.append_left_inj] <;> rfl
      have HE := Lib.hid hE
      have Hkz := Lib.hid hkz
      clear hSN hE hkz
      go_wp2_with fail
      go_roundw
      case rel => exact ⟨k + 1, SN, rfl, HE.out, by have := Hkz.out; omega, by first | rfl | trivial⟩
      case measure =>
        have h1 : SN.length = k + 2 := by rw [HE.out]; simp
        have h2 : S.length = k + 1 := by rw [HS.out]; simp
        simp [size_mk, h1, h2]
        omega
end Go.Proofs.Ytgkhdpplmdkkaaa
