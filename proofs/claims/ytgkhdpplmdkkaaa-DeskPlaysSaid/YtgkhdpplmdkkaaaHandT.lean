/- Joined: HandS, Hand. -/
import Derived.Test.YtgkhdpplmdkkaaaMb
import Derived.Test.YtgkhdpplmdkkaaaMR3
import Derived.Test.YtgkhdpplmdkkaaaMq
import Derived.Test.YtgkhdpplmdkkaaaMRq
import Derived.Test.YtgkhdpplmdkkaaaMd
/- The contracts of mac.Seal and of the reference's, in the form that printed texts use. -/
namespace Go.Proofs.Ytgkhdpplmdkkaaa
open Go.RowKit

theorem u64_in0 {n : Int} (h : 0 ≤ n ∧ n < 18446744073709551616) : IntKind.u64.wrap n = n := by
  simp [IntKind.wrap, IntKind.bits, IntKind.signed]; omega
def macSealF (a0 a1 : ByteArray) : Option ByteArray := if a0.size ≤ 549755813888 ∧ a1.size ≤ 274877906944 then some ⟨(sealB a0.data.toList a1.data.toList).toArray⟩ else none
theorem macSeal_calls (a0 a1 r : ByteArray) (w : World) (h : macSealF a0 a1 = some r) :
    Calls Try.prog 58 #[.string a0, .string a1] w fun e w' => e = .returned (.string r) ∧ Below w.heap.size w w' := by
  unfold macSealF at h
  split at h
  · rename_i hs
    obtain rfl := Option.some.inj h
    have h1 : a0.data.toList.length = a0.size := rfl
    have h2 : a1.data.toList.length = a1.size := rfl
    exact seal_any a0.data.toList a1.data.toList w (by omega) (by omega)
  · cases h
theorem refSeal_calls (a0 a1 r : ByteArray) (w : World) (h : macSealF a0 a1 = some r) :
    Calls Try.prog 62 #[.string a0, .string a1] w fun e w' => e = .returned (.string r) ∧ Below w.heap.size w w' := by
  unfold macSealF at h
  split at h
  · rename_i hs
    obtain rfl := Option.some.inj h
    have h1 : a0.data.toList.length = a0.size := rfl
    have h2 : a1.data.toList.length = a1.size := rfl
    exact rseal_any a0.data.toList a1.data.toList w (by omega) (by omega)
  · cases h

end Go.Proofs.Ytgkhdpplmdkkaaa
/- The contracts of mac.Derive and of the reference's, in the form that printed texts use. -/
namespace Go.Proofs.Ytgkhdpplmdkkaaa
open Go.RowKit

def macDeriveF (a0 a1 : ByteArray) (n : Int) : Option (ByteArray × Int) :=
  if a0.size ≤ 549755813888 ∧ a1.size ≤ 1000 ∧ 1 ≤ n ∧ n ≤ 64 then some (⟨((dout a0.data.toList a1.data.toList ((n.toNat + 31) / 32)).take n.toNat).toArray⟩, 0) else none
theorem macDerive_calls (a0 a1 : ByteArray) (n : Int) (r1 : ByteArray) (r2 : Int) (w : World) (h : macDeriveF a0 a1 n = some (r1, r2)) :
    Calls Try.prog 52 #[.string a0, .string a1, .int .i64 n] w fun e w' => e = .returned (.tuple #[.string r1, .int .i64 r2]) ∧ Below w.heap.size w w' := by
  unfold macDeriveF at h
  split at h
  · rename_i hs
    obtain ⟨h1, h2, h3, h4⟩ := hs
    have h := Option.some.inj h
    injection h with ha hb
    subst ha hb
    have h5 : a0.data.toList.length = a0.size := rfl
    have h6 : a1.data.toList.length = a1.size := rfl
    have := derive_gen a0.data.toList a1.data.toList n.toNat ((n.toNat + 31) / 32) w (by omega) (by omega) (by omega) (by omega) (by omega) (fun k hk => by omega)
    rw [show ((n.toNat : Nat) : Int) = n by omega] at this
    exact this
  · cases h
theorem refDerive_calls (a0 a1 : ByteArray) (n : Int) (r1 : ByteArray) (r2 : Int) (w : World) (h : macDeriveF a0 a1 n = some (r1, r2)) :
    Calls Try.prog 53 #[.string a0, .string a1, .int .i64 n] w fun e w' => e = .returned (.tuple #[.string r1, .int .i64 r2]) ∧ Below w.heap.size w w' := by
  unfold macDeriveF at h
  split at h
  · rename_i hs
    obtain ⟨h1, h2, h3, h4⟩ := hs
    have h := Option.some.inj h
    injection h with ha hb
    subst ha hb
    have h5 : a0.data.toList.length = a0.size := rfl
    have h6 : a1.data.toList.length = a1.size := rfl
    have := rderive_any a0.data.toList a1.data.toList n.toNat ((n.toNat + 31) / 32) w (by omega) (by omega) (by omega) (by omega) (fun k hk => by omega)
    rw [show ((n.toNat : Nat) : Int) = n by omega] at this
    exact this
  · cases h

end Go.Proofs.Ytgkhdpplmdkkaaa
