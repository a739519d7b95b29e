/- The contracts of mac.Seal and of the reference's, in the form that printed texts use. -/
import Derived.Test.YtgkhdpplmdkkaaaMb
import Derived.Test.YtgkhdpplmdkkaaaMR3
namespace Go.Proofs.Ytgkhdpplmdkkaaa
open Go.RowKit

theorem u64_in0 {n : Int} (h : 0 ≤ n ∧ n < 18446744073709551616) : IntKind.u64.wrap n = n := by
  simp [IntKind.wrap, IntKind.bits, IntKind.signed]; omega
def macSealF (a0 a1 : ByteArray) : Option ByteArray := if a0.size ≤ 549755813888 ∧ a1.size ≤ 274877906944 then some ⟨(sealB a0.data.toList a1.data.toList).toArray⟩ else none
theorem macSeal_calls (a0 a1 r : ByteArray) (w : World) (h : macSealF a0 a1 = some r) :
    Calls Try.prog 58 #[.string a0, .string a1] w fun e w' => e = .returned (.string r) ∧ Below w.heap.size w w' := by
  unfold macSealF at h
  split at h
  · rename_i hs
    obtain rfl := Option.some.inj h
    have h1 : a0.data.toList.length = a0.size := rfl
    have h2 : a1.data.toList.length = a1.size := rfl
    exact seal_any a0.data.toList a1.data.toList w (by omega) (by omega)
  · cases h
theorem refSeal_calls (a0 a1 r : ByteArray) (w : World) (h : macSealF a0 a1 = some r) :
    Calls Try.prog 62 #[.string a0, .string a1] w fun e w' => e = .returned (.string r) ∧ Below w.heap.size w w' := by
  unfold macSealF at h
  split at h
  · rename_i hs
    obtain rfl := Option.some.inj h
    have h1 : a0.data.toList.length = a0.size := rfl
    have h2 : a1.data.toList.length = a1.size := rfl
    exact rseal_any a0.data.toList a1.data.toList w (by omega) (by omega)
  · cases h

end Go.Proofs.Ytgkhdpplmdkkaaa
