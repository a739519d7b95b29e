/- sha.Sum and the reference's, in the print's form. -/
import Derived.Test.YtdeggemomajhcaaDoorMb
import Derived.Test.YtdeggemomajhcaaDoorMRu
import Derived.Test.YtdeggemomajhcaaDoorWWords
namespace Go.Proofs.YtdeggemomajhcaaDoor
open Go.RowKit Go.Lib
open Go.Proofs.YtdeggemomajhcaaDoorW.PrintWords

/-- xs[:j:j] -/
theorem cut_to3 {P : Program} (t e : TypeId) (kh : IntKind) {i : TypeInfo} (ht : P.underlying t = some (.slice e)) (hi : P.info? e = some i) (A : Option Addr) (n c : Nat) (j : Int) (h0 : 0 ≤ j) (hm : j ≤ n) (hc : n ≤ c) :
    ∀ W : World, (Instr.slice t (.slice A n c) none (some (.int kh j)) (some (.int kh j))).run P W = .ok (.slice A j.toNat j.toNat) W := by
  intro W
  have hel : P.elem t = e := by simp [Program.elem, ht]
  have hu : P.underlying t = some (.slice (P.elem t)) := by rw [hel]; exact ht
  have ha : (A.map fun x => x.add 0) = A := by cases A <;> simp [Addr.add]
  have hjc : j ≤ (c : Int) := by omega
  have key : (Instr.slice t (.slice A n c) none (some (.int kh j)) (some (.int kh j))).run P W = ((sizeOf (P.elem t)).run P W).andThen fun s w => .ok (sliced A 0 j.toNat j.toNat s) w := by
    exact run_slice_hm W t A n c hu kh kh j j h0 (by omega) hjc
  rw [key, hel]
  simp [sizeOf, typeInfo, hi, sliced, Result.andThen, ha]
/-- the bytes that numbers are -/
def bytesN (l : List Int) : List UInt8 := l.map fun x => UInt8.ofNat x.toNat
def okBytes (l : List Int) : Bool := l.all fun x => decide (0 ≤ x) && decide (x ≤ 255)
def shaSumF (l : List Int) : Option ByteArray := if 0 < l.length ∧ l.length ≤ 1099511627776 ∧ okBytes l = true then some ⟨(dig (bytesN l)).toArray⟩ else none
theorem gt_bytesN (l : List Int) (h : okBytes l = true) (j : Nat) (hj : j < l.length) : I8 (gt (bytesN l) j) = l[j] := by
  have hx := List.all_eq_true.1 h l[j] (List.getElem_mem hj)
  simp only [Bool.and_eq_true, decide_eq_true_eq] at hx
  have e : gt (bytesN l) j = UInt8.ofNat (l[j]).toNat := by
    simp [gt, bytesN, List.getD_eq_getElem?_getD, hj]
  rw [e]
  simp only [I8, UInt8.toNat_ofNat']
  omega
theorem shaSum_calls (A : Option Addr) (c : Nat) (l : List Int) (r : ByteArray) (w : World) (hr : Kd.C (Kd.int .u8) w A l.length l) (hc : l.length ≤ c) (h : shaSumF l = some r) :
    Calls Tryd.prog 69 #[.slice A l.length c] w fun e w' => e = .returned (.string r) ∧ Below w.heap.size w w' := by
  unfold shaSumF at h
  split at h
  · rename_i hs
    obtain ⟨h0, h1, h2⟩ := hs
    obtain rfl := Option.some.inj h
    obtain ⟨_, _, hx⟩ := hr
    obtain ⟨ad, rfl, hcell⟩ := hx h0
    have hat : ∀ j (hj : j < l.length), w.cell? (ad.add j) = some (.int .u8 l[j]) := by
      intro j hj
      obtain ⟨cs, hl, hK, hu⟩ := hcell j l[j] (List.getElem?_eq_getElem hj)
      obtain rfl : cs = [.int .u8 l[j]] := hK
      have h := hu 0 _ rfl
      rw [show j * (Kd.int IntKind.u8).sz + 0 = j from by show j * 1 + 0 = j; omega] at h
      exact h
    have hspot : ad.spot = none := by
      have := hat 0 h0
      rw [show ad.add 0 = ad from rfl] at this
      unfold World.cell? at this
      split at this
      · split at this
        · cases this
        · rename_i hn
          simpa using hn
      · cases this
    obtain ⟨b, o, s⟩ := ad
    simp only at hspot
    subst hspot
    have hadd : ∀ j, (⟨b, o, none⟩ : Addr).add j = ⟨b, o + j, none⟩ := by
      intro j
      unfold Addr.add
      split
      · rename_i hj; subst hj; rfl
      · rfl
    have hb : b < w.heap.size := by
      have := hat 0 h0
      unfold World.cell? at this
      split at this
      · rename_i hh
        exact (Array.getElem?_eq_some_iff.1 hh).1
      · cases this
    have hlen : (bytesN l).length = l.length := by simp [bytesN]
    have key := ssum_any (bytesN l) (some ⟨b, o, none⟩) b o c w (fun j hj => by
      rw [hlen] at hj
      rw [gt_bytesN l h2 j hj, ← hadd, hat j hj]) (fun _ => ⟨rfl, by rw [hlen]; exact hc⟩) hb (by rw [hlen]; exact h1)
    rw [hlen] at key
    exact key
  · cases h
theorem u64_in0 {n : Int} (h : 0 ≤ n ∧ n < 18446744073709551616) : IntKind.u64.wrap n = n := by
  simp [IntKind.wrap, IntKind.bits, IntKind.signed]; omega
def refSumF (a : ByteArray) : Option ByteArray := if a.size ≤ 549755813888 then some ⟨(dig a.data.toList).toArray⟩ else none
theorem refSum_calls (a r : ByteArray) (w : World) (h : refSumF a = some r) :
    Calls Tryd.prog 44 #[.string a] w fun e w' => e = .returned (.string r) ∧ Below w.heap.size w w' := by
  unfold refSumF at h
  split at h
  · rename_i hs
    obtain rfl := Option.some.inj h
    have h1 : a.data.toList.length = a.size := rfl
    exact rsum_any a.data.toList w (by omega)
  · cases h

end Go.Proofs.YtdeggemomajhcaaDoor
