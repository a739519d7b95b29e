/- merkle.both in the print's form: the digest of two parts. -/
import Derived.Test.YtdeggemomajhcaaDoorSumP
namespace Go.Proofs.YtdeggemomajhcaaDoor
open Go.RowKit Go.Lib

theorem cast_len4 {P : Program} {f : FuncId} {A : Option Addr} {m n c : Nat} {x y z : Value} {w : World} {Q : Ending → World → Prop} (h : m = n) (k : Calls P f #[x, y, z, .slice A m c] w Q) : Calls P f #[x, y, z, .slice A n c] w Q := h ▸ k
theorem cast_len5 {P : Program} {f : FuncId} {A : Option Addr} {m n c : Nat} {x y z u : Value} {w : World} {Q : Ending → World → Prop} (h : m = n) (k : Calls P f #[x, y, z, u, .slice A m c] w Q) : Calls P f #[x, y, z, u, .slice A n c] w Q := h ▸ k
set_option maxRecDepth 100000 in
set_option maxHeartbeats 2000000 in
theorem both_any (a b : List UInt8) (w : World) (h : a.length + b.length ≤ 274877906944) :
    Calls Tryd.prog 62 #[.string ⟨a.toArray⟩, .string ⟨b.toArray⟩] w fun e w' => e = .returned (.string ⟨(dig (1 :: (a ++ b))).toArray⟩) ∧ Below w.heap.size w w' := by
  have s1 : ∀ w : World, (Op.stringOp .add ⟨#[1]⟩ ⟨a.toArray⟩).run Tryd.prog w = .ok (.string ⟨(1 :: a).toArray⟩) w := fun w => str_add [1] a (by simp; omega) w
  have s2 : ∀ w : World, (Op.stringOp .add ⟨(1 :: a).toArray⟩ ⟨b.toArray⟩).run Tryd.prog w = .ok (.string ⟨(1 :: (a ++ b)).toArray⟩) w := fun w => str_add (1 :: a) b (by simp; omega) w
  have key := ssum_any (1 :: (a ++ b)) (some ⟨w.heap.size, 0, none⟩) w.heap.size 0 (bcap w (1 :: (a ++ b))) (bw w (1 :: (a ++ b))) (fun j hj => by rw [Nat.zero_add]; refine bw_cell w _ j _ ?_; unfold gt; rw [List.getD_eq_getElem?_getD, List.getElem?_eq_getElem hj]; rfl) (fun _ => ⟨rfl, bcap_le w _⟩) (by rw [bw_size]; omega) (by simp; omega)
  rw [show (1 :: (a ++ b)).length = a.length + b.length + 1 by simp] at key
  go_enter Tryd.func62, Tryd.ntmps62
  go_wp2_with fail
  refine key.mono ?_
  rintro e w1 ⟨rfl, hl⟩
  have Hl := Lib.hid hl
  clear hl
  go_wp2
  go_ret
  exact ⟨rfl, (bw_below w _).trans (Hl.out.mono (by rw [bw_size]; omega))⟩
def bothF (a b : ByteArray) : Option ByteArray := if a.size + b.size ≤ 274877906944 then some ⟨(dig (1 :: (a.data.toList ++ b.data.toList))).toArray⟩ else none
theorem both_calls (a b r : ByteArray) (w : World) (h : bothF a b = some r) :
    Calls Tryd.prog 62 #[.string a, .string b] w fun e w' => e = .returned (.string r) ∧ Below w.heap.size w w' := by
  unfold bothF at h
  split at h
  · rename_i hs
    obtain rfl := Option.some.inj h
    exact both_any a.data.toList b.data.toList w hs
  · cases h

end Go.Proofs.YtdeggemomajhcaaDoor
