/- strongroomlaw20.absence hands back what it is handed, whatever that is. -/
import Derived.Test.YtdeggemomajhcaaDoorMa
namespace Go.Proofs.YtdeggemomajhcaaDoor
open Go.RowKit

set_option maxHeartbeats 1000000 in
set_option maxRecDepth 100000 in
theorem absence_any (a0 : Int) (a1 a2 a3 a4 : ByteArray) (A5 : Option Addr) (n5 c5 : Nat) (A6 : Option Addr) (n6 c6 : Nat) (w : World) :
    Calls Tryd.prog 41 #[.agg #[.int .i64 a0, .string a1, .string a2, .string a3, .string a4, .slice A5 n5 c5, .slice A6 n6 c6]] w fun e w' =>
      e = .returned (.agg #[.int .i64 a0, .string a1, .string a2, .string a3, .string a4, .slice A5 n5 c5, .slice A6 n6 c6]) ∧ Below w.heap.size w w' := by
  go_enter Tryd.func41, Tryd.ntmps41
  go_wp2
  all_goals
    refine bodyPost_ret (results_cell_row rfl _ _ (w.heap.size + 1) 53 #[.int .i64 a0, .string a1, .string a2, .string a3, .string a4, .slice A5 n5 c5, .slice A6 n6 c6] (0, 0) _ rfl (Blk.new_at _ _ _ _ _ (Array.size_push ..).symm rfl) Tryd.underlying53 rfl (by kernel_rfl)) rfl ?_
    exact ⟨rfl, ((Below.refl _ _).alloc (Nat.le_refl _) _).alloc (Nat.le_trans (Nat.le_succ _) (Nat.le_of_eq (Array.size_push ..).symm)) _⟩

end Go.Proofs.YtdeggemomajhcaaDoor
