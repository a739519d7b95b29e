/- The quarter round: the walks of cipher.Quarter and of the reference's. -/
import Derived.Test.YtoankokkdmbjmaaDoorJa
import Derived.Deep.QuietTactic
import Derived.BigQuiet
import Derived.BigRegion
namespace Go.Proofs.YtoankokkdmbjmaaDoor
open Go.RowKit Go.Lib

structure Q4 where
  a : UInt32
  b : UInt32
  c : UInt32
  d : UInt32
def agg4 (s : Q4) : Value := .agg #[.int .u32 (I32 s.a), .int .u32 (I32 s.b), .int .u32 (I32 s.c), .int .u32 (I32 s.d)]
def q4Arr (s : Q4) : Array Value := #[.int .u32 (I32 s.a), .int .u32 (I32 s.b), .int .u32 (I32 s.c), .int .u32 (I32 s.d)]
/-- half of a quarter round -/
def hr (m n : Nat) (q : Q4) : Q4 :=
  ⟨q.a + q.b, rot (q.b ^^^ (q.c + rot (q.d ^^^ (q.a + q.b)) m)) n, q.c + rot (q.d ^^^ (q.a + q.b)) m, rot (q.d ^^^ (q.a + q.b)) m⟩
def qr (q : Q4) : Q4 := hr 8 7 (hr 16 12 q)

theorem up_any (x : UInt32) (n : Int) (w : World) (h1 : 1 ≤ n) (h2 : n ≤ 31) :
    Calls Tryd.prog 143 #[.int .u32 (I32 x), .int .u64 n] w fun e w' => e = .returned (.int .u32 (I32 (rot x n.toNat))) ∧ w' = w := by
  obtain ⟨m, rfl⟩ := Int.eq_ofNat_of_zero_le (show 0 ≤ n by omega)
  have hs : IntKind.u64.wrap (32 - (m : Int)) = 32 - (m : Int) := by
    simp [IntKind.wrap, IntKind.bits, IntKind.signed]; omega
  go_enter Tryd.func143, Tryd.ntmps143
  go_wp2
  go_ret
  exact ⟨congrArg (fun n => Ending.returned (.int .u32 n)) (rot_int x m), rfl⟩

theorem rl16 : bits .and .u64 (IntKind.u64.wrap 16) 31 = ((16 : Nat) : Int) := by decide
theorem rl12 : bits .and .u64 (IntKind.u64.wrap 12) 31 = ((12 : Nat) : Int) := by decide
theorem rl8 : bits .and .u64 (IntKind.u64.wrap 8) 31 = ((8 : Nat) : Int) := by decide
theorem rl7 : bits .and .u64 (IntKind.u64.wrap 7) 31 = ((7 : Nat) : Int) := by decide

set_option maxRecDepth 100000 in
set_option maxHeartbeats 2000000 in
theorem quarter_any (q : Q4) (w : World) :
    Calls Tryd.prog 150 #[agg4 q] w fun e w' => e = .returned (agg4 (qr q)) ∧ Below w.heap.size w w' := by
  unfold agg4
  go_enter Tryd.func150, Tryd.ntmps150
  go_wp2_with fail
  refine abs_world ?_
  intro w1 hw1
  have hb : Blk w1 w.heap.size 172 (q4Arr q) := by rw [hw1]; exact (Blk.new w _ _).alloc _
  have hr : Blk w1 (w.heap.size + 1) 172 #[.int .u32 0, .int .u32 0, .int .u32 0, .int .u32 0] := by rw [hw1]; exact Blk.new_at _ _ _ _ _ (by simp) rfl
  have hl : Below w.heap.size w w1 := by rw [hw1]; exact (((Below.refl _ _).alloc (Nat.le_refl _) _).alloc (by simp) _)
  clear hw1
  have s0 := hb.cell 0
  have s1 := hb.cell 1
  have s2 := hb.cell 2
  have s3 := hb.cell 3
  simp only [q4Arr, List.getElem?_toArray, List.getElem?_cons_zero, List.getElem?_cons_succ] at s0 s1 s2 s3
  have r0 := hr.cell 0
  have r1 := hr.cell 1
  have r2 := hr.cell 2
  have r3 := hr.cell 3
  have f0 := hr.frozen 0
  have f1 := hr.frozen 1
  have f2 := hr.frozen 2
  have f3 := hr.frozen 3
  simp only [List.getElem?_toArray, List.getElem?_cons_zero, List.getElem?_cons_succ] at r0 r1 r2 r3
  have Hl := Lib.hid hl
  have Hr := Lib.hid hr
  clear hb hl hr
  go_quiet (fail)
  go_wp2_with fail
  refine (rotl_any _ 16 16 _ rl16 (by omega) (by omega)).mono ?_
  rintro e w2 ⟨rfl, rfl⟩
  go_wp2_with fail
  refine (rotl_any _ 12 12 _ rl12 (by omega) (by omega)).mono ?_
  rintro e w2 ⟨rfl, rfl⟩
  go_wp2_with fail
  refine (rotl_any _ 8 8 _ rl8 (by omega) (by omega)).mono ?_
  rintro e w2 ⟨rfl, rfl⟩
  go_wp2_with fail
  refine (rotl_any _ 7 7 _ rl7 (by omega) (by omega)).mono ?_
  rintro e w2 ⟨rfl, rfl⟩
  go_wp2_with fail
  refine abs_post ?_
  intro w2 hw2
  have hF : Blk w2 (w.heap.size + 1) 172 (q4Arr (qr q)) := by
    rw [hw2]; exact ((((Hr.out.drewN nq).set_ 0 _).set_ 1 _).set_ 2 _).set_ 3 _
  have hL : Below w.heap.size w w2 := by
    rw [hw2]; exact below_set (below_set (below_set (below_set (below_drewN' Hl.out nq) (by omega) _ _) (by omega) _ _) (by omega) _ _) (by omega) _ _
  clear hw2 s0 s1 s2 s3 r0 r1 r2 r3 f0 f1 f2 f3
  have r0 := hF.cell 0
  have r1 := hF.cell 1
  have r2 := hF.cell 2
  have r3 := hF.cell 3
  simp only [q4Arr, List.getElem?_toArray, List.getElem?_cons_zero, List.getElem?_cons_succ] at r0 r1 r2 r3
  refine bodyPost_ret (v := agg4 (qr q)) ?_ rfl ⟨rfl, hL⟩
  simp [results, Tryd.results150, go_sem, agg4, r0, r1, r2, r3]

set_option maxRecDepth 100000 in
set_option maxHeartbeats 2000000 in
theorem rquarter_any (q : Q4) (w : World) :
    Calls Tryd.prog 130 #[agg4 q] w fun e w' => e = .returned (agg4 (qr q)) ∧ Below w.heap.size w w' := by
  unfold agg4
  go_enter Tryd.func130, Tryd.ntmps130
  go_wp2_with fail
  refine (up_any _ 16 _ (by omega) (by omega)).mono ?_
  rintro e w2 ⟨rfl, rfl⟩
  go_wp2_with fail
  refine (up_any _ 12 _ (by omega) (by omega)).mono ?_
  rintro e w2 ⟨rfl, rfl⟩
  go_wp2_with fail
  refine (up_any _ 8 _ (by omega) (by omega)).mono ?_
  rintro e w2 ⟨rfl, rfl⟩
  go_wp2_with fail
  refine (up_any _ 7 _ (by omega) (by omega)).mono ?_
  rintro e w2 ⟨rfl, rfl⟩
  go_wp2_with fail
  refine abs_post ?_
  intro w2 hw2
  have hF : Blk w2 (w.heap.size + 1) 172 (q4Arr (qr q)) := by
    rw [hw2]; exact Blk.new_at _ _ _ _ _ (by simp) rfl
  have hL : Below w.heap.size w w2 := by
    rw [hw2]; exact (((Below.refl _ _).alloc (Nat.le_refl _) _).alloc (by simp) _)
  clear hw2
  have r0 := hF.cell 0
  have r1 := hF.cell 1
  have r2 := hF.cell 2
  have r3 := hF.cell 3
  simp only [q4Arr, List.getElem?_toArray, List.getElem?_cons_zero, List.getElem?_cons_succ] at r0 r1 r2 r3
  refine bodyPost_ret (v := agg4 (qr q)) ?_ rfl ⟨rfl, hL⟩
  simp [results, Tryd.results130, go_sem, agg4, r0, r1, r2, r3]

end Go.Proofs.YtoankokkdmbjmaaDoor
