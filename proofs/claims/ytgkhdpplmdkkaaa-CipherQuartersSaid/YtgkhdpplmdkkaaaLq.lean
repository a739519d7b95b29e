/- The walk of the law CipherQuarters. -/
import Derived.Test.YtgkhdpplmdkkaaaLiv
import Derived.ChangeKeysEq
namespace Go.Proofs.Ytgkhdpplmdkkaaa
open Go.RowKit Go.Lib

theorem info46 : (Try.prog.info? 46).isSome = true := by kernel_rfl
theorem cells46 : Try.prog.cellsOf 46 = 1 := by kernel_rfl
theorem plain46 : Try.prog.plainKey 46 = true := by kernel_rfl
theorem guard47 : Try.prog.eqGuardType Try.prog.depth 47 = false := by kernel_rfl
theorem guard_agg4 (q : Q4) (x y : Operand) (w : World) : (eqGuard .eql 47 x y (agg4 q) (agg4 q)).run Try.prog w = .ok () w := run_eqGuard_agg w _ _ _ _ _ _ guard47
theorem eql_agg4 (q : Q4) (w : World) : (binOp .eql 47 (agg4 q) (agg4 q)).run Try.prog w = .ok (.bool true) w := by
  obtain ⟨i, hi⟩ := Option.isSome_iff_exists.1 info46
  unfold agg4
  rw [run_eql_struct, run_equalIn_array w 9999 _ _ Try.underlying47 hi, cells46]
  have hp : ∀ (k : Nat) (u : Value) (xs : Array Value), xs[k]? = some u → (Go.part 46 xs (k * 1)).run Try.prog w = .ok u w := fun k u xs h => by
    rw [Nat.mul_one]; exact run_part_plain w plain46 h
  have he : ∀ a, (Op.equalIn 9999 46 (.int .u32 a) (.int .u32 a)).run Try.prog w = .ok true w := fun a => by
    rw [run_equalIn_int w 9998 _ _ _ _ _ Try.underlying46, beq_self_eq_true]
  simp only [show List.range 4 = [0, 1, 2, 3] from rfl, Op.eqItems, Sem.run_bind]
  rw [hp 0 (.int .u32 (I32 q.a)) _ rfl]
  simp only [Result.andThen_ok]
  rw [hp 0 (.int .u32 (I32 q.a)) _ rfl]
  simp only [Result.andThen_ok]
  rw [he]
  simp only [Result.andThen_ok, Bool.not_true, Bool.false_eq_true, if_false, Sem.run_bind]
  rw [hp 1 (.int .u32 (I32 q.b)) _ rfl]
  simp only [Result.andThen_ok]
  rw [hp 1 (.int .u32 (I32 q.b)) _ rfl]
  simp only [Result.andThen_ok]
  rw [he]
  simp only [Result.andThen_ok, Bool.not_true, Bool.false_eq_true, if_false, Sem.run_bind]
  rw [hp 2 (.int .u32 (I32 q.c)) _ rfl]
  simp only [Result.andThen_ok]
  rw [hp 2 (.int .u32 (I32 q.c)) _ rfl]
  simp only [Result.andThen_ok]
  rw [he]
  simp only [Result.andThen_ok, Bool.not_true, Bool.false_eq_true, if_false, Sem.run_bind]
  rw [hp 3 (.int .u32 (I32 q.d)) _ rfl]
  simp only [Result.andThen_ok]
  rw [hp 3 (.int .u32 (I32 q.d)) _ rfl]
  simp only [Result.andThen_ok]
  rw [he]
  simp only [Result.andThen_ok, Bool.not_true, Bool.false_eq_true, if_false, Sem.run_pure]

set_option maxRecDepth 100000 in
set_option maxHeartbeats 4000000 in
theorem quarters_walk (q : Q4) (w : World) : Calls Try.prog 5 #[agg4 q] w fun e w' => e = .returned (.bool true) ∧ Below w.heap.size w w' := by
  have h1 := fun x y W => guard_agg4 (qr q) x y W
  have h2 := fun W => eql_agg4 (qr q) W
  unfold agg4
  go_enter Try.func5, Try.ntmps5
  go_wp2_with fail
  refine abs_world ?_
  intro w1 hw1
  have hb1 : Blk w1 w.heap.size 47 (q4Arr q) := by rw [hw1]; exact Blk.new _ _ _
  have hl1 : Below w.heap.size w w1 := by rw [hw1]; exact (Below.refl _ _).alloc (Nat.le_refl _) _
  have c0 := hb1.cell 0
  have c1 := hb1.cell 1
  have c2 := hb1.cell 2
  have c3 := hb1.cell 3
  simp only [q4Arr, List.getElem?_toArray, List.getElem?_cons_zero, List.getElem?_cons_succ] at c0 c1 c2 c3
  have Hb1 := Lib.hid hb1
  have Hl1 := Lib.hid hl1
  clear hw1 hb1 hl1
  go_region_law (first
    | (go_simp; go_at_call 25; refine (quarter_any q _).mono ?_; rintro e2 w2 ⟨rfl, hl2⟩; have hb2 : Blk w2 w.heap.size 47 (q4Arr q) := (by first | exact (Hb1.out.drewN 1).below hl2 Hb1.out.lt | exact Hb3.out.below hl2 Hb3.out.lt); have hk2 : Below w.heap.size w w2 := (by first | exact (below_drewN' Hl1.out 1).trans (hl2.mono (below_drewN' Hl1.out 1).size) | exact Hl3.out.trans (hl2.mono Hl3.out.size)); have d20 := hb2.cell 0; have d21 := hb2.cell 1; have d22 := hb2.cell 2; have d23 := hb2.cell 3; simp only [q4Arr, List.getElem?_toArray, List.getElem?_cons_zero, List.getElem?_cons_succ] at d20 d21 d22 d23; have Hb2 := Lib.hid hb2; have Hl2 := Lib.hid hk2; clear hl2 hb2 hk2)
    | (go_simp; go_at_call 26; refine (rquarter_any q _).mono ?_; rintro e3 w3 ⟨rfl, hl3⟩; have hb3 : Blk w3 w.heap.size 47 (q4Arr q) := (by first | exact (Hb1.out.drewN 1).below hl3 Hb1.out.lt | exact Hb2.out.below hl3 Hb2.out.lt); have hk3 : Below w.heap.size w w3 := (by first | exact (below_drewN' Hl1.out 1).trans (hl3.mono (below_drewN' Hl1.out 1).size) | exact Hl2.out.trans (hl3.mono Hl2.out.size)); have d30 := hb3.cell 0; have d31 := hb3.cell 1; have d32 := hb3.cell 2; have d33 := hb3.cell 3; simp only [q4Arr, List.getElem?_toArray, List.getElem?_cons_zero, List.getElem?_cons_succ] at d30 d31 d32 d33; have Hb3 := Lib.hid hb3; have Hl3 := Lib.hid hk3; clear hl3 hb3 hk3)
    | (go_simp; go_at_call 27; refine (lives_any _).mono ?_; rintro e4 w4 ⟨rfl, hl4⟩; have hk4 : Below w.heap.size w w4 := (by first | exact Hl3.out.trans (hl4.mono Hl3.out.size) | exact Hl2.out.trans (hl4.mono Hl2.out.size)); have Hl4 := Lib.hid hk4; clear hl4 hk4))
  all_goals
    go_wp2_with fail
    go_ret
    exact ⟨rfl, Hl4.out⟩
end Go.Proofs.Ytgkhdpplmdkkaaa
