/- The walk of cipher's rounds. -/
import Derived.Test.YtoankokkdmbjmaaDoorCq
import Derived.Laws.CopyOwn
namespace Go.Proofs.YtoankokkdmbjmaaDoor
open Go.RowKit Go.Lib

theorem Only.trans {g : Nat} {a b c : World} (h : Only g a b) (h2 : Only g b c) : Only g a c :=
  ⟨h2.os.trans h.os, h2.tape.trans h.tape, h2.output.trans h.output, Nat.le_trans h.size h2.size, fun k hk hg => (h2.block k (Nat.lt_of_lt_of_le hk h.size) hg).trans (h.block k hk hg)⟩
def agg16 (s : Nat → UInt32) : Value := .agg (lit16 s)
/-- a double round's first and second half, up to i -/
def colR (s : Nat → UInt32) : Nat → (Nat → UInt32)
  | 0 => s
  | i + 1 => qat (colR s i) i (4 + i) (8 + i) (12 + i)
def diaR (s : Nat → UInt32) : Nat → (Nat → UInt32)
  | 0 => s
  | i + 1 => qat (diaR s i) i (4 + (i + 1) % 4) (8 + (i + 2) % 4) (12 + (i + 3) % 4)
def dbl (s : Nat → UInt32) : Nat → (Nat → UInt32)
  | 0 => s
  | n + 1 => diaR (colR (dbl s n) 4) 4
/-- the words with s added, up to i -/
def addR (w s : Nat → UInt32) (i j : Nat) : UInt32 := if j < i then w j + s j else w j
def roundsP (s : Nat → UInt32) : Nat → UInt32 := addR (dbl s 10) s 16

theorem info16 : (Tryd.prog.info? 144).map (·.size) = some 16 := by kernel_rfl
theorem lit16_one (s : Nat → UInt32) : (lit16 s).all (·.oneCell') = true := by simp [lit16, Value.oneCell']
theorem addR_upd (D s : Nat → UInt32) (j : Nat) : upd (addR D s j) j (D j + s j) = addR D s (j + 1) := by
  funext i
  unfold upd addR
  by_cases h : i = j
  · subst h; simp
  · by_cases h2 : i < j
    · rw [if_neg h, if_pos h2, if_pos (by omega)]
    · rw [if_neg h, if_neg h2, if_neg (by omega)]

set_option maxRecDepth 100000 in
set_option maxHeartbeats 4000000 in
theorem rounds_any (s : Nat → UInt32) (w : World) :
    Calls Tryd.prog 123 #[agg16 s] w fun e w' => e = .returned (agg16 (roundsP s)) ∧ Below w.heap.size w w' := by
  unfold agg16 lit16
  go_enter Tryd.func123, Tryd.ntmps123
  go_wp2_with fail
  refine abs_world ?_
  intro w1 hw1
  have hb0 : Blk w1 w.heap.size 144 (lit16 s) := by rw [hw1]; exact ((Blk.new w _ _).alloc _).alloc _
  have hb1 : Blk w1 (w.heap.size + 1) 144 (lit16 fun _ => 0) := by rw [hw1]; exact (Blk.new_at _ _ _ _ _ (by simp) rfl).alloc _
  have hb2 : Blk w1 (w.heap.size + 2) 144 (lit16 s) := by rw [hw1]; exact Blk.new_at _ _ _ _ _ (by simp) rfl
  have hl1 : Below w.heap.size w w1 := by rw [hw1]; exact ((((Below.refl _ _).alloc (Nat.le_refl _) _).alloc (by simp) _).alloc (by simp; omega) _)
  clear hw1
  have Hb0 := Lib.hid hb0
  have Hb1 := Lib.hid hb1
  have Hb2 := Lib.hid hb2
  have Hl1 := Lib.hid hl1
  clear hb0 hb1 hb2 hl1
  obtain ⟨g2, hg2⟩ : ∃ g2, g2 = w.heap.size + 2 := ⟨_, rfl⟩
  try simp only [Nat.add_assoc, Nat.reduceAdd]
  rw [← hg2] at Hb2 ⊢
  have Hg2 := Lib.hid hg2
  clear hg2
  go_loopw [8] (fun i wr => ∃ n : Nat, i = .int .i64 n ∧ n ≤ 10 ∧ Blk wr g2 144 (lit16 (dbl s n)) ∧ Only g2 w1 wr) (fun i _ => 10 - (intOf i).toNat)
  case atStart => exact ⟨0, rfl, by omega, Hb2.out, Only.refl _ _⟩
  case round =>
    obtain ⟨n, rfl, hn, hb, ho⟩ := hrel
    have Hb := Lib.hid hb
    have Ho := Lib.hid ho
    clear hb ho
    by_cases h10 : n < 10
    · have hd10 : decide ((n : Int) < 10) = true := by simp; omega
      go_wp2_with fail
      go_loopw [10] (fun i w2 => ∃ j : Nat, i = .int .i64 j ∧ j ≤ 4 ∧ Blk w2 g2 144 (lit16 (colR (dbl s n) j)) ∧ Only g2 w1 w2) (fun i _ => 4 - (intOf i).toNat)
      case atStart => exact ⟨0, rfl, by omega, Hb.out, Ho.out⟩
      case round =>
        obtain ⟨j, rfl, hj, hb, ho⟩ := hrel
        have Hb3 := Lib.hid hb
        have Ho3 := Lib.hid ho
        clear hb ho
        by_cases h4 : j < 4
        · have hd4 : decide ((j : Int) < 4) = true := by simp; omega
          have hq := qat_any g2 (colR (dbl s n) j) j (4 + j) (8 + j) (12 + j) _ Hb3.out (by omega) (by omega) (by omega) (by omega) (by omega) (by omega) (by omega) (by omega) (by omega) (by omega)
          push_cast at hq
          have Hq := Lib.hid hq
          clear hq
          go_wp2_with fail
          refine Hq.out.mono ?_
          rintro e w3 ⟨rfl, hb4, ho4⟩
          have Hb4 := Lib.hid hb4
          have Ho4 := Lib.hid ho4
          clear hb4 ho4
          go_wp2
          go_roundw
          case rel => exact ⟨j + 1, by go_num, by omega, Hb4.out, Ho3.out.trans Ho4.out⟩
          case measure => simp [intOf]; omega
        · have hj4 : j = 4 := by omega
          have hd44 : decide ((j : Int) < 4) = false := by simp; omega
          have Hj4 := Lib.hid hj4
          clear hj4
          go_wp2_with fail
          obtain ⟨C, hC⟩ : ∃ C, C = colR (dbl s n) 4 := ⟨_, rfl⟩
          have hb5 := Hb3.out
          rw [Hj4.out, ← hC] at hb5
          have HC := Lib.hid hC
          have Hb5 := Lib.hid hb5
          clear hC hb5
          go_loopw [22] (fun i w2 => ∃ j : Nat, i = .int .i64 j ∧ j ≤ 4 ∧ Blk w2 g2 144 (lit16 (diaR C j)) ∧ Only g2 w1 w2) (fun i _ => 4 - (intOf i).toNat)
          case atStart => exact ⟨0, rfl, by omega, Hb5.out, Ho3.out⟩
          case round =>
            obtain ⟨j, rfl, hj, hb, ho⟩ := hrel
            have Hb6 := Lib.hid hb
            have Ho6 := Lib.hid ho
            clear hb ho
            by_cases h4 : j < 4
            · have hd4 : decide ((j : Int) < 4) = true := by simp; omega
              have hq := qat_any g2 (diaR C j) j (4 + (j + 1) % 4) (8 + (j + 2) % 4) (12 + (j + 3) % 4) _ Hb6.out (by omega) (by omega) (by omega) (by omega) (by omega) (by omega) (by omega) (by omega) (by omega) (by omega)
              push_cast at hq
              have Hq := Lib.hid hq
              clear hq
              go_wp2_with fail
              refine Hq.out.mono ?_
              rintro e w3 ⟨rfl, hb4, ho4⟩
              have Hb4 := Lib.hid hb4
              have Ho4 := Lib.hid ho4
              clear hb4 ho4
              go_wp2
              go_roundw
              case rel => exact ⟨j + 1, by go_num, by omega, Hb4.out, Ho6.out.trans Ho4.out⟩
              case measure => simp [intOf]; omega
            · obtain rfl : j = 4 := by omega
              have hb7 := Hb6.out
              rw [HC.out] at hb7
              have Hb7 := Lib.hid hb7
              clear hb7
              go_wp2
              go_roundw
              case rel => exact ⟨n + 1, by go_num, by omega, Hb7.out, Ho6.out⟩
              case measure => simp [intOf]; omega
    · obtain rfl : n = 10 := by omega
      go_wp2_with fail
      obtain ⟨D, hD⟩ : ∃ D, D = dbl s 10 := ⟨_, rfl⟩
      have hbD := Hb.out
      rw [← hD] at hbD
      have HbD := Lib.hid hbD
      have HD := Lib.hid hD
      clear hbD hD
      have hg0 : g2 ≠ w.heap.size := by have := Hg2.out; omega
      have hg1 : w.heap.size + 1 ≠ g2 := by have := Hg2.out; omega
      go_loopw [41] (fun i w2 => ∃ j : Nat, i = .int .i64 j ∧ j ≤ 16 ∧ Blk w2 g2 144 (lit16 (addR D s j)) ∧ Only g2 w1 w2) (fun i _ => 16 - (intOf i).toNat)
      case atStart => exact ⟨0, rfl, by omega, by have := HbD.out; have hz : addR D s 0 = D := by funext j; simp [addR]
                                                  rw [hz]; exact this, Ho.out⟩
      case round =>
        obtain ⟨j, rfl, hj, hb, ho⟩ := hrel
        by_cases h16 : j < 16
        · have hd16 : decide ((j : Int) < 16) = true := by simp; omega
          have c0 := (hb.cell j).trans (lit16_at _ j h16)
          have f0 := hb.frozen j
          have hv : addR D s j j = D j := by simp [addR]
          rw [hv] at c0
          have hs := ho.blk Hb0.out (Ne.symm hg0)
          have c1 := (hs.cell j).trans (lit16_at _ j h16)
          have Hb5 := Lib.hid hb
          have Ho5 := Lib.hid ho
          clear hb ho hs hv
          go_wp2_with fail
          go_region
          go_wp2
          refine ⟨⟨j + 1, by go_num, by omega, ?_, (Ho5.out.set_ _ _).drewN 1⟩, ?_⟩
          · have := (Hb5.out.set_ j (.int .u32 (I32 (D j + s j)))).drewN 1
            rw [lit16_set, addR_upd] at this
            exact this
          · simp [intOf]; omega
        · obtain rfl : j = 16 := by omega
          have hF : addR D s 16 = roundsP s := by rw [HD.out]; rfl
          rw [hF] at hb
          have hr1 := ho.blk Hb1.out hg1
          have hd0 : decide (((16 : Nat) : Int) < 16) = false := by decide
          have hi : (Tryd.prog.info? 144).map (·.size) = some (lit16 (roundsP s)).size := by rw [lit16_size]; exact info16
          have hB : Below w.heap.size w wr := Hl1.out.trans (ho.below (by have := Hg2.out; omega) (by have := Hb0.out.lt; omega))
          have HR := Lib.hid hb
          have Hr1 := Lib.hid hr1
          have Hi := Lib.hid hi
          have HB := Lib.hid hB
          clear hb ho hr1 hi hB hF
          go_wp2_with (first
            | (refine wpList_load_row rfl 144 (.tmp 3) rfl g2 rfl 144 (lit16 (roundsP s)) (0, 0) _ HR.out Tryd.underlying144 rfl Hi.out ?_)
            | (refine wpList_store_row rfl 144 (.tmp 2) (.tmp 53) rfl (w.heap.size + 1) (lit16 (roundsP s)) rfl rfl 144 (lit16 fun _ => 0) Hr1.out Hi.out (by rw [lit16_size, lit16_size]) (lit16_one _) ?_))
          refine bodyPost_ret (v := .agg (lit16 (roundsP s))) (results_cell_row (t := 144) (fr := (0, 0)) rfl _ _ (w.heap.size + 1) _ _ rfl (setRow_heap _ _ _ _ _ _ Hr1.out) Tryd.underlying144 rfl Hi.out) rfl ⟨rfl, ?_⟩
          exact below_setRow HB.out (by omega) _

end Go.Proofs.YtoankokkdmbjmaaDoor
