/- The walks of cipher's block, right and Block. -/
import Derived.Test.YtoankokkdmbjmaaDoorBeg
import Derived.Test.YtoankokkdmbjmaaDoorJb
import Derived.Laws.MakeOwn
namespace Go.Proofs.YtoankokkdmbjmaaDoor
open Go.RowKit Go.Lib

/-- a word's bytes, the lowest first -/
def leB (x : UInt32) : List UInt8 := [UInt8.ofNat x.toNat, UInt8.ofNat (x.toNat / 256), UInt8.ofNat (x.toNat / 65536), UInt8.ofNat (x.toNat / 16777216)]
def outL (f : Nat → UInt32) : Nat → List UInt8
  | 0 => []
  | j + 1 => outL f j ++ leB (f j)
theorem outL_length (f : Nat → UInt32) (j : Nat) : (outL f j).length = 4 * j := by
  induction j with
  | zero => rfl
  | succ j ih => simp [outL, ih, leB]; omega
/-- a block's bytes -/
def blkP (s : Nat → UInt32) (n : UInt32) : List UInt8 := outL (roundsP (upd s 12 n)) 16
theorem blkP_length (s : Nat → UInt32) (n : UInt32) : (blkP s n).length = 64 := outL_length _ 16

theorem leB_cells (X : UInt32) : (#[.int .u8 (I32 X % 256), .int .u8 (I32 X / 256 % 256), .int .u8 (I32 X / 65536 % 256), .int .u8 (I32 X / 16777216 % 256)] : Array Value) = (bv (leB X)).toArray := by
  have h1 : I32 X / 16777216 % 256 = _ := u32_byte X 16777216
  have h2 : I32 X / 65536 % 256 = _ := u32_byte X 65536
  have h3 : I32 X / 256 % 256 = _ := u32_byte X 256
  rw [h1, h2, h3, u32_byte0]
  rfl
set_option maxRecDepth 100000 in
theorem run_index16 (F : Nat → UInt32) (j : Nat) (hj : j < 16) (w : World) :
    (Instr.index 144 (agg16 F) (.int .i64 (j : Int))).run Tryd.prog w = .ok (.int .u32 (I32 (F j))) w := by
  have : j = 0 ∨ j = 1 ∨ j = 2 ∨ j = 3 ∨ j = 4 ∨ j = 5 ∨ j = 6 ∨ j = 7 ∨ j = 8 ∨ j = 9 ∨ j = 10 ∨ j = 11 ∨ j = 12 ∨ j = 13 ∨ j = 14 ∨ j = 15 := by omega
  rcases this with rfl | rfl | rfl | rfl | rfl | rfl | rfl | rfl | rfl | rfl | rfl | rfl | rfl | rfl | rfl | rfl <;> (refine Eq.trans ?_ (Eq.refl _); kernel_rfl)
/-- a row that was made, of no element yet -/
theorem OwnB.made (w : World) (c : Nat) (cur : Array Value) (hc : cur.size = c) (hm : c ≤ maxLen) : OwnB (w.alloc (.cells cur 5)) w.heap.size (.slice (some ⟨w.heap.size, 0, none⟩) 0 c) [] :=
  ⟨by simp [bv], .inr ⟨w.heap.size, c, cur, rfl, Nat.le_refl _, heap_alloc_new w _, Nat.zero_le _, hm, by omega, by simp [bv]⟩⟩

/-- a row of n bytes, the first i of them given -/
def zRow (X : Nat → UInt8) (i n : Nat) : Array Value := ((List.range n).map fun j => Value.int .u8 (I8 (if j < i then X j else 0))).toArray
theorem zRow_size (X : Nat → UInt8) (i n : Nat) : (zRow X i n).size = n := by simp [zRow]
theorem zRow_at (X : Nat → UInt8) (i n j : Nat) (hj : j < n) : (zRow X i n)[j]? = some (.int .u8 (I8 (if j < i then X j else 0))) := by
  unfold zRow; rw [List.getElem?_toArray, List.getElem?_map, List.getElem?_range hj]; rfl
theorem zRow_set (X : Nat → UInt8) (i n : Nat) (hi : i < n) : (zRow X i n).setIfInBounds i (.int .u8 (I8 (X i))) = zRow X (i + 1) n := by
  apply Array.ext_getElem?
  intro j
  rw [Array.getElem?_setIfInBounds]
  by_cases h : j < n
  · rw [zRow_at _ _ _ _ h, zRow_at _ _ _ _ h]
    by_cases e : i = j
    · subst e; simp [zRow_size, h]
    · rw [if_neg e]
      by_cases h2 : j < i
      · rw [if_pos h2, if_pos (by omega)]
      · rw [if_neg h2, if_neg (by omega)]
  · have h1 : (zRow X i n)[j]? = none := Array.getElem?_eq_none (by rw [zRow_size]; omega)
    have h2 : (zRow X (i + 1) n)[j]? = none := Array.getElem?_eq_none (by rw [zRow_size]; omega)
    rw [h1, h2]
    split
    · omega
    · rfl
theorem zRow_full (X : Nat → UInt8) (n : Nat) : zRow X n n = (bv ((List.range n).map X)).toArray := by
  unfold zRow bv
  congr 1
  rw [List.map_map]
  apply List.map_congr_left
  intro j hj
  have := List.mem_range.1 hj
  simp [this]
theorem zRow_made (X : Nat → UInt8) (n : Nat) : madeCells #[.int .u8 0] n = zRow X 0 n := by
  apply Array.ext_getElem?
  intro j
  by_cases h : j < n
  · rw [zRow_at _ _ _ _ h]
    simp [madeCells, h, Nat.mod_one]
    rfl
  · rw [Array.getElem?_eq_none (by rw [size_madeCells]; omega), Array.getElem?_eq_none (by rw [zRow_size]; omega)]
theorem make_any (X : Nat → UInt8) (l n : Nat) (hl : l ≤ n) (hn : n ≤ 1099511627776) (w : World) :
    (Instr.makeSlice 36 (.int .i64 (l : Int)) (.int .i64 (n : Int))).run Tryd.prog w = .ok (.slice (some ⟨w.heap.size, 0, none⟩) l n) (w.alloc (.cells (zRow X 0 n) 5)) := by
  obtain ⟨i0, hi0, hz0, hz1, hz2⟩ := info_parts info8
  have := run_make (P := Tryd.prog) w 36 5 i0 _ Tryd.underlying36 hi0 hz0 .i64 .i64 l n (by omega) (by omega) (by rw [hz2]; omega) (by omega)
  rw [this, hz1]
  simp only [Int.toNat_natCast, Nat.mul_one]
  rw [show (Value.int .u8 0).cells = #[.int .u8 0] from rfl, zRow_made X n]
theorem make_0_64 (w : World) :
    (Instr.makeSlice 36 (.int .i64 0) (.int .i64 64)).run Tryd.prog w = .ok (.slice (some ⟨w.heap.size, 0, none⟩) 0 64) (w.alloc (.cells (zRow (fun _ => 0) 0 64) 5)) := make_any (fun _ => 0) 0 64 (by omega) (by omega) w

set_option maxRecDepth 100000 in
set_option maxHeartbeats 4000000 in
theorem block_any (s : Nat → UInt32) (n : UInt32) (w : World) :
    Calls Tryd.prog 108 #[agg16 s, .int .u32 (I32 n)] w fun e w' => ∃ A c, e = .returned (.slice A 64 c) ∧ OwnB w' w.heap.size (.slice A 64 c) (blkP s n) ∧ Below w.heap.size w w' := by
  unfold agg16 lit16
  have hm := fun W => make_0_64 W
  go_enter Tryd.func108, Tryd.ntmps108
  go_wp2_with fail
  refine (rounds_any (upd s 12 n) _).mono ?_
  rintro e w1 ⟨rfl, hl1⟩
  have ho1 : OwnB w1 w.heap.size (.slice (some ⟨w.heap.size + 1, 0, none⟩) 0 64) [] := by
    have := ((OwnB.made (w.alloc (.cells (lit16 (upd s 12 n)) 144)) 64 (zRow (fun _ => 0) 0 64) (zRow_size _ _ _) (by decide)).below_size hl1).base_le (base' := w.heap.size) (by simp)
    simpa using this
  have hl1w : Below w.heap.size w w1 := (((Below.refl w.heap.size w).alloc (Nat.le_refl _) (.cells (lit16 (upd s 12 n)) 144)).alloc (by simp) (.cells (zRow (fun _ => 0) 0 64) 5)).trans (hl1.mono (by simp; omega))
  obtain ⟨F, hF⟩ : ∃ F, F = roundsP (upd s 12 n) := ⟨_, rfl⟩
  rw [← hF]
  have HF := Lib.hid hF
  have Ho1 := Lib.hid ho1
  have Hl1 := Lib.hid hl1w
  clear hF ho1 hl1w hl1 hm
  go_wp2_with fail
  go_loopw [5, 13] (fun b i wr => ∃ (j : Nat) (A : Option Addr) (c : Nat), i = .int .i64 j ∧ j ≤ 16 ∧ b = .slice A (4 * j) c ∧ OwnB wr w.heap.size (.slice A (4 * j) c) (outL F j) ∧ Below w.heap.size w wr) (fun _ i _ => 16 - (intOf i).toNat)
  case atStart => exact ⟨0, _, 64, rfl, by omega, rfl, Ho1.out, Hl1.out⟩
  case round =>
    obtain ⟨j, A, c, rfl, hj, rfl, ho3, hl3⟩ := hrel
    have Ho3 := Lib.hid ho3
    have Hl3 := Lib.hid hl3
    clear ho3 hl3
    by_cases h8 : j < 16
    · have hx := fun W => run_index16 F j h8 W
      obtain ⟨X, hX⟩ : ∃ X, X = F j := ⟨_, rfl⟩
      rw [← hX] at hx
      have HX := Lib.hid hX
      clear hX
      have hc := leB_cells X
      have Hc := Lib.hid hc
      clear hc
      go_wp2_with (at_builtin; refine wpList_app rfl (.tmp 16) (.tmp 28) rfl w.heap.size (.slice A (4 * j) c) _ rfl (Ho3.out.alloc _) _ _ _ (leB X) 4 rfl rfl (reads_new _ _ _ _ (by rw [Hc.out])) (by rw [outL_length]; omega) (Nat.le_trans Hl3.out.size (by simp)) ?_; intro v1 w2 ho2 hg2 hat2)
      obtain ⟨A2, c2, rfl, _⟩ := ho2.form
      have hrep : outL F j ++ leB X = outL F (j + 1) := by rw [HX.out]; rfl
      rw [hrep, outL_length] at ho2
      rw [hrep, outL_length]
      go_roundw
      case rel => exact ⟨j + 1, A2, c2, by go_num, by omega, rfl, ho2, below_app (Hl3.out.alloc Hl3.out.size _) (Ho3.out.alloc _) hg2 (Nat.le_refl _) (Nat.le_trans Hl3.out.size (by simp))⟩
      case measure => simp [intOf]; omega
    · have hd : decide ((j : Int) < 16) = false := by simp; omega
      have hj16 : j = 16 := by omega
      have ho4 := Ho3.out
      rw [hj16] at ho4
      have hB : outL F 16 = blkP s n := by rw [HF.out]; rfl
      rw [hB] at ho4
      have Ho4 := Lib.hid ho4
      have Hj := Lib.hid hj16
      clear ho4 hj16 hB
      go_wp2
      go_ret
      exact ⟨A, c, by rw [Hj.out]; rfl, Ho4.out, Hl3.out⟩
end Go.Proofs.YtoankokkdmbjmaaDoor
