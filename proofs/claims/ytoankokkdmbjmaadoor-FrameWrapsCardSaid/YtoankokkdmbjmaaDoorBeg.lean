/- The walk of cipher.begun: a key's and a nonce's words. -/
import Derived.Test.YtoankokkdmbjmaaDoorCr
namespace Go.Proofs.YtoankokkdmbjmaaDoor
open Go.RowKit Go.Lib

/-- expand 32-byte k -/
def cst : List UInt8 := [101, 120, 112, 97, 110, 100, 32, 51, 50, 45, 98, 121, 116, 101, 32, 107]
def b1 (t j : Nat) : UInt32 := if j < t then le4 cst (4 * j) else 0
def b2 (key : List UInt8) (t j : Nat) : UInt32 := if j < 4 then le4 cst (4 * j) else if j < 4 + t then le4 key (4 * (j - 4)) else 0
def b3 (key nonce : List UInt8) (t j : Nat) : UInt32 := if j < 4 then le4 cst (4 * j) else if j < 12 then le4 key (4 * (j - 4)) else if 13 ≤ j ∧ j < 13 + t then le4 nonce (4 * (j - 13)) else 0
def begP (key nonce : List UInt8) : Nat → UInt32 := b3 key nonce 3
theorem b1_upd (t : Nat) : upd (b1 t) t (le4 cst (4 * t)) = b1 (t + 1) := by
  funext i; unfold upd b1
  by_cases h : i = t
  · subst h; simp
  · by_cases h2 : i < t
    · rw [if_neg h, if_pos h2, if_pos (by omega)]
    · rw [if_neg h, if_neg h2, if_neg (by omega)]
theorem b2_upd (key : List UInt8) (t : Nat) : upd (b2 key t) (4 + t) (le4 key (4 * t)) = b2 key (t + 1) := by
  funext i; unfold upd b2
  by_cases h : i = 4 + t
  · subst h; rw [if_pos rfl, if_neg (by omega), if_pos (by omega), Nat.add_sub_cancel_left]
  · rw [if_neg h]
    by_cases h4 : i < 4
    · rw [if_pos h4, if_pos h4]
    · by_cases h2 : i < 4 + t
      · rw [if_neg h4, if_neg h4, if_pos h2, if_pos (by omega)]
      · rw [if_neg h4, if_neg h4, if_neg h2, if_neg (by omega)]
theorem b3_upd (key nonce : List UInt8) (t : Nat) : upd (b3 key nonce t) (13 + t) (le4 nonce (4 * t)) = b3 key nonce (t + 1) := by
  funext i; unfold upd b3
  by_cases h : i = 13 + t
  · subst h; rw [if_pos rfl, if_neg (by omega), if_neg (by omega), if_pos (by omega), Nat.add_sub_cancel_left]
  · rw [if_neg h]
    by_cases h4 : i < 4
    · rw [if_pos h4, if_pos h4]
    · rw [if_neg h4, if_neg h4]
      by_cases h5 : i < 12
      · rw [if_pos h5, if_pos h5]
      · rw [if_neg h5, if_neg h5]
        by_cases h2 : 13 ≤ i ∧ i < 13 + t
        · rw [if_pos h2, if_pos (by omega)]
        · rw [if_neg h2, if_neg (by omega)]
theorem b2_zero (key : List UInt8) : b1 4 = b2 key 0 := by
  funext i; unfold b1 b2
  by_cases h : i < 4
  · rw [if_pos h, if_pos h]
  · rw [if_neg h, if_neg h, if_neg (by omega)]
theorem b3_zero (key nonce : List UInt8) : b2 key 8 = b3 key nonce 0 := by
  funext i; unfold b2 b3
  by_cases h : i < 4
  · rw [if_pos h, if_pos h]
  · rw [if_neg h, if_neg h]
    by_cases h2 : i < 12
    · rw [if_pos (by omega), if_pos h2]
    · rw [if_neg (by omega), if_neg h2, if_neg (by omega)]

set_option maxRecDepth 100000 in
set_option maxHeartbeats 4000000 in
theorem begun_any (key nonce : List UInt8) (w : World) (hk : key.length = 32) (hn : nonce.length = 12) :
    Calls Tryd.prog 107 #[.string ⟨key.toArray⟩, .string ⟨nonce.toArray⟩] w fun e w' => e = .returned (agg16 (begP key nonce)) ∧ Below w.heap.size w w' := by
  unfold agg16
  go_enter Tryd.func107, Tryd.ntmps107
  go_wp2_with fail
  refine abs_world ?_
  intro w1 hw1
  have hb0 : Blk w1 w.heap.size 144 (lit16 fun _ => 0) := by rw [hw1]; exact (Blk.new w _ _).alloc _
  have hb1 : Blk w1 (w.heap.size + 1) 144 (lit16 fun _ => 0) := by rw [hw1]; exact Blk.new_at _ _ _ _ _ (by simp) rfl
  have hl1 : Below w.heap.size w w1 := by rw [hw1]; exact ((Below.refl _ _).alloc (Nat.le_refl _) _).alloc (by simp) _
  clear hw1
  obtain ⟨g, hg⟩ : ∃ g, g = w.heap.size + 1 := ⟨_, rfl⟩
  rw [← hg] at hb1 ⊢
  have Hb0 := Lib.hid hb0
  have Hb1 := Lib.hid hb1
  have Hl1 := Lib.hid hl1
  have Hg := Lib.hid hg
  have Hk := Lib.hid hk
  have Hn := Lib.hid hn
  clear hb0 hb1 hl1 hg hk hn
  go_loopw [10] (fun i wr => ∃ j : Nat, i = .int .i64 j ∧ j ≤ 4 ∧ Blk wr g 144 (lit16 (b1 j)) ∧ Only g w1 wr) (fun i _ => 4 - (intOf i).toNat)
  case atStart => exact ⟨0, rfl, by omega, Hb1.out, Only.refl _ _⟩
  case round =>
    obtain ⟨j, rfl, hj, hb, ho⟩ := hrel
    by_cases h4 : j < 4
    · have hd4 : decide ((j : Int) < 4) = true := by simp; omega
      have c0 := (hb.cell j).trans (lit16_at _ j (by omega))
      have f0 := hb.frozen j
      have hq := word_any cst (4 * j) (by simp [cst]; omega) (by decide)
      push_cast at hq
      have Hb := Lib.hid hb
      have Ho := Lib.hid ho
      have Hq := Lib.hid hq
      clear hb ho hq
      go_wp2_with fail
      refine (Hq.out _).mono ?_
      rintro e w3 ⟨rfl, nn, rfl⟩
      go_wp2
      go_roundw
      case rel =>
        refine ⟨j + 1, by go_num, by omega, ?_, (Ho.out.drewN nn).set_ _ _⟩
        have := (Hb.out.drewN nn).set_ j (.int .u32 (I32 (le4 cst (4 * j))))
        rw [lit16_set, b1_upd] at this
        exact this
      case measure => simp [intOf]; omega
    · have hd4 : decide ((j : Int) < 4) = false := by simp; omega
      have hj4 : j = 4 := by omega
      rw [hj4, b2_zero key] at hb
      have Hb := Lib.hid hb
      have Ho := Lib.hid ho
      clear hb ho hj4
      go_wp2_with fail
      go_loopw [19] (fun i wr => ∃ j : Nat, i = .int .i64 j ∧ j ≤ 8 ∧ Blk wr g 144 (lit16 (b2 key j)) ∧ Only g w1 wr) (fun i _ => 8 - (intOf i).toNat)
      case atStart => exact ⟨0, rfl, by omega, Hb.out, Ho.out⟩
      case round =>
        obtain ⟨k, rfl, hk8, hb, ho⟩ := hrel
        by_cases h8 : k < 8
        · have hd8 : decide ((k : Int) < 8) = true := by simp; omega
          have c0 := (hb.cell (4 + k)).trans (lit16_at _ (4 + k) (by omega))
          have f0 := hb.frozen (4 + k)
          have hq := word_any key (4 * k) (by have := Hk.out; omega) (by have := Hk.out; omega)
          push_cast at hq
          have Hb2 := Lib.hid hb
          have Ho2 := Lib.hid ho
          have Hq := Lib.hid hq
          clear hb ho hq
          go_wp2_with fail
          refine (Hq.out _).mono ?_
          rintro e w3 ⟨rfl, nn, rfl⟩
          go_wp2
          go_roundw
          case rel =>
            refine ⟨k + 1, by go_num, by omega, ?_, (Ho2.out.drewN nn).set_ _ _⟩
            have := (Hb2.out.drewN nn).set_ (4 + k) (.int .u32 (I32 (le4 key (4 * k))))
            rw [lit16_set, b2_upd] at this
            exact this
          case measure => simp [intOf]; omega
        · have hd8 : decide ((k : Int) < 8) = false := by simp; omega
          have hj8 : k = 8 := by omega
          rw [hj8, b3_zero key nonce] at hb
          have Hb3 := Lib.hid hb
          have Ho3 := Lib.hid ho
          clear hb ho hj8
          go_wp2_with fail
          go_loopw [30] (fun i wr => ∃ j : Nat, i = .int .i64 j ∧ j ≤ 3 ∧ Blk wr g 144 (lit16 (b3 key nonce j)) ∧ Only g w1 wr) (fun i _ => 3 - (intOf i).toNat)
          case atStart => exact ⟨0, rfl, by omega, Hb3.out, Ho3.out⟩
          case round =>
            obtain ⟨m, rfl, hm3, hb, ho⟩ := hrel
            by_cases h3 : m < 3
            · have hd3 : decide ((m : Int) < 3) = true := by simp; omega
              have c0 := (hb.cell (13 + m)).trans (lit16_at _ (13 + m) (by omega))
              have f0 := hb.frozen (13 + m)
              have hq := word_any nonce (4 * m) (by have := Hn.out; omega) (by have := Hn.out; omega)
              push_cast at hq
              have Hb4 := Lib.hid hb
              have Ho4 := Lib.hid ho
              have Hq := Lib.hid hq
              clear hb ho hq
              go_wp2_with fail
              refine (Hq.out _).mono ?_
              rintro e w3 ⟨rfl, nn, rfl⟩
              go_wp2
              go_roundw
              case rel =>
                refine ⟨m + 1, by go_num, by omega, ?_, (Ho4.out.drewN nn).set_ _ _⟩
                have := (Hb4.out.drewN nn).set_ (13 + m) (.int .u32 (I32 (le4 nonce (4 * m))))
                rw [lit16_set, b3_upd] at this
                exact this
              case measure => simp [intOf]; omega
            · have hd3 : decide ((m : Int) < 3) = false := by simp; omega
              have hm3 : m = 3 := by omega
              rw [hm3] at hb
              have hg0 : w.heap.size ≠ g := by have := Hg.out; omega
              have hr0 := ho.blk Hb0.out hg0
              have hi : (Tryd.prog.info? 144).map (·.size) = some (lit16 (begP key nonce)).size := by rw [lit16_size]; exact info16
              have hB : Below w.heap.size w wr := Hl1.out.trans (ho.below (by have := Hg.out; omega) (by have := Hb0.out.lt; omega))
              have HR : Hid (Blk wr g 144 (lit16 (begP key nonce))) := Lib.hid hb
              have Hr0 := Lib.hid hr0
              have Hi := Lib.hid hi
              have HB := Lib.hid hB
              clear hb ho hr0 hi hB hm3
              go_wp2_with (first
                | (refine wpList_load_row rfl 144 (.tmp 5) rfl g rfl 144 (lit16 (begP key nonce)) (0, 0) _ HR.out Tryd.underlying144 rfl Hi.out ?_)
                | (refine wpList_store_row rfl 144 (.tmp 4) (.tmp 41) rfl w.heap.size (lit16 (begP key nonce)) rfl rfl 144 (lit16 fun _ => 0) Hr0.out Hi.out (by rw [lit16_size, lit16_size]) (lit16_one _) ?_))
              refine bodyPost_ret (v := .agg (lit16 (begP key nonce))) (results_cell_row (t := 144) (fr := (0, 0)) rfl _ _ w.heap.size _ _ rfl (setRow_heap _ _ _ _ _ _ Hr0.out) Tryd.underlying144 rfl Hi.out) rfl ⟨rfl, ?_⟩
              exact below_setRow HB.out (Nat.le_refl _) _

end Go.Proofs.YtoankokkdmbjmaaDoor
