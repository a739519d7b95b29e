/- The walk of the reference's block. -/
import Derived.Test.YtoankokkdmbjmaaDoorRa
import Derived.Test.YtoankokkdmbjmaaDoorCb
namespace Go.Proofs.YtoankokkdmbjmaaDoor
open Go.RowKit Go.Lib

/-- the first j of a word's four bytes, the lowest first -/
def nb (n : UInt32) (j : Nat) : List UInt8 := (List.range j).map fun t => UInt8.ofNat (n.toNat / 256 ^ t)
theorem nb_succ (n : UInt32) (j : Nat) : nb n (j + 1) = nb n j ++ [UInt8.ofNat (n.toNat / 256 ^ j)] := by
  unfold nb; rw [List.range_succ, List.map_append]; rfl
theorem nb_length (n : UInt32) (j : Nat) : (nb n j).length = j := by simp [nb]
theorem gb_left {x y : List UInt8} {j : Nat} (h : j < x.length) : gb (x ++ y) j = gb x j := by
  unfold gb; rw [List.getD_eq_getElem?_getD, List.getD_eq_getElem?_getD, List.getElem?_append_left h]
theorem gb_right {x y : List UInt8} {j : Nat} (h : x.length ≤ j) : gb (x ++ y) j = gb y (j - x.length) := by
  unfold gb; rw [List.getD_eq_getElem?_getD, List.getD_eq_getElem?_getD, List.getElem?_append_right h]
theorem le4_left {x y : List UInt8} {j : Nat} (h : j + 4 ≤ x.length) : le4 (x ++ y) j = le4 x j := by
  unfold le4; rw [gb_left (by omega), gb_left (by omega), gb_left (by omega), gb_left (by omega)]
theorem le4_right {x y : List UInt8} {j : Nat} (h : x.length ≤ j) : le4 (x ++ y) j = le4 y (j - x.length) := by
  unfold le4
  rw [gb_right (by omega), gb_right (by omega), gb_right (by omega), gb_right (by omega), show j + 1 - x.length = j - x.length + 1 by omega, show j + 2 - x.length = j - x.length + 2 by omega, show j + 3 - x.length = j - x.length + 3 by omega]
theorem le4_nb (n : UInt32) : le4 (nb n 4) 0 = n := by
  have h : nb n 4 = [UInt8.ofNat (n.toNat / 256 ^ 0), UInt8.ofNat (n.toNat / 256 ^ 1), UInt8.ofNat (n.toNat / 256 ^ 2), UInt8.ofNat (n.toNat / 256 ^ 3)] := rfl
  have hn : n.toNat < 4294967296 := n.toNat_lt
  apply UInt32.toNat_inj.1
  unfold le4
  rw [h]
  simp only [gb, List.getD_cons_zero, List.getD_cons_succ, UInt8.toNat_ofNat', UInt32.toNat_ofNat']
  simp only [Nat.reducePow, Nat.pow_zero, Nat.pow_one, Nat.div_one]
  omega
/-- what the reference puts together -/
def AL (key nonce : List UInt8) (n : UInt32) : List UInt8 := cst ++ (key ++ (nb n 4 ++ nonce))
theorem AL_length (key nonce : List UInt8) (n : UInt32) (hk : key.length = 32) (hn : nonce.length = 12) : (AL key nonce n).length = 64 := by
  simp [AL, cst, nb_length, hk, hn]
theorem AL_word (key nonce : List UInt8) (n : UInt32) (hk : key.length = 32) (i : Nat) (hi : i < 16) : le4 (AL key nonce n) (4 * i) = upd (begP key nonce) 12 n i := by
  have hc : cst.length = 16 := rfl
  unfold AL upd begP b3
  by_cases h4 : i < 4
  · rw [if_neg (by omega), if_pos h4, le4_left (by omega)]
  · rw [le4_right (by omega)]
    by_cases h12 : i < 12
    · rw [if_neg (by omega), if_neg h4, if_pos h12, le4_left (by omega)]
      congr 1
      omega
    · rw [le4_right (by omega)]
      by_cases he : i = 12
      · rw [if_pos he, le4_left (by rw [nb_length]; omega)]
        have : 4 * i - cst.length - key.length = 0 := by omega
        rw [this, le4_nb]
      · rw [if_neg he, if_neg h4, if_neg h12, if_pos (by omega), le4_right (by rw [nb_length]; omega)]
        congr 1
        rw [nb_length]
        omega
/-- the words, the first t of them made -/
def rW (l : List UInt8) (t i : Nat) : UInt32 := if i < t then le4 l (4 * i) else 0
theorem rW_upd (l : List UInt8) (t : Nat) : upd (rW l t) t (le4 l (4 * t)) = rW l (t + 1) := by
  funext i; unfold upd rW
  by_cases h : i = t
  · subst h; simp
  · by_cases h2 : i < t
    · rw [if_neg h, if_pos h2, if_pos (by omega)]
    · rw [if_neg h, if_neg h2, if_neg (by omega)]
theorem lit16_congr {s s2 : Nat → UInt32} (h : ∀ i, i < 16 → s i = s2 i) : lit16 s = lit16 s2 := by
  unfold lit16
  rw [h 0 (by omega), h 1 (by omega), h 2 (by omega), h 3 (by omega), h 4 (by omega), h 5 (by omega), h 6 (by omega), h 7 (by omega), h 8 (by omega), h 9 (by omega), h 10 (by omega), h 11 (by omega), h 12 (by omega), h 13 (by omega), h 14 (by omega), h 15 (by omega)]
theorem le4_sum (a b c d : UInt8) : (((I8 a + 256 * I8 b % 4294967296) % 4294967296 + 65536 * I8 c % 4294967296) % 4294967296 + 16777216 * I8 d % 4294967296) % 4294967296 = I32 (UInt32.ofNat (a.toNat + 256 * b.toNat + 65536 * c.toNat + 16777216 * d.toNat)) := by
  have ha := a.toNat_lt
  have hb := b.toNat_lt
  have hc := c.toNat_lt
  have hd := d.toNat_lt
  rw [I32_ofNat (by omega)]
  unfold I8
  omega

theorem I8_back (u : UInt8) : UInt8.ofNat (I8 u).toNat = u := by
  show UInt8.ofNat u.toNat = u
  exact UInt8.ofNat_toNat
theorem tm0 (X : UInt32) : (I32 X).tmod 256 % 256 = I8 (UInt8.ofNat X.toNat) := by
  rw [← u32_byte0, Int.tmod_eq_emod_of_nonneg (I32_nonneg X)]
  omega
theorem tm1 (X : UInt32) (d : Nat) : (I32 X).tdiv (d : Int) % 256 = I8 (UInt8.ofNat (X.toNat / d)) := by
  rw [← u32_byte, Int.tdiv_eq_ediv_of_nonneg (I32_nonneg X)]
theorem u8_mod (m : Nat) : UInt8.ofNat (m % 256) = UInt8.ofNat m := by
  apply UInt8.toNat_inj.1
  rw [UInt8.toNat_ofNat', UInt8.toNat_ofNat']
  omega
set_option maxRecDepth 100000 in
set_option maxHeartbeats 2000000 in
theorem rblock_any (key nonce : List UInt8) (n : UInt32) (w : World) (hk : key.length = 32) (hn : nonce.length = 12) :
    Calls Tryd.prog 102 #[.string ⟨key.toArray⟩, .string ⟨nonce.toArray⟩, .int .u32 (I32 n)] w fun e w' => e = .returned (.string ⟨(blkP (begP key nonce) n).toArray⟩) ∧ Below w.heap.size w w' := by
  obtain ⟨L0, hL0⟩ : ∃ L0, L0 = cst ++ key := ⟨_, rfl⟩
  have ha0 : ∀ W, (Op.stringOp .add ⟨#[101, 120, 112, 97, 110, 100, 32, 51, 50, 45, 98, 121, 116, 101, 32, 107]⟩ ⟨key.toArray⟩).run Tryd.prog W = .ok (.string ⟨L0.toArray⟩) W := fun W => by
    rw [hL0]; exact str_add cst key (by rw [hk]; decide) W
  have HL0 := Lib.hid hL0
  clear hL0
  have Hk := Lib.hid hk
  have Hn := Lib.hid hn
  clear hk hn
  go_enter Tryd.func102, Tryd.ntmps102
  go_wp2_with fail
  clear ha0
  go_loopw [2, 7, 8] (fun m all iv wr => ∃ j : Nat, iv = .int .i64 j ∧ j ≤ 4 ∧ all = .string ⟨(L0 ++ nb n j).toArray⟩ ∧ m = .int .u32 ((n.toNat / 256 ^ j : Nat) : Int) ∧ Below w.heap.size w wr) (fun _ _ i _ => 4 - (intOf i).toNat)
  case atStart => exact ⟨0, rfl, by omega, by simp [nb], by simp [I32], Below.refl _ _⟩
  case round =>
    obtain ⟨j, rfl, hj, rfl, rfl, hl⟩ := hrel
    obtain ⟨M, hM⟩ : ∃ M, M = n.toNat / 256 ^ j := ⟨_, rfl⟩
    have hMlt : M < 4294967296 := by rw [hM]; exact Nat.lt_of_le_of_lt (Nat.div_le_self _ _) n.toNat_lt
    obtain ⟨L, hL⟩ : ∃ L, L = L0 ++ nb n j := ⟨_, rfl⟩
    rw [← hM, ← hL]
    have HM := Lib.hid hM
    have HL := Lib.hid hL
    have Hl := Lib.hid hl
    clear hM hL hl
    by_cases h4 : j < 4
    · have hd4 : decide ((j : Int) < 4) = true := by simp; omega
      obtain ⟨LN, hLN⟩ : ∃ LN, LN = L ++ [UInt8.ofNat (M % 256)] := ⟨_, rfl⟩
      have ha1 : ∀ W, (Op.stringOp .add ⟨L.toArray⟩ ⟨#[UInt8.ofNat (M % 256)]⟩).run Tryd.prog W = .ok (.string ⟨LN.toArray⟩) W := fun W => by
        rw [hLN]; exact str_add L [UInt8.ofNat (M % 256)] (by rw [HL.out, HL0.out]; have := Hk.out; simp [cst, nb_length]; omega) W
      have HLN := Lib.hid hLN
      clear hLN
      go_wp2_with fail
      go_roundw
      case rel =>
        refine ⟨j + 1, by go_num, by omega, ?_, ?_, Hl.out.alloc Hl.out.size _⟩
        · rw [HLN.out, HL.out, nb_succ, HM.out, List.append_assoc, u8_mod]
        · rw [HM.out, Nat.pow_succ, ← Nat.div_div_eq_div_mul]; rfl
      case measure => simp [intOf]; omega
    · have hd4 : decide ((j : Int) < 4) = false := by simp; omega
      have hj4 : j = 4 := by omega
      have hLl : L.length = 52 := by rw [HL.out, HL0.out, hj4]; have := Hk.out; simp [cst, nb_length, this]
      obtain ⟨Z, hZ⟩ : ∃ Z, Z = L ++ nonce := ⟨_, rfl⟩
      have ha2 : ∀ W, (Op.stringOp .add ⟨L.toArray⟩ ⟨nonce.toArray⟩).run Tryd.prog W = .ok (.string ⟨Z.toArray⟩) W := fun W => by
        rw [hZ]; exact str_add L nonce (by have := Hn.out; omega) W
      have hZ2 : Z = AL key nonce n := by rw [hZ, HL.out, HL0.out, hj4]; simp [AL]
      have hZl : Z.length = 64 := by rw [hZ2]; exact AL_length _ _ _ Hk.out Hn.out
      have hZi : (Z.length : Int) = 64 := by omega
      have HZ := Lib.hid hZ2
      have HZl := Lib.hid hZl
      clear hZ hZ2 hZl hLl hj4
      go_wp2_with fail
      refine abs_world ?_
      intro w1 hw1
      obtain ⟨g, hg⟩ : ∃ g, g = wr.heap.size := ⟨_, rfl⟩
      rw [← hg]
      have hb1 : Blk w1 g 143 (lit16 (rW Z 0)) := by rw [hw1, hg]; exact Blk.new_at _ _ _ _ _ rfl rfl
      have hB1 : Below w.heap.size w w1 := by rw [hw1]; exact Hl.out.alloc Hl.out.size _
      have hgw : w.heap.size ≤ g := by rw [hg]; exact Hl.out.size
      have Hb1 := Lib.hid hb1
      have HB1 := Lib.hid hB1
      clear hw1 hb1 hB1 hg ha2
      go_loopw [10] (fun iv w2 => ∃ j : Nat, iv = .int .i64 j ∧ j ≤ 16 ∧ Blk w2 g 143 (lit16 (rW Z j)) ∧ Below w.heap.size w w2) (fun i _ => 16 - (intOf i).toNat)
      case atStart => exact ⟨0, rfl, by omega, Hb1.out, HB1.out⟩
      case round =>
        obtain ⟨t, rfl, ht, hb, hB⟩ := hrel
        by_cases h16 : t < 16
        · have hd16 : decide ((t : Int) < 16) = true := by simp; omega
          have ht16 : (t : Int) < 16 := by omega
          have b0 : 4 * (t : Int) < 64 := by omega
          have b1 : 4 * (t : Int) + 1 < 64 := by omega
          have b2 : 4 * (t : Int) + 2 < 64 := by omega
          have b3 : 4 * (t : Int) + 3 < 64 := by omega
          have g0 : (0 : Int) ≤ 4 * (t : Int) := by omega
          have g1 : (0 : Int) ≤ 4 * (t : Int) + 1 := by omega
          have g2 : (0 : Int) ≤ 4 * (t : Int) + 2 := by omega
          have g3 : (0 : Int) ≤ 4 * (t : Int) + 3 := by omega
          have e0 : (4 * (t : Int)).toNat = 4 * t := by omega
          have e1 : (4 * (t : Int) + 1).toNat = 4 * t + 1 := by omega
          have e2 : (4 * (t : Int) + 2).toNat = 4 * t + 2 := by omega
          have e3 : (4 * (t : Int) + 3).toNat = 4 * t + 3 := by omega
          have hsum := le4_sum (gb Z (4 * t)) (gb Z (4 * t + 1)) (gb Z (4 * t + 2)) (gb Z (4 * t + 3))
          have c0 := (hb.cell t).trans (lit16_at _ t h16)
          have f0 := hb.frozen t
          have Hb := Lib.hid hb
          have HB := Lib.hid hB
          clear hb hB
          go_wp2_with fail
          go_region
          refine abs_q ?_
          intro w3 hw3
          have hb3 : Blk w3 g 143 (lit16 (rW Z (t + 1))) := by
            rw [hw3]
            have := (Hb.out.set_ t (.int .u32 (I32 (le4 Z (4 * t))))).drewN 1
            rw [lit16_set, rW_upd] at this
            exact this
          have hB3 : Below w.heap.size w w3 := by rw [hw3]; exact below_drewN' (below_set HB.out hgw _ _) 1
          clear hw3
          have Hb3 := Lib.hid hb3
          have HB3 := Lib.hid hB3
          clear hb3 hB3
          go_wp2_with fail
          refine ⟨⟨t + 1, by go_num, by omega, Hb3.out, HB3.out⟩, by simp [intOf]; omega⟩
        · have hd16 : decide ((t : Int) < 16) = false := by simp; omega
          have ht16 : t = 16 := by omega
          obtain ⟨S, hS⟩ : ∃ S, S = upd (begP key nonce) 12 n := ⟨_, rfl⟩
          have hSS : lit16 (rW Z t) = lit16 S := lit16_congr fun i hi => by
            rw [ht16, hS]; unfold rW; rw [if_pos hi, HZ.out, AL_word key nonce n Hk.out i hi]
          rw [hSS] at hb
          have hi16 : ∀ S : Nat → UInt32, (Tryd.prog.info? 143).map (·.size) = some (lit16 S).size := fun S => by rw [lit16_size]; exact infoR
          have Hi := Lib.hid hi16
          have Hb := Lib.hid hb
          have HB := Lib.hid hB
          have HS := Lib.hid hS
          clear hb hB hS hSS hi16 ht16
          go_wp2_with (first
            | (refine wpList_load_row rfl 143 (.tmp 9) rfl g rfl 143 (lit16 S) (0, 0) _ Hb.out Tryd.underlying143 rfl (Hi.out _) ?_)
            | (refine wpList_store_row rfl 143 (.tmp 11) (.tmp 69) rfl wr.heap.size (lit16 S) rfl rfl 143 (lit16 fun _ => 0) (Blk.new_at _ _ _ _ _ rfl rfl) (Hi.out _) (by rw [lit16_size, lit16_size]) (lit16_one _) ?_))
          refine abs_world ?_
          intro w3 hw3
          obtain ⟨g2, hg2e⟩ : ∃ g2, g2 = wr.heap.size := ⟨_, rfl⟩
          rw [← hg2e]
          have hgg : g ≠ g2 := by have := Hb.out.lt; omega
          have hg2 : w.heap.size ≤ g2 := by rw [hg2e]; exact HB.out.size
          have hx3 : Blk w3 g2 143 (lit16 S) := by rw [hw3, hg2e]; exact setRow_heap _ _ _ _ _ _ (Blk.new wr 143 (lit16 fun _ => 0))
          have hy3 : Blk w3 g 143 (lit16 S) := by rw [hw3]; exact (setRow_other _ _ _ _ (by rw [← hg2e]; exact hgg)).trans (Hb.out.alloc _)
          have hB3 : Below w.heap.size w w3 := by rw [hw3]; exact below_setRow (HB.out.alloc HB.out.size _) (by rw [← hg2e]; exact hg2) _
          have HX3 := Lib.hid hx3
          have HY3 := Lib.hid hy3
          have HB3 := Lib.hid hB3
          clear hw3 hx3 hy3 hB3 hg2e
          go_loopw [12] (fun iv w4 => ∃ q : Nat, iv = .int .i64 q ∧ q ≤ 10 ∧ Blk w4 g2 143 (lit16 (dbl S q)) ∧ Blk w4 g 143 (lit16 S) ∧ Below w.heap.size w w4) (fun i _ => 10 - (intOf i).toNat)
          case atStart => exact ⟨0, rfl, by omega, HX3.out, HY3.out, HB3.out⟩
          case round =>
            obtain ⟨q, rfl, hq, hx, hy, hB⟩ := hrel
            by_cases h10 : q < 10
            · have hd10 : decide ((q : Int) < 10) = true := by simp; omega
              obtain ⟨D0, hD0⟩ : ∃ D, D = dbl S q := ⟨_, rfl⟩
              rw [← hD0] at hx
              have HD0 := Lib.hid hD0
              have HX0 := Lib.hid hx
              have HY0 := Lib.hid hy
              have HW0 := Lib.hid hB
              clear hD0 hx hy hB
              go_wp2_with (refine wpList_load_row rfl 143 (.tmp 11) rfl g2 rfl 143 (lit16 D0) (0, 0) _ HX0.out Tryd.underlying143 rfl (Hi.out _) ?_)
              refine (at_any D0 0 4 8 12 _ (by omega) (by omega) (by omega) (by omega) (by omega) (by omega) (by omega) (by omega) (by omega) (by omega)).mono ?_
              rintro e W1 ⟨rfl, hl1⟩
              obtain ⟨D1, hD1⟩ : ∃ D, D = qat D0 0 4 8 12 := ⟨_, rfl⟩
              rw [← hD1]
              unfold agg16
              have hx1 : Blk W1 g2 143 (lit16 D0) := HX0.out.below hl1 HX0.out.lt
              have hy1 : Blk W1 g 143 (lit16 S) := HY0.out.below hl1 HY0.out.lt
              have hw1 : Below w.heap.size w W1 := HW0.out.trans (hl1.mono HW0.out.size)
              have HD1 := Lib.hid hD1
              have HX1 := Lib.hid hx1
              have HY1 := Lib.hid hy1
              have HW1 := Lib.hid hw1
              clear hD1 hx1 hy1 hw1 hl1
              go_wp2_with (first | (refine wpList_store_row rfl 143 (.tmp 11) (.tmp 75) rfl g2 (lit16 D1) rfl rfl 143 (lit16 D0) HX1.out (Hi.out _) (by rw [lit16_size, lit16_size]) (lit16_one _) ?_) | (refine wpList_load_row rfl 143 (.tmp 11) rfl g2 rfl 143 (lit16 D1) (0, 0) _ (setRow_heap _ _ _ _ _ _ HX1.out) Tryd.underlying143 rfl (Hi.out _) ?_))
              refine (at_any D1 1 5 9 13 _ (by omega) (by omega) (by omega) (by omega) (by omega) (by omega) (by omega) (by omega) (by omega) (by omega)).mono ?_
              rintro e W2 ⟨rfl, hl2⟩
              obtain ⟨D2, hD2⟩ : ∃ D, D = qat D1 1 5 9 13 := ⟨_, rfl⟩
              rw [← hD2]
              unfold agg16
              have hx2 : Blk W2 g2 143 (lit16 D1) := Blk.below (setRow_heap _ _ _ _ _ _ HX1.out) hl2 (by have := HX1.out.lt; simpa using this)
              have hy2 : Blk W2 g 143 (lit16 S) := Blk.below ((setRow_other _ _ _ _ hgg).trans HY1.out) hl2 (by have := HY1.out.lt; simpa using this)
              have hw2 : Below w.heap.size w W2 := (below_setRow HW1.out hg2 _).trans (hl2.mono (by have := HW1.out.size; simpa using this))
              have HD2 := Lib.hid hD2
              have HX2 := Lib.hid hx2
              have HY2 := Lib.hid hy2
              have HW2 := Lib.hid hw2
              clear hD2 hx2 hy2 hw2 hl2
              go_wp2_with (first | (refine wpList_store_row rfl 143 (.tmp 11) (.tmp 77) rfl g2 (lit16 D2) rfl rfl 143 (lit16 D1) HX2.out (Hi.out _) (by rw [lit16_size, lit16_size]) (lit16_one _) ?_) | (refine wpList_load_row rfl 143 (.tmp 11) rfl g2 rfl 143 (lit16 D2) (0, 0) _ (setRow_heap _ _ _ _ _ _ HX2.out) Tryd.underlying143 rfl (Hi.out _) ?_))
              refine (at_any D2 2 6 10 14 _ (by omega) (by omega) (by omega) (by omega) (by omega) (by omega) (by omega) (by omega) (by omega) (by omega)).mono ?_
              rintro e W3 ⟨rfl, hl3⟩
              obtain ⟨D3, hD3⟩ : ∃ D, D = qat D2 2 6 10 14 := ⟨_, rfl⟩
              rw [← hD3]
              unfold agg16
              have hx3 : Blk W3 g2 143 (lit16 D2) := Blk.below (setRow_heap _ _ _ _ _ _ HX2.out) hl3 (by have := HX2.out.lt; simpa using this)
              have hy3 : Blk W3 g 143 (lit16 S) := Blk.below ((setRow_other _ _ _ _ hgg).trans HY2.out) hl3 (by have := HY2.out.lt; simpa using this)
              have hw3 : Below w.heap.size w W3 := (below_setRow HW2.out hg2 _).trans (hl3.mono (by have := HW2.out.size; simpa using this))
              have HD3 := Lib.hid hD3
              have HX3 := Lib.hid hx3
              have HY3 := Lib.hid hy3
              have HW3 := Lib.hid hw3
              clear hD3 hx3 hy3 hw3 hl3
              go_wp2_with (first | (refine wpList_store_row rfl 143 (.tmp 11) (.tmp 79) rfl g2 (lit16 D3) rfl rfl 143 (lit16 D2) HX3.out (Hi.out _) (by rw [lit16_size, lit16_size]) (lit16_one _) ?_) | (refine wpList_load_row rfl 143 (.tmp 11) rfl g2 rfl 143 (lit16 D3) (0, 0) _ (setRow_heap _ _ _ _ _ _ HX3.out) Tryd.underlying143 rfl (Hi.out _) ?_))
              refine (at_any D3 3 7 11 15 _ (by omega) (by omega) (by omega) (by omega) (by omega) (by omega) (by omega) (by omega) (by omega) (by omega)).mono ?_
              rintro e W4 ⟨rfl, hl4⟩
              obtain ⟨D4, hD4⟩ : ∃ D, D = qat D3 3 7 11 15 := ⟨_, rfl⟩
              rw [← hD4]
              unfold agg16
              have hx4 : Blk W4 g2 143 (lit16 D3) := Blk.below (setRow_heap _ _ _ _ _ _ HX3.out) hl4 (by have := HX3.out.lt; simpa using this)
              have hy4 : Blk W4 g 143 (lit16 S) := Blk.below ((setRow_other _ _ _ _ hgg).trans HY3.out) hl4 (by have := HY3.out.lt; simpa using this)
              have hw4 : Below w.heap.size w W4 := (below_setRow HW3.out hg2 _).trans (hl4.mono (by have := HW3.out.size; simpa using this))
              have HD4 := Lib.hid hD4
              have HX4 := Lib.hid hx4
              have HY4 := Lib.hid hy4
              have HW4 := Lib.hid hw4
              clear hD4 hx4 hy4 hw4 hl4
              go_wp2_with (first | (refine wpList_store_row rfl 143 (.tmp 11) (.tmp 81) rfl g2 (lit16 D4) rfl rfl 143 (lit16 D3) HX4.out (Hi.out _) (by rw [lit16_size, lit16_size]) (lit16_one _) ?_) | (refine wpList_load_row rfl 143 (.tmp 11) rfl g2 rfl 143 (lit16 D4) (0, 0) _ (setRow_heap _ _ _ _ _ _ HX4.out) Tryd.underlying143 rfl (Hi.out _) ?_))
              refine (at_any D4 0 5 10 15 _ (by omega) (by omega) (by omega) (by omega) (by omega) (by omega) (by omega) (by omega) (by omega) (by omega)).mono ?_
              rintro e W5 ⟨rfl, hl5⟩
              obtain ⟨D5, hD5⟩ : ∃ D, D = qat D4 0 5 10 15 := ⟨_, rfl⟩
              rw [← hD5]
              unfold agg16
              have hx5 : Blk W5 g2 143 (lit16 D4) := Blk.below (setRow_heap _ _ _ _ _ _ HX4.out) hl5 (by have := HX4.out.lt; simpa using this)
              have hy5 : Blk W5 g 143 (lit16 S) := Blk.below ((setRow_other _ _ _ _ hgg).trans HY4.out) hl5 (by have := HY4.out.lt; simpa using this)
              have hw5 : Below w.heap.size w W5 := (below_setRow HW4.out hg2 _).trans (hl5.mono (by have := HW4.out.size; simpa using this))
              have HD5 := Lib.hid hD5
              have HX5 := Lib.hid hx5
              have HY5 := Lib.hid hy5
              have HW5 := Lib.hid hw5
              clear hD5 hx5 hy5 hw5 hl5
              go_wp2_with (first | (refine wpList_store_row rfl 143 (.tmp 11) (.tmp 83) rfl g2 (lit16 D5) rfl rfl 143 (lit16 D4) HX5.out (Hi.out _) (by rw [lit16_size, lit16_size]) (lit16_one _) ?_) | (refine wpList_load_row rfl 143 (.tmp 11) rfl g2 rfl 143 (lit16 D5) (0, 0) _ (setRow_heap _ _ _ _ _ _ HX5.out) Tryd.underlying143 rfl (Hi.out _) ?_))
              refine (at_any D5 1 6 11 12 _ (by omega) (by omega) (by omega) (by omega) (by omega) (by omega) (by omega) (by omega) (by omega) (by omega)).mono ?_
              rintro e W6 ⟨rfl, hl6⟩
              obtain ⟨D6, hD6⟩ : ∃ D, D = qat D5 1 6 11 12 := ⟨_, rfl⟩
              rw [← hD6]
              unfold agg16
              have hx6 : Blk W6 g2 143 (lit16 D5) := Blk.below (setRow_heap _ _ _ _ _ _ HX5.out) hl6 (by have := HX5.out.lt; simpa using this)
              have hy6 : Blk W6 g 143 (lit16 S) := Blk.below ((setRow_other _ _ _ _ hgg).trans HY5.out) hl6 (by have := HY5.out.lt; simpa using this)
              have hw6 : Below w.heap.size w W6 := (below_setRow HW5.out hg2 _).trans (hl6.mono (by have := HW5.out.size; simpa using this))
              have HD6 := Lib.hid hD6
              have HX6 := Lib.hid hx6
              have HY6 := Lib.hid hy6
              have HW6 := Lib.hid hw6
              clear hD6 hx6 hy6 hw6 hl6
              go_wp2_with (first | (refine wpList_store_row rfl 143 (.tmp 11) (.tmp 85) rfl g2 (lit16 D6) rfl rfl 143 (lit16 D5) HX6.out (Hi.out _) (by rw [lit16_size, lit16_size]) (lit16_one _) ?_) | (refine wpList_load_row rfl 143 (.tmp 11) rfl g2 rfl 143 (lit16 D6) (0, 0) _ (setRow_heap _ _ _ _ _ _ HX6.out) Tryd.underlying143 rfl (Hi.out _) ?_))
              refine (at_any D6 2 7 8 13 _ (by omega) (by omega) (by omega) (by omega) (by omega) (by omega) (by omega) (by omega) (by omega) (by omega)).mono ?_
              rintro e W7 ⟨rfl, hl7⟩
              obtain ⟨D7, hD7⟩ : ∃ D, D = qat D6 2 7 8 13 := ⟨_, rfl⟩
              rw [← hD7]
              unfold agg16
              have hx7 : Blk W7 g2 143 (lit16 D6) := Blk.below (setRow_heap _ _ _ _ _ _ HX6.out) hl7 (by have := HX6.out.lt; simpa using this)
              have hy7 : Blk W7 g 143 (lit16 S) := Blk.below ((setRow_other _ _ _ _ hgg).trans HY6.out) hl7 (by have := HY6.out.lt; simpa using this)
              have hw7 : Below w.heap.size w W7 := (below_setRow HW6.out hg2 _).trans (hl7.mono (by have := HW6.out.size; simpa using this))
              have HD7 := Lib.hid hD7
              have HX7 := Lib.hid hx7
              have HY7 := Lib.hid hy7
              have HW7 := Lib.hid hw7
              clear hD7 hx7 hy7 hw7 hl7
              go_wp2_with (first | (refine wpList_store_row rfl 143 (.tmp 11) (.tmp 87) rfl g2 (lit16 D7) rfl rfl 143 (lit16 D6) HX7.out (Hi.out _) (by rw [lit16_size, lit16_size]) (lit16_one _) ?_) | (refine wpList_load_row rfl 143 (.tmp 11) rfl g2 rfl 143 (lit16 D7) (0, 0) _ (setRow_heap _ _ _ _ _ _ HX7.out) Tryd.underlying143 rfl (Hi.out _) ?_))
              refine (at_any D7 3 4 9 14 _ (by omega) (by omega) (by omega) (by omega) (by omega) (by omega) (by omega) (by omega) (by omega) (by omega)).mono ?_
              rintro e W8 ⟨rfl, hl8⟩
              obtain ⟨D8, hD8⟩ : ∃ D, D = qat D7 3 4 9 14 := ⟨_, rfl⟩
              rw [← hD8]
              unfold agg16
              have hx8 : Blk W8 g2 143 (lit16 D7) := Blk.below (setRow_heap _ _ _ _ _ _ HX7.out) hl8 (by have := HX7.out.lt; simpa using this)
              have hy8 : Blk W8 g 143 (lit16 S) := Blk.below ((setRow_other _ _ _ _ hgg).trans HY7.out) hl8 (by have := HY7.out.lt; simpa using this)
              have hw8 : Below w.heap.size w W8 := (below_setRow HW7.out hg2 _).trans (hl8.mono (by have := HW7.out.size; simpa using this))
              have HD8 := Lib.hid hD8
              have HX8 := Lib.hid hx8
              have HY8 := Lib.hid hy8
              have HW8 := Lib.hid hw8
              clear hD8 hx8 hy8 hw8 hl8
              go_wp2_with (refine wpList_store_row rfl 143 (.tmp 11) (.tmp 89) rfl g2 (lit16 D8) rfl rfl 143 (lit16 D7) HX8.out (Hi.out _) (by rw [lit16_size, lit16_size]) (lit16_one _) ?_)
              have hE : dbl S (q + 1) = D8 := by
                rw [HD8.out, HD7.out, HD6.out, HD5.out, HD4.out, HD3.out, HD2.out, HD1.out, HD0.out]; rfl
              have HE := Lib.hid hE
              clear hE
              go_roundw
              case rel => exact ⟨q + 1, by go_num, by omega, by rw [HE.out]; exact setRow_heap _ _ _ _ _ _ HX8.out, (setRow_other _ _ _ _ hgg).trans HY8.out, below_setRow HW8.out hg2 _⟩
              case measure => simp [intOf]; omega
            · have hd10 : decide ((q : Int) < 10) = false := by simp; omega
              have hq10 : q = 10 := by omega
              rw [hq10] at hx
              have HX := Lib.hid hx
              have HY := Lib.hid hy
              have HW := Lib.hid hB
              clear hx hy hB hq10
              go_wp2_with fail
              go_loopw [13, 14] (fun o iv w4 => ∃ j : Nat, iv = .int .i64 j ∧ j ≤ 16 ∧ o = .string ⟨(outL (roundsP S) j).toArray⟩ ∧ Blk w4 g2 143 (lit16 (dbl S 10)) ∧ Blk w4 g 143 (lit16 S) ∧ Below w.heap.size w w4) (fun _ i _ => 16 - (intOf i).toNat)
              case atStart => exact ⟨0, rfl, by omega, rfl, HX.out, HY.out, HW.out⟩
              case round =>
                obtain ⟨j, rfl, hj, rfl, hx, hy, hB⟩ := hrel
                obtain ⟨O, hO⟩ : ∃ O, O = outL (roundsP S) j := ⟨_, rfl⟩
                rw [← hO]
                have hOl : O.length = 4 * j := by rw [hO, outL_length]
                have HO := Lib.hid hO
                have HOl := Lib.hid hOl
                clear hO hOl
                by_cases h16 : j < 16
                · have hd16 : decide ((j : Int) < 16) = true := by simp; omega
                  have hj16 : (j : Int) < 16 := by omega
                  have c0 := (hx.cell j).trans (lit16_at _ j h16)
                  have c1 := (hy.cell j).trans (lit16_at _ j h16)
                  have HX2 := Lib.hid hx
                  have HY2 := Lib.hid hy
                  have HW2 := Lib.hid hB
                  clear hx hy hB
                  go_wp2_with fail
                  go_quiet (fail)
                  clear c0 c1
                  refine abs_q ?_
                  intro w5 hw5
                  have hx5 : Blk w5 g2 143 (lit16 (dbl S 10)) := by rw [hw5]; exact HX2.out.drewN _
                  have hy5 : Blk w5 g 143 (lit16 S) := by rw [hw5]; exact HY2.out.drewN _
                  have hB5 : Below w.heap.size w w5 := by rw [hw5]; exact below_drewN' HW2.out _
                  have HX5 := Lib.hid hx5
                  have HY5 := Lib.hid hy5
                  have HB5 := Lib.hid hB5
                  clear hw5 hx5 hy5 hB5
                  obtain ⟨X, hX⟩ : ∃ X, X = dbl S 10 j + S j := ⟨_, rfl⟩
                  rw [← hX]
                  obtain ⟨u0, hu0⟩ : ∃ u, u = UInt8.ofNat X.toNat := ⟨_, rfl⟩
                  obtain ⟨u1, hu1⟩ : ∃ u, u = UInt8.ofNat (X.toNat / 256) := ⟨_, rfl⟩
                  obtain ⟨u2, hu2⟩ : ∃ u, u = UInt8.ofNat (X.toNat / 65536) := ⟨_, rfl⟩
                  obtain ⟨u3, hu3⟩ : ∃ u, u = UInt8.ofNat (X.toNat / 16777216) := ⟨_, rfl⟩
                  have t0 : (I32 X).tmod 256 % 256 = I8 u0 := by rw [hu0]; exact tm0 X
                  have t1 : (I32 X).tdiv 256 % 256 = I8 u1 := by rw [hu1]; exact tm1 X 256
                  have t2 : (I32 X).tdiv 65536 % 256 = I8 u2 := by rw [hu2]; exact tm1 X 65536
                  have t3 : (I32 X).tdiv 16777216 % 256 = I8 u3 := by rw [hu3]; exact tm1 X 16777216
                  have k0 := I8_back u0
                  have k1 := I8_back u1
                  have k2 := I8_back u2
                  have k3 := I8_back u3
                  obtain ⟨ON, hON⟩ : ∃ ON, ON = O ++ [u0, u1, u2, u3] := ⟨_, rfl⟩
                  have ha3 : ∀ W, (Op.stringOp .add ⟨O.toArray⟩ ⟨#[u0, u1, u2, u3]⟩).run Tryd.prog W = .ok (.string ⟨ON.toArray⟩) W := fun W => by
                    rw [hON]; exact str_add O [u0, u1, u2, u3] (by have := HOl.out; simp; omega) W
                  have hE : ON = outL (roundsP S) (j + 1) := by
                    have hr : roundsP S j = X := by rw [hX]; unfold roundsP addR; rw [if_pos h16]
                    rw [hON, HO.out, hu0, hu1, hu2, hu3, ← hr]; rfl
                  have HE := Lib.hid hE
                  clear hX hu0 hu1 hu2 hu3 hON hE
                  go_wp2_with fail
                  go_roundw
                  case rel => exact ⟨j + 1, by go_num, by omega, by rw [HE.out], HX5.out.alloc _, HY5.out.alloc _, HB5.out.alloc HB5.out.size _⟩
                  case measure => simp [intOf]; omega
                · have hd16 : decide ((j : Int) < 16) = false := by simp; omega
                  have hj16 : j = 16 := by omega
                  have hF : blkP (begP key nonce) n = O := by rw [HO.out, hj16, HS.out]; rfl
                  have HF := Lib.hid hF
                  have HW2 := Lib.hid hB
                  clear hx hy hB hF hj16
                  go_wp2_with fail
                  go_ret
                  exact ⟨by rw [HF.out]; rfl, HW2.out⟩
end Go.Proofs.YtoankokkdmbjmaaDoor
