/- The contracts of mac. -/
import Derived.Test.YtgkhdpplmdkkaaaMb
namespace Go.Proofs.Ytgkhdpplmdkkaaa
open Go.RowKit Go.Lib

/-- a key as a block of 64, each byte turned by n -/
def kb (key : List UInt8) : List UInt8 := if 64 < key.length then dig key else key
def kpad (key : List UInt8) (n : UInt8) (j : Nat) : UInt8 := gt (kb key) j ^^^ n
def kblk (key : List UInt8) (n : UInt8) : List UInt8 := (List.range 64).map (kpad key n)
theorem kblk_length (key : List UInt8) (n : UInt8) : (kblk key n).length = 64 := by simp [kblk]
theorem kb_length (key : List UInt8) : (kb key).length ≤ 64 := by
  unfold kb; split
  · rw [dig_length]; omega
  · omega
/-- the row under way: turned up to i -/
def kRow (key : List UInt8) (n : UInt8) (i : Nat) : Array Value := ((List.range 64).map fun j => Value.int .u8 (I8 (if j < i then kpad key n j else gt (kb key) j))).toArray

theorem kRow_size (key : List UInt8) (n : UInt8) (i : Nat) : (kRow key n i).size = 64 := by simp [kRow]
theorem kRow_at (key : List UInt8) (n : UInt8) (i j : Nat) (hj : j < 64) : (kRow key n i)[j]? = some (.int .u8 (I8 (if j < i then kpad key n j else gt (kb key) j))) := by
  unfold kRow; rw [List.getElem?_toArray, List.getElem?_map, List.getElem?_range hj]; rfl
theorem kRow_set (key : List UInt8) (n : UInt8) (i : Nat) (hi : i < 64) : (kRow key n i).setIfInBounds i (.int .u8 (I8 (gt (kb key) i ^^^ n))) = kRow key n (i + 1) := by
  apply Array.ext_getElem?
  intro j
  rw [Array.getElem?_setIfInBounds]
  by_cases h : j < 64
  · rw [kRow_at _ _ _ _ h, kRow_at _ _ _ _ h]
    by_cases e : i = j
    · subst e; simp [kRow_size, h, kpad]
    · rw [if_neg e]
      by_cases h2 : j < i
      · rw [if_pos h2, if_pos (by omega)]
      · rw [if_neg h2, if_neg (by omega)]
  · have h1 : (kRow key n i)[j]? = none := Array.getElem?_eq_none (by rw [kRow_size]; omega)
    have h2 : (kRow key n (i + 1))[j]? = none := Array.getElem?_eq_none (by rw [kRow_size]; omega)
    rw [h1, h2]
    split
    · omega
    · rfl
theorem kRow_zero (key : List UInt8) (n : UInt8) : (bv (kb key) ++ (List.replicate 64 (Value.int .u8 0)).drop (kb key).length).toArray = kRow key n 0 := by
  apply Array.ext_getElem?
  intro j
  have hk := kb_length key
  by_cases h : j < 64
  · rw [kRow_at _ _ _ _ h, if_neg (by omega), List.getElem?_toArray]
    by_cases h2 : j < (kb key).length
    · rw [List.getElem?_append_left (by rw [bv_length]; exact h2), bv_at, List.getElem?_eq_getElem h2]
      unfold gt
      rw [List.getD_eq_getElem?_getD, List.getElem?_eq_getElem h2]
      rfl
    · rw [List.getElem?_append_right (by rw [bv_length]; omega), bv_length, List.getElem?_drop, List.getElem?_replicate, if_pos (by omega)]
      unfold gt
      rw [List.getD_eq_getElem?_getD, List.getElem?_eq_none (by omega)]
      rfl
  · have h2 : (kRow key n 0)[j]? = none := Array.getElem?_eq_none (by rw [kRow_size]; omega)
    rw [h2, List.getElem?_toArray, List.getElem?_eq_none]
    simp [bv_length]; omega
theorem u8_bits_xor (x y : UInt8) : bits .xor .u8 (I8 x) (I8 y) = I8 (x ^^^ y) := by
  unfold I8; rw [u8_xor_nat _ _ x.toNat_lt y.toNat_lt, UInt8.toNat_xor]

set_option maxRecDepth 100000 in
set_option maxHeartbeats 2000000 in
theorem turned_any (key : List UInt8) (n : UInt8) (w : World) (hk : key.length ≤ 1099511627776) :
    Calls Try.prog 87 #[.string ⟨key.toArray⟩, .int .u8 (I8 n)] w fun e w' => ∃ g, e = .returned (.slice (some ⟨g, 0, none⟩) 64 64) ∧ Blk w' g 164 (kRow key n 64) ∧ Below w.heap.size w w' ∧ w.heap.size ≤ g := by
  go_enter Try.func87, Try.ntmps87
  by_cases h64 : 64 < key.length
  · go_wp2_with fail
    refine (ssum_any key (some ⟨w.heap.size, 0, none⟩) w.heap.size 0 (bcap w key) (bw w key) (fun j hj => by rw [Nat.zero_add]; refine bw_cell w key j _ ?_; unfold gt; rw [List.getD_eq_getElem?_getD, List.getElem?_eq_getElem hj]; rfl) (fun _ => ⟨rfl, bcap_le w key⟩) (by rw [bw_size]; omega) hk).mono ?_
    rintro e w1 ⟨rfl, hl1⟩
    have hkb : kb key = dig key := by unfold kb; rw [if_pos h64]
    have hkl : (dig key).length ≤ 64 := by rw [dig_length]; omega
    have HLL : Below w.heap.size w w1 := (bw_below w key).trans (hl1.mono (by rw [bw_size]; omega))
    have HLs := Lib.hid HLL
    have Hkb := Lib.hid hkb
    clear hl1 HLL hkb
    go_wp2_with (refine wpList_copy_str rfl (.tmp 13) (.tmp 14) rfl w1.heap.size 64 64 (dig key) _ _ rfl rfl (Blk.new w1 _ _) hkl (by simp; exact hkl) ?_)
    refine abs_world ?_
    intro w2 hw2
    have hb2 : Blk w2 w1.heap.size 164 (kRow key n 0) := by
      rw [hw2, ← kRow_zero key n, Hkb.out]
      exact setRow_heap _ _ _ _ _ _ (Blk.new w1 _ _)
    have hl2 : Below w.heap.size w w2 := by
      rw [hw2]
      exact below_setRow (HLs.out.alloc HLs.out.size _) HLs.out.size _
    clear hw2
    have Hb2 := Lib.hid hb2
    have Hl2 := Lib.hid hl2
    clear hb2 hl2
    go_loopw [16] (fun i wr => ∃ j : Nat, i = .int .i64 j ∧ j ≤ 64 ∧ Blk wr w1.heap.size 164 (kRow key n j) ∧ Below w.heap.size w wr) (fun i _ => 64 - (intOf i).toNat)
    case atStart => exact ⟨0, rfl, by omega, Hb2.out, Hl2.out⟩
    case round =>
      obtain ⟨j, rfl, hj, hb, hl⟩ := hrel
      by_cases h8 : j < 64
      · have hc := (hb.cell j).trans (kRow_at key n j j h8)
        rw [if_neg (by omega)] at hc
        have hf := hb.frozen j
        have hx := u8_bits_xor (gt (kb key) j) n
        have Hb := Lib.hid hb
        have Hl := Lib.hid hl
        clear hb hl
        go_wp2
        go_roundw
        case rel =>
          refine ⟨j + 1, by go_num, by omega, ?_, below_set Hl.out HLs.out.size _ _⟩
          have := Hb.out.set_ j (.int .u8 (I8 (gt (kb key) j ^^^ n)))
          rwa [kRow_set key n j h8] at this
        case measure => simp [intOf]; omega
      · obtain rfl : j = 64 := by omega
        have Hb := Lib.hid hb
        have Hl := Lib.hid hl
        clear hb hl
        go_wp2
        go_ret
        exact ⟨_, rfl, Hb.out, Hl.out, HLs.out.size⟩
  · have hkl : key.length ≤ 64 := by omega
    have hkb : kb key = key := by unfold kb; rw [if_neg h64]
    have Hkb := Lib.hid hkb
    clear hkb
    go_wp2_with (refine wpList_copy_str rfl (.tmp 13) (.tmp 14) rfl w.heap.size 64 64 key _ _ rfl rfl (Blk.new w _ _) hkl (by simp; exact hkl) ?_)
    refine abs_world ?_
    intro w2 hw2
    have hb2 : Blk w2 w.heap.size 164 (kRow key n 0) := by
      rw [hw2, ← kRow_zero key n, Hkb.out]
      exact setRow_heap _ _ _ _ _ _ (Blk.new w _ _)
    have hl2 : Below w.heap.size w w2 := by
      rw [hw2]
      exact below_setRow ((Below.refl w.heap.size w).alloc (Below.refl w.heap.size w).size _) (Below.refl w.heap.size w).size _
    clear hw2
    have Hb2 := Lib.hid hb2
    have Hl2 := Lib.hid hl2
    clear hb2 hl2
    go_loopw [16] (fun i wr => ∃ j : Nat, i = .int .i64 j ∧ j ≤ 64 ∧ Blk wr w.heap.size 164 (kRow key n j) ∧ Below w.heap.size w wr) (fun i _ => 64 - (intOf i).toNat)
    case atStart => exact ⟨0, rfl, by omega, Hb2.out, Hl2.out⟩
    case round =>
      obtain ⟨j, rfl, hj, hb, hl⟩ := hrel
      by_cases h8 : j < 64
      · have hc := (hb.cell j).trans (kRow_at key n j j h8)
        rw [if_neg (by omega)] at hc
        have hf := hb.frozen j
        have hx := u8_bits_xor (gt (kb key) j) n
        have Hb := Lib.hid hb
        have Hl := Lib.hid hl
        clear hb hl
        go_wp2
        go_roundw
        case rel =>
          refine ⟨j + 1, by go_num, by omega, ?_, below_set Hl.out (Below.refl w.heap.size w).size _ _⟩
          have := Hb.out.set_ j (.int .u8 (I8 (gt (kb key) j ^^^ n)))
          rwa [kRow_set key n j h8] at this
        case measure => simp [intOf]; omega
      · obtain rfl : j = 64 := by omega
        have Hb := Lib.hid hb
        have Hl := Lib.hid hl
        clear hb hl
        go_wp2
        go_ret
        exact ⟨_, rfl, Hb.out, Hl.out, (Below.refl w.heap.size w).size⟩

theorem kRow_cell {key : List UInt8} {n : UInt8} {w : World} {g : Nat} (h : Blk w g 164 (kRow key n 64)) : ∀ j, j < (kblk key n).length → w.cell? ⟨g, 0 + j, none⟩ = some (.int .u8 (I8 (gt (kblk key n) j))) := fun j hj => by
  rw [kblk_length] at hj
  rw [Nat.zero_add, h.cell j, kRow_at _ _ _ _ hj, if_pos hj]
  unfold gt kblk
  rw [List.getD_eq_getElem?_getD, List.getElem?_map, List.getElem?_range hj]
  rfl
theorem Dig.below_size {w w' : World} {g base : Nat} {T : List UInt8} {N : Nat} {A : Option Addr} {cap : Nat} (h : Dig w g base T N A cap) (hl : Below w.heap.size w w') : Dig w' g base T N A cap :=
  ⟨h.blk.below hl h.blk.lt, h.own.below_size hl⟩
theorem Dig.own_lt {w : World} {g base : Nat} {T : List UInt8} {N : Nat} {A : Option Addr} {cap : Nat} (h : Dig w g base T N A cap) : ∀ a, A = some a → a.block < w.heap.size := by
  rintro a rfl
  exact (World.ownsRow.lt h.own a.block rfl).2

/-- Write of []byte(s) -/
theorem write_str (g base : Nat) (m0 l : List UInt8) (A0 : Option Addr) (cap0 : Nat) (w : World) (hd : Dig w g base m0 m0.length A0 cap0) (hbase : base ≤ w.heap.size) (hgb : base ≤ g) (hlen : m0.length + l.length ≤ 1099511627776) :
    Calls Try.prog 86 #[.pointer (some ⟨g, 0, none⟩), .slice (some ⟨w.heap.size, 0, none⟩) l.length (bcap w l)] (bw w l) fun e w' =>
      e = .returned (.tuple #[]) ∧ Below base w w' ∧ ∃ A cap, Dig w' g base (m0 ++ l) (m0 ++ l).length A cap := by
  have hd' := hd.below_size (bw_below w l)
  have hlt := hd.blk.lt
  refine (write_any g base m0 l A0 (some ⟨w.heap.size, 0, none⟩) cap0 w.heap.size 0 (bcap w l) (bw w l) hd' (fun j hj => by rw [Nat.zero_add]; refine bw_cell w l j _ ?_; unfold gt; rw [List.getD_eq_getElem?_getD, List.getElem?_eq_getElem hj]; rfl) (fun _ => ⟨rfl, bcap_le w l⟩) (by omega)
    (fun a ha => by have := hd.own_lt a ha; omega) (by rw [bw_size]; omega) hgb hlen).mono ?_
  rintro e w' ⟨rfl, hl, A, cap, hd2⟩
  exact ⟨rfl, ((bw_below w l).mono hbase).trans hl, A, cap, by rw [List.length_append]; exact hd2⟩

/-- Write of a key's block -/
theorem write_key (g base : Nat) (m0 key : List UInt8) (n : UInt8) (gk : Nat) (A0 : Option Addr) (cap0 : Nat) (w : World) (hd : Dig w g base m0 m0.length A0 cap0) (hk : Blk w gk 164 (kRow key n 64)) (hgk : gk ≠ g) (hA : ∀ a, A0 = some a → a.block ≠ gk)
    (hbase : base ≤ w.heap.size) (hgb : base ≤ g) (hlen : m0.length + 64 ≤ 1099511627776) :
    Calls Try.prog 86 #[.pointer (some ⟨g, 0, none⟩), .slice (some ⟨gk, 0, none⟩) 64 64] w fun e w' =>
      e = .returned (.tuple #[]) ∧ Below base w w' ∧ ∃ A cap, Dig w' g base (m0 ++ kblk key n) (m0 ++ kblk key n).length A cap := by
  have h := write_any g base m0 (kblk key n) A0 (some ⟨gk, 0, none⟩) cap0 gk 0 64 w hd (kRow_cell hk) (fun _ => ⟨rfl, by rw [kblk_length]; omega⟩) hgk hA hbase hgb (by rw [kblk_length]; exact hlen)
  rw [kblk_length] at h
  refine h.mono ?_
  rintro e w' ⟨rfl, hl, A, cap, hd2⟩
  exact ⟨rfl, hl, A, cap, by rw [List.length_append, kblk_length]; exact hd2⟩

/-- the seal -/
def sealB (key m : List UInt8) : List UInt8 := dig (kblk key 92 ++ dig (kblk key 54 ++ m))
theorem seal_length (key m : List UInt8) : (sealB key m).length = 32 := dig_length _

set_option maxRecDepth 100000 in
set_option maxHeartbeats 2000000 in
theorem seal_any (key m : List UInt8) (w : World) (hk : key.length ≤ 1099511627776) (hm : m.length ≤ 549755813888) :
    Calls Try.prog 58 #[.string ⟨key.toArray⟩, .string ⟨m.toArray⟩] w fun e w' => e = .returned (.string ⟨(sealB key m).toArray⟩) ∧ Below w.heap.size w w' := by
  go_enter Try.func58, Try.ntmps58
  go_wp2_with fail
  refine (newsha_any _).mono ?_
  rintro e w1 ⟨g1, rfl, hb1, hl1, hg1⟩
  have hd1 : Dig w1 g1 w.heap.size [] 0 none 0 := ⟨by rw [wArr_iv] at hb1; exact hb1, OwnB.nil _ _⟩
  have Hd1 := Lib.hid hd1
  have Hl1 := Lib.hid hl1
  clear hb1 hd1 hl1
  go_wp2_with fail
  refine (turned_any key 54 w1 hk).mono ?_
  rintro e w2 ⟨k2, rfl, hk2, hl2, hg2⟩
  have hne2 : k2 ≠ g1 := by have := Hd1.out.blk.lt; omega
  have hl2w : Below w.heap.size w w2 := Hl1.out.trans (hl2.mono Hl1.out.size)
  have hd2 := Hd1.out.below_size hl2
  have Hk2 := Lib.hid hk2
  have Hl2 := Lib.hid hl2w
  have Hd2 := Lib.hid hd2
  clear hk2 hl2 hl2w hd2
  go_wp2_with fail
  refine (write_key g1 w.heap.size [] key 54 k2 none 0 w2 Hd2.out Hk2.out hne2 (by simp) Hl2.out.size hg1 (by simp)).mono ?_
  rintro e w3 ⟨rfl, hl3, A3, c3, hd3⟩
  have hl3w : Below w.heap.size w w3 := Hl2.out.trans hl3
  have Hl3 := Lib.hid hl3w
  have Hd3 := Lib.hid hd3
  clear hl3 hl3w hd3
  go_wp2_with fail
  refine (write_str g1 w.heap.size _ m A3 c3 w3 Hd3.out Hl3.out.size hg1 (by simp [kblk_length]; omega)).mono ?_
  rintro e w4 ⟨rfl, hl4, A4, c4, hd4⟩
  have hl4w : Below w.heap.size w w4 := Hl3.out.trans hl4
  have Hl4 := Lib.hid hl4w
  have Hd4 := Lib.hid hd4
  clear hl4 hl4w hd4
  go_wp2_with fail
  refine (newsha_any _).mono ?_
  rintro e w5 ⟨g2, rfl, hb5, hl5, hg5⟩
  have hd5 : Dig w5 g2 w4.heap.size [] 0 none 0 := ⟨by rw [wArr_iv] at hb5; exact hb5, OwnB.nil _ _⟩
  have Hd5 := Lib.hid hd5
  have Hl5 := Lib.hid hl5
  clear hb5 hd5 hl5
  go_wp2_with fail
  refine (turned_any key 92 w5 hk).mono ?_
  rintro e w6 ⟨k6, rfl, hk6, hl6, hg6⟩
  have hne6 : k6 ≠ g2 := by have := Hd5.out.blk.lt; omega
  have hl6w : Below w4.heap.size w4 w6 := Hl5.out.trans (hl6.mono Hl5.out.size)
  have hd6 := Hd5.out.below_size hl6
  have Hk6 := Lib.hid hk6
  have Hl6 := Lib.hid hl6w
  have Hd6 := Lib.hid hd6
  clear hk6 hl6 hl6w hd6
  go_wp2_with fail
  refine (write_key g2 w4.heap.size [] key 92 k6 none 0 w6 Hd6.out Hk6.out hne6 (by simp) Hl6.out.size hg5 (by simp)).mono ?_
  rintro e w7 ⟨rfl, hl7, A7, c7, hd7⟩
  have hl7w : Below w4.heap.size w4 w7 := Hl6.out.trans hl7
  have hd47 := Hd4.out.below_size hl7w
  have Hl7 := Lib.hid hl7w
  have Hd7 := Lib.hid hd7
  have Hd47 := Lib.hid hd47
  clear hl7 hl7w hd7 hd47
  go_wp2_with fail
  refine (hsum_any g1 w.heap.size _ A4 c4 w7 Hd47.out (by simp [kblk_length]; omega)).mono ?_
  rintro e w8 ⟨rfl, hl8⟩
  have hl8w : Below w4.heap.size w4 w8 := Hl7.out.trans (hl8.mono Hl7.out.size)
  have hd8 := Hd7.out.below_size hl8
  have Hl8 := Lib.hid hl8w
  have Hd8 := Lib.hid hd8
  clear hl8 hl8w hd8
  go_wp2_with fail
  refine (write_str g2 w4.heap.size _ _ A7 c7 w8 Hd8.out Hl8.out.size hg5 (by simp [kblk_length, dig_length])).mono ?_
  rintro e w9 ⟨rfl, hl9, A9, c9, hd9⟩
  have hl9w : Below w4.heap.size w4 w9 := Hl8.out.trans hl9
  have Hl9 := Lib.hid hl9w
  have Hd9 := Lib.hid hd9
  clear hl9 hl9w hd9
  go_wp2_with fail
  refine (hsum_any g2 w4.heap.size _ A9 c9 w9 Hd9.out (by simp [kblk_length, dig_length])).mono ?_
  rintro e w10 ⟨rfl, hl10⟩
  have Hl10 := Lib.hid hl10
  clear hl10
  go_wp2
  go_ret
  refine ⟨by simp [sealB], ?_⟩
  have h1 : Below w.heap.size w w9 := Hl4.out.trans (Hl9.out.mono Hl4.out.size)
  exact h1.trans (Hl10.out.mono h1.size)

end Go.Proofs.Ytgkhdpplmdkkaaa
