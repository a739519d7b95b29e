/- The walks of cipher's New and Next. -/
import Derived.Test.YtoankokkdmbjmaaDoorCb
import Derived.Test.YtoankokkdmbjmaaDoorJb
namespace Go.Proofs.YtoankokkdmbjmaaDoor
open Go.RowKit Go.Lib

/-- the cells of a stream: its words, the last block's number, what is left of it -/
def strC (S : Nat → UInt32) (n : UInt32) (r : Value) : Array Value := lit16 S ++ #[.int .u32 (I32 n), r]
section
variable {S : Nat → UInt32} {n m : UInt32} {r q : Value}
theorem strC_w {j : Nat} (h : j < 16) : (strC S n r)[j]? = some (.int .u32 (I32 (S j))) := by
  unfold strC; rw [Array.getElem?_append_left (by rw [lit16_size]; exact h)]; exact lit16_at S j h
theorem strC_n : (strC S n r)[16]? = some (.int .u32 (I32 n)) := rfl
theorem strC_r : (strC S n r)[17]? = some r := rfl
theorem strC_set_n : (strC S n r).setIfInBounds 16 (.int .u32 (I32 m)) = strC S m r := rfl
theorem strC_set_r : (strC S n r).setIfInBounds 17 q = strC S n q := rfl
end

/-- the stream's byte at place q -/
def ks (S : Nat → UInt32) (q : Nat) : UInt8 := gb (blkP S (UInt32.ofNat (q / 64 + 1))) (q % 64)

/-- a stream that has given p bytes -/
structure Strm (w : World) (g : Nat) (S : Nat → UInt32) (p : Nat) (A : Option Addr) (c : Nat) : Prop where
  blk : Blk w g 147 (strC S (UInt32.ofNat ((p + 63) / 64)) (.slice A (63 - (p + 63) % 64) c))
  rest : p % 64 ≠ 0 → ∃ g2, A = some ⟨g2, p % 64, none⟩ ∧ g2 ≠ g ∧ g2 < w.heap.size ∧ 64 - p % 64 ≤ c ∧ ∀ j, j < 64 → w.cell? ⟨g2, j, none⟩ = some (.int .u8 (I8 (gb (blkP S (UInt32.ofNat ((p + 63) / 64))) j)))

theorem Strm.only {w w' : World} {g k : Nat} {S : Nat → UInt32} {p : Nat} {A : Option Addr} {c : Nat} (h : Strm w g S p A c) (ho : Only k w w') (hk : g ≠ k) (hA : p % 64 ≠ 0 → ∀ a, A = some a → a.block ≠ k) : Strm w' g S p A c := by
  refine ⟨ho.blk h.blk hk, fun hp => ?_⟩
  obtain ⟨g2, rfl, h2, h3, h4, h5⟩ := h.rest hp
  refine ⟨g2, rfl, h2, Nat.lt_of_lt_of_le h3 ho.size, h4, fun j hj => ?_⟩
  have hne : g2 ≠ k := hA hp _ rfl
  exact ho.cell (h5 j hj) hne
theorem Strm.below {w w' : World} {g : Nat} {S : Nat → UInt32} {p : Nat} {A : Option Addr} {c : Nat} (h : Strm w g S p A c) (ho : Below w.heap.size w w') : Strm w' g S p A c := by
  refine ⟨h.blk.below ho h.blk.lt, fun hp => ?_⟩
  obtain ⟨g2, rfl, h2, h3, h4, h5⟩ := h.rest hp
  exact ⟨g2, rfl, h2, Nat.lt_of_lt_of_le h3 ho.size, h4, fun j hj => (ho.cell (p := ⟨g2, j, none⟩) h3).trans (h5 j hj)⟩

set_option maxRecDepth 100000 in
set_option maxHeartbeats 2000000 in
theorem right_any (key nonce : List UInt8) (w : World) :
    Calls Tryd.prog 106 #[.string ⟨key.toArray⟩, .string ⟨nonce.toArray⟩] w fun e w' => e = .returned (.bool (decide (key.length = 32 ∧ nonce.length = 12))) ∧ w' = w := by
  by_cases hk : key.length = 32
  · have hk2 : ((key.length : Int) == 32) = true := by simp; omega
    by_cases hn : nonce.length = 12
    · have hn2 : ((nonce.length : Int) == 12) = true := by simp; omega
      have Hk := Lib.hid hk
      have Hn := Lib.hid hn
      clear hk hn
      go_enter Tryd.func106, Tryd.ntmps106
      go_wp2_with fail
      go_ret
      exact ⟨ret_bool (by rw [Hk.out, Hn.out]; rfl), rfl⟩
    · have hn2 : ((nonce.length : Int) == 12) = false := by rw [beq_eq_false_iff_ne]; omega
      have Hk := Lib.hid hk
      have Hn := Lib.hid hn
      clear hk hn
      go_enter Tryd.func106, Tryd.ntmps106
      go_wp2_with fail
      go_ret
      exact ⟨ret_bool (by have := Hn.out; simp [this]), rfl⟩
  · have hk2 : ((key.length : Int) == 32) = false := by rw [beq_eq_false_iff_ne]; omega
    have Hk := Lib.hid hk
    clear hk
    go_enter Tryd.func106, Tryd.ntmps106
    go_wp2_with fail
    go_ret
    exact ⟨ret_bool (by have := Hk.out; simp [this]), rfl⟩

set_option maxRecDepth 100000 in
set_option maxHeartbeats 2000000 in
/-- New of a wrong key or nonce -/
theorem new_bad (key nonce : List UInt8) (w : World) (h : ¬ (key.length = 32 ∧ nonce.length = 12)) :
    Calls Tryd.prog 99 #[.string ⟨key.toArray⟩, .string ⟨nonce.toArray⟩] w fun e w' => e = .returned (.tuple #[.pointer none, .int .i64 1]) ∧ w' = w := by
  have H := Lib.hid h
  clear h
  go_enter Tryd.func99, Tryd.ntmps99
  go_wp2_with fail
  refine (right_any key nonce _).mono ?_
  rintro e w' ⟨rfl, rfl⟩
  have hd : decide (key.length = 32 ∧ nonce.length = 12) = false := by simp only [decide_eq_false_iff_not]; exact H.out
  rw [hd]
  go_wp2_with fail
  go_ret2
  exact ⟨rfl, rfl⟩

theorem zeros_strm (S : Nat → UInt32) : Array.foldl (fun cs x => cs.setIfInBounds x.snd x.fst) #[Value.int .u32 0, Value.int .u32 0, Value.int .u32 0, Value.int .u32 0, Value.int .u32 0, Value.int .u32 0, Value.int .u32 0, Value.int .u32 0, Value.int .u32 0, Value.int .u32 0, Value.int .u32 0, Value.int .u32 0, Value.int .u32 0, Value.int .u32 0, Value.int .u32 0, Value.int .u32 0, Value.int .u32 0, Value.slice none 0 0] (lit16 S).zipIdx 0 16 = strC S 0 (.slice none 0 0) := by kernel_rfl

set_option maxRecDepth 100000 in
set_option maxHeartbeats 2000000 in
theorem new_any (key nonce : List UInt8) (w : World) (hk : key.length = 32) (hn : nonce.length = 12) :
    Calls Tryd.prog 99 #[.string ⟨key.toArray⟩, .string ⟨nonce.toArray⟩] w fun e w' => ∃ g, e = .returned (.tuple #[.pointer (some ⟨g, 0, none⟩), .int .i64 0]) ∧ Strm w' g (begP key nonce) 0 none 0 ∧ Below w.heap.size w w' ∧ w.heap.size ≤ g := by
  have Hk := Lib.hid hk
  have Hn := Lib.hid hn
  clear hk hn
  go_enter Tryd.func99, Tryd.ntmps99
  go_wp2_with fail
  refine (right_any key nonce _).mono ?_
  rintro e w' ⟨rfl, rfl⟩
  have hd : decide (key.length = 32 ∧ nonce.length = 12) = true := by simp only [decide_eq_true_iff]; exact ⟨Hk.out, Hn.out⟩
  rw [hd]
  go_wp2_with fail
  refine (begun_any key nonce _ Hk.out Hn.out).mono ?_
  rintro e w1 ⟨rfl, hl1⟩
  have Hl1 := Lib.hid hl1
  clear hl1
  unfold agg16
  generalize hS : lit16 (begP key nonce) = SS
  have HS := Lib.hid hS
  have hs : SS.size = 16 := by rw [← hS, lit16_size]
  clear hS
  go_wp2_with fail
  rw [← HS.out, zeros_strm]
  go_ret2
  exact ⟨w1.heap.size, rfl, ⟨Blk.new _ _ _, fun h => absurd rfl h⟩, Hl1.out.alloc Hl1.out.size _, Hl1.out.size⟩

theorem key0 {q : Nat} (h : q % 64 = 0) : UInt32.ofNat ((q + 63) / 64) + 1 = UInt32.ofNat ((q + 1 + 63) / 64) := by
  rw [show (q + 1 + 63) / 64 = (q + 63) / 64 + 1 by omega]
  apply UInt32.toNat_inj.1
  simp [UInt32.toNat_add]

theorem Strm.next {w3 : World} {g go g2 o r c i q : Nat} {S : Nat → UInt32} {m1 : UInt32} {A A' : Option Addr} {v : Value} (hb : Blk w3 g 147 (strC S m1 (.slice A r c))) (hm : m1 = UInt32.ofNat ((q + 1 + 63) / 64)) (hq : q % 64 = o)
    (hcell : ∀ j, j < 64 → w3.cell? ⟨g2, j, none⟩ = some (.int .u8 (I8 (gb (blkP S m1) j)))) (h2g : g2 ≠ g) (h2o : g2 ≠ go) (hgo : g ≠ go) (hlt : g2 < w3.heap.size) (hc : 64 - o ≤ c) (hA : o < 63 → A' = some ⟨g2, o + 1, none⟩) {l d : Nat} (hl : l = 63 - o) (hd : d = c - 1) :
    Strm ((w3.setCell ⟨go, i, none⟩ v).setCell ⟨g, 17, none⟩ (.slice A' l d)) g S (q + 1) A' d := by
  subst hl hd
  refine ⟨?_, fun hp => ?_⟩
  · have := (hb.far (p := ⟨go, i, none⟩) hgo v).set_ 17 (.slice A' (63 - o) (c - 1))
    rw [strC_set_r, hm] at this
    rw [show 63 - (q + 1 + 63) % 64 = 63 - o by omega]
    exact this
  · have ho : o < 63 := by omega
    rw [hA ho]
    refine ⟨g2, by rw [show (q + 1) % 64 = o + 1 by omega], h2g, by simpa [World.setCell] using hlt, by omega, fun j hj => ?_⟩
    rw [cell_ne (Ne.symm h2g |> Ne.symm), cell_ne h2o, ← hm]
    exact hcell j hj

set_option maxRecDepth 100000 in
set_option maxHeartbeats 4000000 in
theorem next_some (g : Nat) (S : Nat → UInt32) (p : Nat) (A0 : Option Addr) (c0 : Nat) (bs : List UInt8) (bb ob cb : Nat) (w : World) (hs : Strm w g S p A0 c0)
    (hb : ∀ j, j < bs.length → w.cell? ⟨bb, ob + j, none⟩ = some (.int .u8 (I8 (gt bs j)))) (_hcb : bs.length ≤ cb) (hbg : bb ≠ g) (hlen : bs.length ≤ 1099511627776) :
    Calls Tryd.prog 100 #[.pointer (some ⟨g, 0, none⟩), .slice (some ⟨bb, ob, none⟩) bs.length cb] w fun e w' =>
      ∃ go A1 c1, e = .returned (.slice (some ⟨go, 0, none⟩) bs.length bs.length) ∧ Blk w' go 5 (zRow (fun j => gt bs j ^^^ ks S (p + j)) bs.length bs.length) ∧ w.heap.size ≤ go ∧ Strm w' g S (p + bs.length) A1 c1 ∧ Only g w w' := by
  obtain ⟨n, hn⟩ : ∃ n, n = bs.length := ⟨_, rfl⟩
  rw [← hn] at hb _hcb hlen ⊢
  obtain ⟨X, hX⟩ : ∃ X, X = fun j => gt bs j ^^^ ks S (p + j) := ⟨_, rfl⟩
  rw [← hX]
  have hm := make_any X n n (Nat.le_refl _) hlen
  have Hs := Lib.hid hs
  have Hb := Lib.hid hb
  have Hn := Lib.hid hn
  have HX := Lib.hid hX
  clear hs hb hn hX
  go_enter Tryd.func100, Tryd.ntmps100
  go_wp2_with fail
  refine abs_world ?_
  intro w1 hw1
  obtain ⟨go, hgo⟩ : ∃ go, go = w.heap.size := ⟨_, rfl⟩
  rw [← hgo]
  have hbo : Blk w1 go 5 (zRow X 0 n) := by rw [hw1, hgo]; exact Blk.new _ _ _
  have ho1 : Only g w w1 := by rw [hw1]; exact (Only.refl g w).alloc _
  have hs1 : Strm w1 g S p A0 c0 := Hs.out.below (by rw [hw1]; exact (Below.refl _ _).alloc (Nat.le_refl _) _)
  have hgg : g ≠ go := by have := Hs.out.blk.lt; omega
  have hne1 : p % 64 ≠ 0 → ∀ a, A0 = some a → a.block ≠ go := by
    rintro hp a rfl
    obtain ⟨g2, h1, _, h3, _⟩ := Hs.out.rest hp
    injection h1 with h1
    subst h1
    show g2 ≠ go
    omega
  have Hgo := Lib.hid hgo
  have Hbo := Lib.hid hbo
  have Ho1 := Lib.hid ho1
  have Hs1 := Lib.hid hs1
  have Hne1 := Lib.hid hne1
  clear hw1 hbo ho1 hs1 hne1 hgo hm
  go_loopw [15] (fun iv wr => ∃ (i : Nat) (A1 : Option Addr) (c1 : Nat), iv = .int .i64 i ∧ i ≤ n ∧ Blk wr go 5 (zRow X i n) ∧ Strm wr g S (p + i) A1 c1 ∧ ((p + i) % 64 ≠ 0 → ∀ a, A1 = some a → a.block ≠ go) ∧ Only g w wr) (fun i _ => n - (intOf i).toNat)
  case atStart => exact ⟨0, A0, c0, rfl, by omega, Hbo.out, Hs1.out, Hne1.out, Ho1.out⟩
  case round =>
    obtain ⟨i, A1, c1, rfl, hi, hbo, hst, hne, ho⟩ := hrel
    by_cases hin : i < n
    · have hd : decide ((i : Int) < (n : Int)) = true := by simp; omega
      have hin' : (i : Int) < (n : Int) := by omega
      have hci : wr.cell? ⟨bb, ob + i, none⟩ = some (.int .u8 (I8 (gt bs i))) := ho.cell (Hb.out i hin) hbg
      obtain ⟨q, hq⟩ : ∃ q, q = p + i := ⟨_, rfl⟩
      rw [← hq] at hst hne
      have Hq := Lib.hid hq
      have Ho := Lib.hid ho
      clear hq ho
      obtain ⟨m, hm⟩ : ∃ m, m = UInt32.ofNat ((q + 63) / 64) := ⟨_, rfl⟩
      have hbk := hst.blk
      rw [← hm] at hbk
      by_cases hq0 : q % 64 = 0
      · rw [show 63 - (q + 63) % 64 = 0 by omega] at hbk
        have c16 := (hbk.cell 16).trans strC_n
        have c17 := (hbk.cell 17).trans strC_r
        have f16 := hbk.frozen 16
        have Hbk := Lib.hid hbk
        have Hst := Lib.hid hst
        have Hne := Lib.hid hne
        have Hbo2 := Lib.hid hbo
        have Hm := Lib.hid hm
        have Hq0 := Lib.hid hq0
        clear hbk hst hne hbo hm hq0
        go_wp2_with fail
        refine abs_world ?_
        intro w2 hw2
        have hb2 : Blk w2 g 147 (strC S (m + 1) (.slice A1 0 c1)) := by
          rw [hw2]
          have := Hbk.out.set_ 16 (.int .u32 (I32 (m + 1)))
          rwa [strC_set_n] at this
        have hbo2 : Blk w2 go 5 (zRow X i n) := by rw [hw2]; exact Hbo2.out.far (Ne.symm hgg) _
        have ho2 : Only g w w2 := by rw [hw2]; exact Ho.out.set_ _ _
        clear hw2 c16 c17 f16
        obtain ⟨m1, hm1⟩ : ∃ m1, m1 = m + 1 := ⟨_, rfl⟩
        rw [← hm1] at hb2
        have Hm1 := Lib.hid hm1
        clear hm1
        have s0 := (hb2.cell 0).trans (strC_w (by omega))
        have s1 := (hb2.cell 1).trans (strC_w (by omega))
        have s2 := (hb2.cell 2).trans (strC_w (by omega))
        have s3 := (hb2.cell 3).trans (strC_w (by omega))
        have s4 := (hb2.cell 4).trans (strC_w (by omega))
        have s5 := (hb2.cell 5).trans (strC_w (by omega))
        have s6 := (hb2.cell 6).trans (strC_w (by omega))
        have s7 := (hb2.cell 7).trans (strC_w (by omega))
        have s8 := (hb2.cell 8).trans (strC_w (by omega))
        have s9 := (hb2.cell 9).trans (strC_w (by omega))
        have s10 := (hb2.cell 10).trans (strC_w (by omega))
        have s11 := (hb2.cell 11).trans (strC_w (by omega))
        have s12 := (hb2.cell 12).trans (strC_w (by omega))
        have s13 := (hb2.cell 13).trans (strC_w (by omega))
        have s14 := (hb2.cell 14).trans (strC_w (by omega))
        have s15 := (hb2.cell 15).trans (strC_w (by omega))
        have s16 := (hb2.cell 16).trans strC_n
        have Hb2 := Lib.hid hb2
        have Hbo3 := Lib.hid hbo2
        have Ho2 := Lib.hid ho2
        clear hb2 hbo2 ho2
        go_region_law (go_simp; go_at_call 108; refine (block_any S m1 (World.drew w2)).mono ?_; rintro e8 w8 ⟨A2, c2, rfl, ho8, hl8⟩; clear s0 s1 s2 s3 s4 s5 s6 s7 s8 s9 s10 s11 s12 s13 s14 s15 s16; have hb8 := (Hb2.out.drewN 1).below hl8 Hb2.out.lt; have f17 := hb8.frozen 17; have e17 := (hb8.cell 17).trans strC_r; have Hb8 := Lib.hid hb8; have Ho8 := Lib.hid ho8; have Hl8 := Lib.hid hl8; clear hb8 ho8 hl8)
        all_goals
          refine abs_q ?_
          intro w3 hw3
          have hf : ∃ g2, A2 = some ⟨g2, 0, none⟩ ∧ 64 ≤ c2 ∧ w2.heap.size ≤ g2 ∧ g2 < w8.heap.size := by
            rcases Ho8.out.2 with ⟨_, h0⟩ | ⟨g', cap', cur, hv', hb', hh', hnc, _⟩
            · rw [blkP_length] at h0; omega
            · injection hv' with h1 h2 h3
              subst h1 h3
              rw [blkP_length] at hnc
              exact ⟨g', rfl, hnc, hb', (World.ownsRow.lt Ho8.out g' rfl).2⟩
          obtain ⟨g2, rfl, hc2, hg2, hlt2⟩ := hf
          have h2g : g2 ≠ g := by have := Hb2.out.lt; omega
          have h2o : g2 ≠ go := by have := Hbo3.out.lt; omega
          have hb3 : Blk w3 g 147 (strC S m1 (.slice (some ⟨g2, 0, none⟩) 64 c2)) := by
            rw [hw3]
            have := Hb8.out.set_ 17 (.slice (some ⟨g2, 0, none⟩) 64 c2)
            rwa [strC_set_r] at this
          have hbo3 : Blk w3 go 5 (zRow X i n) := by rw [hw3]; exact ((Hbo3.out.drewN 1).below Hl8.out Hbo3.out.lt).far (Ne.symm hgg) _
          have ho3 : Only g w w3 := by rw [hw3]; exact ((Ho2.out.drewN 1).low Hl8.out).set_ _ _
          have hcell3 : ∀ j, j < 64 → w3.cell? ⟨g2, j, none⟩ = some (.int .u8 (I8 (gb (blkP S m1) j))) := fun j hj => by
            rw [hw3, cell_ne h2g]
            have := World.ownsRow.cells (g := g2) Ho8.out rfl j (.int .u8 (I8 (gb (blkP S m1) j))) (by
              rw [bv_at]; unfold gb; rw [List.getD_eq_getElem?_getD, List.getElem?_eq_getElem (by rw [blkP_length]; exact hj)]; rfl)
            have hadd : (⟨g2, 0, none⟩ : Addr).add j = ⟨g2, j, none⟩ := by unfold Addr.add; split <;> simp_all
            rwa [hadd] at this
          have hlt3 : g2 < w3.heap.size := by rw [hw3]; simpa [World.setCell] using hlt2
          clear hw3 f17 e17
          have hc1 : ¬ c2 = 1 := by omega
          have hm1 : m1 = UInt32.ofNat ((q + 1 + 63) / 64) := by rw [Hm1.out, Hm.out]; exact key0 Hq0.out
          have Hm2 := Lib.hid hm1
          clear hm1
          have k0 := hcell3 0 (by omega)
          have K1 := u8_bits_xor (gt bs i) (gb (blkP S m1) 0)
          have co := (hbo3.cell i).trans (zRow_at X i n i hin)
          have fo := hbo3.frozen i
          have d17 := (hb3.cell 17).trans strC_r
          have p17 := hb3.frozen 17
          have Hb3 := Lib.hid hb3
          have Hbo4 := Lib.hid hbo3
          have Ho3 := Lib.hid ho3
          have Hcell := Lib.hid hcell3
          clear hb3 hbo3 ho3 hcell3
          go_wp2_with fail
          go_roundw
          case rel =>
            refine ⟨i + 1, _, _, by go_num, by omega, ?_, Strm.next Hb3.out (by rw [Hm2.out, Hq.out]; try rfl) (by have h9 := Hq0.out; rw [Hq.out] at h9; exact h9) Hcell.out h2g h2o hgg hlt3 (by omega) (fun _ => rfl) rfl rfl, ?_, (Ho3.out.high (by have := Hgo.out; omega) _ _).set_ _ _⟩
            · have := (Hbo4.out.set_ i (.int .u8 (I8 (X i)))).far (p := ⟨g, 17, none⟩) (Ne.symm hgg) (.slice (some ⟨g2, 1, none⟩) 63 (c2 - 1))
              rw [zRow_set X i n hin] at this
              have hXi : X i = gt bs i ^^^ gb (blkP S m1) 0 := by rw [HX.out]; exact congrArg (gt bs i ^^^ ·) (by rw [← Hq.out]; exact by unfold ks; rw [Hq0.out, Hm2.out, show (q + 1 + 63) / 64 = q / 64 + 1 by omega])
              rw [hXi] at this
              exact this
            · intro _ a ha
              injection ha with ha; subst ha; exact h2o
          case measure => simp [intOf]; omega
      · obtain ⟨g2, hA1, h2g, hlt2, hc2, hcell2⟩ := hst.rest hq0
        subst hA1
        have h2o : g2 ≠ go := hne hq0 _ rfl
        obtain ⟨o, hqo⟩ : ∃ o, o = q % 64 := ⟨_, rfl⟩
        obtain ⟨r, hr⟩ : ∃ r, r = 63 - (q + 63) % 64 := ⟨_, rfl⟩
        rw [← hr] at hbk
        rw [← hqo] at hbk hc2 hq0
        rw [← hm] at hcell2
        have hro : r = 64 - o := by omega
        have hrc : r ≤ c1 := by omega
        have hr0 : ((r : Int) == 0) = false := by rw [beq_eq_false_iff_ne]; omega
        have hr1 : (0 : Int) < (r : Int) := by omega
        have hr2 : (1 : Int) ≤ (r : Int) := by omega
        have hr3 : 1 ≤ r := by omega
        have hr4 : 0 < r := by omega
        have k0 := hcell2 o (by omega)
        have hb3 := hbk
        have hbo3 := hbo
        have ho3 := Ho.out
        have hcell3 := hcell2
        have Hqo := Lib.hid hqo
        have Hro := Lib.hid hro
        have Hm2 : Hid (m = UInt32.ofNat ((q + 1 + 63) / 64)) := Lib.hid (by rw [hm, show (q + 1 + 63) / 64 = (q + 63) / 64 by omega])
        have Hq0 := Lib.hid hq0
        clear hst hne hbk hbo hcell2 hqo hro hr hm hq0
        by_cases hc1 : c1 = 1
        · have hr5 : r = 1 := by omega
          have Hr5 := Lib.hid hr5
          clear hr5
          have K1 := u8_bits_xor (gt bs i) (gb (blkP S m) o)
          have co := (hbo3.cell i).trans (zRow_at X i n i hin)
          have fo := hbo3.frozen i
          have d17 := (hb3.cell 17).trans strC_r
          have p17 := hb3.frozen 17
          have Hb3 := Lib.hid hb3
          have Hbo4 := Lib.hid hbo3
          have Ho3 := Lib.hid ho3
          have Hcell := Lib.hid hcell3
          clear hb3 hbo3 ho3 hcell3
          go_wp2_with fail
          go_roundw
          case rel =>
            refine ⟨i + 1, _, _, by go_num, by omega, ?_, Strm.next (o := o) Hb3.out (by rw [Hm2.out, Hq.out]; try rfl) (by have h9 := Hqo.out.symm; rw [Hq.out] at h9; exact h9) Hcell.out h2g h2o hgg hlt2 (by have := Hro.out; omega) (fun h => absurd h (by have := Hro.out; have := Hr5.out; omega)) (by have := Hro.out; omega) (by omega), ?_, (Ho3.out.high (by have := Hgo.out; omega) _ _).set_ _ _⟩
            · have := (Hbo4.out.set_ i (.int .u8 (I8 (X i)))).far (p := ⟨g, 17, none⟩) (Ne.symm hgg) (.slice (some ⟨g2, o, none⟩) (r - 1) 0)
              rw [zRow_set X i n hin] at this
              have hXi : X i = gt bs i ^^^ gb (blkP S m) o := by rw [HX.out]; exact congrArg (gt bs i ^^^ ·) (by rw [← Hq.out]; exact by unfold ks; rw [← Hqo.out, Hm2.out, show (q + 1 + 63) / 64 = q / 64 + 1 by have := Hqo.out; have := Hq0.out; omega])
              rw [hXi] at this
              exact this
            · intro _ a ha
              injection ha with ha; subst ha; exact h2o
          case measure => simp [intOf]; omega
        · skip
          have K1 := u8_bits_xor (gt bs i) (gb (blkP S m) o)
          have co := (hbo3.cell i).trans (zRow_at X i n i hin)
          have fo := hbo3.frozen i
          have d17 := (hb3.cell 17).trans strC_r
          have p17 := hb3.frozen 17
          have Hb3 := Lib.hid hb3
          have Hbo4 := Lib.hid hbo3
          have Ho3 := Lib.hid ho3
          have Hcell := Lib.hid hcell3
          clear hb3 hbo3 ho3 hcell3
          go_wp2_with fail
          go_roundw
          case rel =>
            refine ⟨i + 1, _, _, by go_num, by omega, ?_, Strm.next (o := o) Hb3.out (by rw [Hm2.out, Hq.out]; try rfl) (by have h9 := Hqo.out.symm; rw [Hq.out] at h9; exact h9) Hcell.out h2g h2o hgg hlt2 (by have := Hro.out; omega) (fun _ => rfl) (by have := Hro.out; omega) rfl, ?_, (Ho3.out.high (by have := Hgo.out; omega) _ _).set_ _ _⟩
            · have := (Hbo4.out.set_ i (.int .u8 (I8 (X i)))).far (p := ⟨g, 17, none⟩) (Ne.symm hgg) (.slice (some ⟨g2, o + 1, none⟩) (r - 1) (c1 - 1))
              rw [zRow_set X i n hin] at this
              have hXi : X i = gt bs i ^^^ gb (blkP S m) o := by rw [HX.out]; exact congrArg (gt bs i ^^^ ·) (by rw [← Hq.out]; exact by unfold ks; rw [← Hqo.out, Hm2.out, show (q + 1 + 63) / 64 = q / 64 + 1 by have := Hqo.out; have := Hq0.out; omega])
              rw [hXi] at this
              exact this
            · intro _ a ha
              injection ha with ha; subst ha; exact h2o
          case measure => simp [intOf]; omega
    · have hd : decide ((i : Int) < (n : Int)) = false := by simp; omega
      have hin2 : i = n := by omega
      rw [hin2] at hbo hst
      have Hbo2 := Lib.hid hbo
      have Hst := Lib.hid hst
      have Ho := Lib.hid ho
      clear hbo hst ho hne hin2
      go_wp2_with fail
      go_ret
      exact ⟨go, A1, c1, rfl, Hbo2.out, by have := Hgo.out; omega, Hst.out, Ho.out⟩
end Go.Proofs.YtoankokkdmbjmaaDoor
