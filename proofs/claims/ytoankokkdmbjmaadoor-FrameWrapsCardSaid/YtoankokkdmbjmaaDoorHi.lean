/- The walks of cipher's Block and Hide, and of Next's small cases. -/
import Derived.Test.YtoankokkdmbjmaaDoorNx
namespace Go.Proofs.YtoankokkdmbjmaaDoor
open Go.RowKit Go.Lib

set_option maxRecDepth 100000 in
set_option maxHeartbeats 2000000 in
/-- Next of no bytes -/
theorem next_none (g : Nat) (S : Nat → UInt32) (p : Nat) (A0 : Option Addr) (c0 : Nat) (A : Option Addr) (cb : Nat) (w : World) (hs : Strm w g S p A0 c0) :
    Calls Tryd.prog 100 #[.pointer (some ⟨g, 0, none⟩), .slice A 0 cb] w fun e w' =>
      ∃ go A1 c1, e = .returned (.slice (some ⟨go, 0, none⟩) 0 0) ∧ Blk w' go 5 (bv []).toArray ∧ w.heap.size ≤ go ∧ Strm w' g S p A1 c1 ∧ Only g w w' := by
  have hm : (Instr.makeSlice 36 (.int .i64 0) (.int .i64 0)).run Tryd.prog w = .ok (.slice (some ⟨w.heap.size, 0, none⟩) 0 0) (w.alloc (.cells (zRow (fun _ => 0) 0 0) 5)) := make_any (fun _ => 0) 0 0 (Nat.le_refl _) (by omega) w
  have Hs := Lib.hid hs
  clear hs
  go_enter Tryd.func100, Tryd.ntmps100
  go_wp2_with fail
  refine abs_world ?_
  intro w1 hw1
  have hbo : Blk w1 w.heap.size 5 (bv []).toArray := by rw [hw1]; exact Blk.new _ _ _
  have ho1 : Only g w w1 := by rw [hw1]; exact (Only.refl g w).alloc _
  have hs1 : Strm w1 g S p A0 c0 := Hs.out.below (by rw [hw1]; exact (Below.refl _ _).alloc (Nat.le_refl _) _)
  have Hbo := Lib.hid hbo
  have Ho1 := Lib.hid ho1
  have Hs1 := Lib.hid hs1
  clear hbo ho1 hs1 hw1 hm
  go_loopw [15] (fun i wr => i = .int .i64 0 ∧ wr = w1) (fun _ _ => 0)
  case atStart => exact ⟨rfl, rfl⟩
  case round =>
    obtain ⟨rfl, rfl⟩ := hrel
    go_wp2_with fail
    go_ret
    exact ⟨_, A0, c0, rfl, Hbo.out, Nat.le_refl _, Hs1.out, Ho1.out⟩
set_option maxRecDepth 100000 in
set_option maxHeartbeats 2000000 in
/-- Next of no stream -/
theorem next_nil (v : Value) (w : World) :
    Calls Tryd.prog 100 #[.pointer none, v] w fun e w' => e = .returned (.slice none 0 0) ∧ w' = w := by
  go_enter Tryd.func100, Tryd.ntmps100
  go_wp2_with fail
  go_ret
  exact ⟨rfl, rfl⟩

theorem OwnB.of_blk {w : World} {g : Nat} {l : List UInt8} (h : Blk w g 5 (bv l).toArray) (hl : l.length ≤ maxLen) : OwnB w g (.slice (some ⟨g, 0, none⟩) l.length l.length) l :=
  ⟨by rw [bv_length, Nat.mul_one], .inr ⟨g, l.length, _, rfl, Nat.le_refl _, h, Nat.le_refl _, hl, by simp [bv_length], by rw [List.toList_toArray, List.take_of_length_le (by rw [bv_length, Nat.mul_one]; exact Nat.le_refl _)]⟩⟩

/-- a hidden text, the first byte being the stream's byte at p -/
def hidA (S : Nat → UInt32) (p : Nat) (text : List UInt8) : List UInt8 := (List.range text.length).map fun j => gt text j ^^^ ks S (p + j)
def hid (key nonce text : List UInt8) : List UInt8 := hidA (begP key nonce) 0 text
theorem hidA_length (S : Nat → UInt32) (p : Nat) (text : List UInt8) : (hidA S p text).length = text.length := by simp [hidA]
theorem hid_length (key nonce text : List UInt8) : (hid key nonce text).length = text.length := hidA_length _ _ _

set_option maxRecDepth 100000 in
set_option maxHeartbeats 2000000 in
/-- Next of any bytes that are read -/
theorem next_any (g : Nat) (S : Nat → UInt32) (p : Nat) (A0 : Option Addr) (c0 : Nat) (bs : List UInt8) (A : Option Addr) (bb ob cb : Nat) (w : World) (hs : Strm w g S p A0 c0)
    (hb : ∀ j, j < bs.length → w.cell? ⟨bb, ob + j, none⟩ = some (.int .u8 (I8 (gt bs j)))) (hcb : 0 < bs.length → A = some ⟨bb, ob, none⟩ ∧ bs.length ≤ cb ∧ bb ≠ g) (hlen : bs.length ≤ 1099511627776) :
    Calls Tryd.prog 100 #[.pointer (some ⟨g, 0, none⟩), .slice A bs.length cb] w fun e w' =>
      ∃ go A1 c1, e = .returned (.slice (some ⟨go, 0, none⟩) bs.length bs.length) ∧ OwnB w' go (.slice (some ⟨go, 0, none⟩) bs.length bs.length) (hidA S p bs) ∧ w.heap.size ≤ go ∧ Strm w' g S (p + bs.length) A1 c1 ∧ Only g w w' := by
  by_cases h0 : 0 < bs.length
  · obtain ⟨rfl, h1, h2⟩ := hcb h0
    refine (next_some g S p A0 c0 bs bb ob cb w hs hb h1 h2 hlen).mono ?_
    rintro e w' ⟨go, A1, c1, rfl, hb', hg, hst, ho⟩
    rw [zRow_full] at hb'
    have := OwnB.of_blk (l := hidA S p bs) hb' (by rw [hidA_length]; unfold maxLen; omega)
    rw [hidA_length] at this
    exact ⟨go, A1, c1, rfl, this, hg, hst, ho⟩
  · have hbs : bs = [] := List.eq_nil_of_length_eq_zero (by omega)
    subst hbs
    refine (next_none g S p A0 c0 A cb w hs).mono ?_
    rintro e w' ⟨go, A1, c1, rfl, hb', hg, hst, ho⟩
    exact ⟨go, A1, c1, rfl, OwnB.of_blk (l := []) hb' (by decide), hg, hst, ho⟩

set_option maxRecDepth 100000 in
set_option maxHeartbeats 2000000 in
theorem hide_bad (key nonce text : List UInt8) (w : World) (h : ¬ (key.length = 32 ∧ nonce.length = 12)) :
    Calls Tryd.prog 91 #[.string ⟨key.toArray⟩, .string ⟨nonce.toArray⟩, .string ⟨text.toArray⟩] w fun e w' => e = .returned (.tuple #[.string ⟨#[]⟩, .int .i64 1]) ∧ w' = w := by
  have H := Lib.hid h
  clear h
  go_enter Tryd.func91, Tryd.ntmps91
  go_wp2_with fail
  refine (new_bad key nonce _ H.out).mono ?_
  rintro e w' ⟨rfl, rfl⟩
  go_wp2_with fail
  go_ret2
  exact ⟨rfl, rfl⟩

set_option maxRecDepth 100000 in
set_option maxHeartbeats 2000000 in
theorem hide_any (key nonce text : List UInt8) (w : World) (hk : key.length = 32) (hn : nonce.length = 12) (ht : text.length ≤ 65536) :
    Calls Tryd.prog 91 #[.string ⟨key.toArray⟩, .string ⟨nonce.toArray⟩, .string ⟨text.toArray⟩] w fun e w' => e = .returned (.tuple #[.string ⟨(hid key nonce text).toArray⟩, .int .i64 0]) ∧ Below w.heap.size w w' := by
  have Hk := Lib.hid hk
  have Hn := Lib.hid hn
  clear hk hn
  go_enter Tryd.func91, Tryd.ntmps91
  go_wp2_with fail
  refine (new_any key nonce _ Hk.out Hn.out).mono ?_
  rintro e w1 ⟨g, rfl, hst, hl1, hg⟩
  have hlt := hst.blk.lt
  have Hst := Lib.hid hst
  have Hl1 := Lib.hid hl1
  clear hst hl1
  go_wp2_with fail
  refine (next_any g (begP key nonce) 0 none 0 text (some ⟨w1.heap.size, 0, none⟩) w1.heap.size 0 (bcap w1 text) (bw w1 text) (Hst.out.below (bw_below w1 text)) (fun j hj => by rw [Nat.zero_add]; refine bw_cell w1 text j _ ?_; unfold gt; rw [List.getD_eq_getElem?_getD, List.getElem?_eq_getElem hj]; rfl) (fun _ => ⟨rfl, bcap_le w1 text, by omega⟩) (by omega)).mono ?_
  rintro e w2 ⟨go, A1, c1, rfl, ho2, hgo, hst2, hon⟩
  have hs := ho2.string
  have hB : Below w.heap.size w w2 := (Hl1.out.trans ((bw_below w1 text).mono Hl1.out.size)).trans (hon.below hg (by rw [bw_size]; have := Hl1.out.size; omega))
  have HB := Lib.hid hB
  clear ho2 hst2 hon hB
  go_wp2_with fail
  go_ret2
  exact ⟨rfl, HB.out⟩


end Go.Proofs.YtoankokkdmbjmaaDoor
