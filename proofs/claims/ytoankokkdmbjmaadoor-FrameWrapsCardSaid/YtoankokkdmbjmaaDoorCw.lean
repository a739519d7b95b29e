/- cipher.word; a quarter round on four of sixteen words in memory. -/
import Derived.Test.YtoankokkdmbjmaaDoorQ
import Derived.Test.YtoankokkdmbjmaaDoorJb
namespace Go.Proofs.YtoankokkdmbjmaaDoor
open Go.RowKit Go.Lib

def gb (l : List UInt8) (j : Nat) : UInt8 := l.getD j 0
/-- the word of four bytes, the lowest first -/
def le4 (l : List UInt8) (i : Nat) : UInt32 := UInt32.ofNat ((gb l i).toNat + 256 * (gb l (i + 1)).toNat + 65536 * (gb l (i + 2)).toNat + 16777216 * (gb l (i + 3)).toNat)

@[go_sem] theorem byte_mk (l : List UInt8) (j : Nat) (h : j < (ByteArray.mk l.toArray).size) : ((((ByteArray.mk l.toArray)[j]'h).toNat : Nat) : Int) = I8 (gb l j) := by
  have hj : j < l.length := by rwa [size_mk] at h
  unfold I8 gb
  rw [List.getD_eq_getElem?_getD, List.getElem?_eq_getElem hj]
  rfl

theorem or_nat (a b k : Nat) (h : a < 2 ^ k) (hb : a + 2 ^ k * b < 4294967296) : bits .or .u32 (a : Int) ((2 ^ k * b : Nat) : Int) = ((a + 2 ^ k * b : Nat) : Int) := by
  rw [u32_or_nat a (2 ^ k * b) (by omega) (by omega), Nat.or_comm, ← Nat.two_pow_add_eq_or_of_lt h]
  congr 1
  omega
theorem le4_bits (a b c d : UInt8) : bits .or .u32 (bits .or .u32 (bits .or .u32 (I8 a) (I8 b * 256 % 4294967296)) (I8 c * 65536 % 4294967296)) (I8 d * 16777216 % 4294967296) = I32 (UInt32.ofNat (a.toNat + 256 * b.toNat + 65536 * c.toNat + 16777216 * d.toNat)) := by
  have ha := a.toNat_lt
  have hb := b.toNat_lt
  have hc := c.toNat_lt
  have hd := d.toNat_lt
  have e1 : I8 b * 256 % 4294967296 = ((2 ^ 8 * b.toNat : Nat) : Int) := by unfold I8; omega
  have e2 : I8 c * 65536 % 4294967296 = ((2 ^ 16 * c.toNat : Nat) : Int) := by unfold I8; omega
  have e3 : I8 d * 16777216 % 4294967296 = ((2 ^ 24 * d.toNat : Nat) : Int) := by unfold I8; omega
  rw [e1, e2, e3]
  rw [show I8 a = ((a.toNat : Nat) : Int) from rfl, or_nat _ _ 8 (by omega) (by omega), or_nat _ _ 16 (by omega) (by omega), or_nat _ _ 24 (by omega) (by omega), I32_ofNat (by omega)]

set_option maxRecDepth 100000 in
set_option maxHeartbeats 2000000 in
theorem word_any (l : List UInt8) (i : Nat) (h : i + 4 ≤ l.length) (hl : l.length ≤ 1099511627776) (w : World) :
    Calls Tryd.prog 122 #[.string ⟨l.toArray⟩, .int .i64 i] w fun e w' => e = .returned (.int .u32 (I32 (le4 l i))) ∧ ∃ n, w' = w.drewN n := by
  have h0 : (i : Int) < (l.length : Int) := by omega
  have h1 : (i : Int) + 1 < (l.length : Int) := by omega
  have h2 : (i : Int) + 2 < (l.length : Int) := by omega
  have h3 : (i : Int) + 3 < (l.length : Int) := by omega
  have g1 : (0 : Int) ≤ (i : Int) + 1 := by omega
  have g2 : (0 : Int) ≤ (i : Int) + 2 := by omega
  have g3 : (0 : Int) ≤ (i : Int) + 3 := by omega
  have t1 : ((i : Int) + 1).toNat = i + 1 := by omega
  have t2 : ((i : Int) + 2).toNat = i + 2 := by omega
  have t3 : ((i : Int) + 3).toNat = i + 3 := by omega
  have e1 : IntKind.i64.wrap ((i : Int) + 1) = (i : Int) + 1 := by rw [IntKind.wrap_i64]; omega
  have e2 : IntKind.i64.wrap ((i : Int) + 2) = (i : Int) + 2 := by rw [IntKind.wrap_i64]; omega
  have e3 : IntKind.i64.wrap ((i : Int) + 3) = (i : Int) + 3 := by rw [IntKind.wrap_i64]; omega
  go_enter Tryd.func122, Tryd.ntmps122
  go_wp2_with fail
  go_quiet (fail)
  go_wp2
  go_ret
  exact ⟨ret_int (le4_bits _ _ _ _), _, rfl⟩

/-- sixteen words as they lie -/
def lit16 (s : Nat → UInt32) : Array Value := #[.int .u32 (I32 (s 0)), .int .u32 (I32 (s 1)), .int .u32 (I32 (s 2)), .int .u32 (I32 (s 3)), .int .u32 (I32 (s 4)), .int .u32 (I32 (s 5)), .int .u32 (I32 (s 6)), .int .u32 (I32 (s 7)), .int .u32 (I32 (s 8)), .int .u32 (I32 (s 9)), .int .u32 (I32 (s 10)), .int .u32 (I32 (s 11)), .int .u32 (I32 (s 12)), .int .u32 (I32 (s 13)), .int .u32 (I32 (s 14)), .int .u32 (I32 (s 15))]
def upd (s : Nat → UInt32) (i : Nat) (x : UInt32) (j : Nat) : UInt32 := if j = i then x else s j
theorem lit16_at (s : Nat → UInt32) (i : Nat) (h : i < 16) : (lit16 s)[i]? = some (.int .u32 (I32 (s i))) := by
  have : i = 0 ∨ i = 1 ∨ i = 2 ∨ i = 3 ∨ i = 4 ∨ i = 5 ∨ i = 6 ∨ i = 7 ∨ i = 8 ∨ i = 9 ∨ i = 10 ∨ i = 11 ∨ i = 12 ∨ i = 13 ∨ i = 14 ∨ i = 15 := by omega
  rcases this with rfl | rfl | rfl | rfl | rfl | rfl | rfl | rfl | rfl | rfl | rfl | rfl | rfl | rfl | rfl | rfl <;> rfl
theorem lit16_size (s : Nat → UInt32) : (lit16 s).size = 16 := rfl
theorem lit16_set (s : Nat → UInt32) (i : Nat) (x : UInt32) : (lit16 s).setIfInBounds i (.int .u32 (I32 x)) = lit16 (upd s i x) := by
  apply Array.ext_getElem?
  intro j
  rw [Array.getElem?_setIfInBounds]
  by_cases h : j < 16
  · rw [lit16_at _ _ h, lit16_at _ _ h]
    by_cases e : i = j
    · subst e; simp [lit16_size, h, upd]
    · rw [if_neg e]; simp [upd, Ne.symm e]
  · have h1 : (lit16 s)[j]? = none := Array.getElem?_eq_none (by rw [lit16_size]; omega)
    have h2 : (lit16 (upd s i x))[j]? = none := Array.getElem?_eq_none (by rw [lit16_size]; omega)
    rw [h1, h2]
    split
    · rw [if_neg (by rw [lit16_size]; omega)]
    · rfl
/-- a quarter round on four of them -/
def qat (s : Nat → UInt32) (i j k l : Nat) : Nat → UInt32 :=
  upd (upd (upd (upd s i (qr ⟨s i, s j, s k, s l⟩).a) j (qr ⟨s i, s j, s k, s l⟩).b) k (qr ⟨s i, s j, s k, s l⟩).c) l (qr ⟨s i, s j, s k, s l⟩).d

end Go.Proofs.YtoankokkdmbjmaaDoor
