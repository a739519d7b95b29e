/- The plain side of the digest: words, the mix, the fold over blocks. No program here. -/
import Derived.Below
namespace Go.Proofs.Ytgkhdpplmdkkaaa
open Go Go.RowKit

/-- the number of a word, behind a name that no simp rule opens -/
def I32 (x : UInt32) : Int := (x.toNat : Int)
/-- the number of a byte -/
def I8 (x : UInt8) : Int := (x.toNat : Int)

theorem I32_nonneg (x : UInt32) : 0 ≤ I32 x := Int.natCast_nonneg _
theorem I32_lt (x : UInt32) : I32 x < 4294967296 := by
  have : x.toNat < 2 ^ 32 := x.toNat_lt
  unfold I32; omega
theorem I8_nonneg (x : UInt8) : 0 ≤ I8 x := Int.natCast_nonneg _
theorem I8_lt (x : UInt8) : I8 x < 256 := by
  have : x.toNat < 2 ^ 8 := x.toNat_lt
  unfold I8; omega
theorem I32_toNat (x : UInt32) : (I32 x).toNat = x.toNat := rfl
theorem I32_of {n : Int} (h0 : 0 ≤ n) (h1 : n < 4294967296) : I32 (UInt32.ofNat n.toNat) = n := by
  unfold I32
  rw [UInt32.toNat_ofNat_of_lt' (by show _ < 2 ^ 32; omega)]; omega
theorem I32_ofNat {n : Nat} (h1 : n < 4294967296) : I32 (UInt32.ofNat n) = (n : Int) := by
  unfold I32
  rw [UInt32.toNat_ofNat_of_lt' (by show _ < 2 ^ 32; omega)]

/-- turned up by s -/
def rot (x : UInt32) (s : Nat) : UInt32 := UInt32.ofNat (x.toNat * 2 ^ s % 4294967296 ||| x.toNat / 2 ^ (32 - s))


/-- pushed down by n -/
def shr (x : UInt32) (n : Nat) : UInt32 := UInt32.ofNat (x.toNat / 2 ^ n)
def bs0 (x : UInt32) : UInt32 := rot x 30 ^^^ rot x 19 ^^^ rot x 10
def bs1 (x : UInt32) : UInt32 := rot x 26 ^^^ rot x 21 ^^^ rot x 7
def ss0 (x : UInt32) : UInt32 := rot x 25 ^^^ rot x 14 ^^^ shr x 3
def ss1 (x : UInt32) : UInt32 := rot x 15 ^^^ rot x 13 ^^^ shr x 10

/-- a word of four bytes, the highest first -/
def be4 (a b c d : UInt8) : UInt32 := UInt32.ofNat (a.toNat * 16777216 + b.toNat * 65536 + c.toNat * 256 + d.toNat)
/-- a byte more -/
def sh8 (x : UInt32) (b : UInt8) : UInt32 := UInt32.ofNat (x.toNat * 256 % 4294967296 ||| b.toNat)

theorem or_low (x b : Nat) (h : x % 256 = 0) (hb : b < 256) : x ||| b = x + b := by
  have hx : x = (x / 256) <<< 8 := by rw [Nat.shiftLeft_eq]; omega
  rw [hx, Nat.shiftLeft_add_eq_or_of_lt (i := 8) (by simpa using hb)]

theorem sh8_toNat (x : UInt32) (b : UInt8) : (sh8 x b).toNat = (x.toNat * 256 + b.toNat) % 4294967296 := by
  have hb : b.toNat < 256 := b.toNat_lt
  unfold sh8
  rw [or_low _ _ (by omega) hb, UInt32.toNat_ofNat']
  show _ % 2 ^ 32 = _
  omega

theorem sh8_four (a b c d : UInt8) : sh8 (sh8 (sh8 (sh8 0 a) b) c) d = be4 a b c d := by
  have ha : a.toNat < 256 := a.toNat_lt
  have hb : b.toNat < 256 := b.toNat_lt
  have hc : c.toNat < 256 := c.toNat_lt
  have hd : d.toNat < 256 := d.toNat_lt
  apply UInt32.toNat_inj.1
  rw [sh8_toNat, sh8_toNat, sh8_toNat, sh8_toNat]
  unfold be4
  rw [UInt32.toNat_ofNat']
  show _ = _ % 2 ^ 32
  have h0 : (0 : UInt32).toNat = 0 := rfl
  rw [h0]
  omega

/-- the first m of the four bytes from 4 t on, put together -/
def part (b : Nat → UInt8) (t : Nat) : Nat → UInt32
  | 0 => 0
  | m + 1 => sh8 (part b t m) (b (4 * t + m))
theorem part_four (b : Nat → UInt8) (t : Nat) : part b t 4 = be4 (b (4 * t)) (b (4 * t + 1)) (b (4 * t + 2)) (b (4 * t + 3)) := sh8_four _ _ _ _

/-- the schedule of a block -/
def sch (b : Nat → UInt8) (t : Nat) : UInt32 :=
  if t < 16 then be4 (b (4 * t)) (b (4 * t + 1)) (b (4 * t + 2)) (b (4 * t + 3))
  else sch b (t - 16) + sch b (t - 7) + ss0 (sch b (t - 15)) + ss1 (sch b (t - 2))
termination_by t
theorem sch_lo (b : Nat → UInt8) {t : Nat} (h : t < 16) : sch b t = be4 (b (4 * t)) (b (4 * t + 1)) (b (4 * t + 2)) (b (4 * t + 3)) := by
  rw [sch, if_pos h]
theorem sch_hi (b : Nat → UInt8) {t : Nat} (h : ¬ t < 16) : sch b t = sch b (t - 16) + sch b (t - 7) + ss0 (sch b (t - 15)) + ss1 (sch b (t - 2)) := by
  rw [sch, if_neg h]

structure St where
  (a b c d e f g h : UInt32)

def St.l (s : St) : List UInt32 := [s.a, s.b, s.c, s.d, s.e, s.f, s.g, s.h]

def uu (k w : UInt32) (s : St) : UInt32 := s.h + bs1 s.e + (s.e &&& s.f ^^^ ~~~s.e &&& s.g) + k + w
def vv (s : St) : UInt32 := bs0 s.a + (s.a &&& s.b ^^^ s.a &&& s.c ^^^ s.b &&& s.c)
def stp (k w : UInt32) (s : St) : St := ⟨uu k w s + vv s, s.a, s.b, s.c, s.d + uu k w s, s.e, s.f, s.g⟩

def rnd (ks ws : Nat → UInt32) (s : St) : Nat → St
  | 0 => s
  | t + 1 => stp (ks t) (ws t) (rnd ks ws s t)

def St.add (s z : St) : St := ⟨s.a + z.a, s.b + z.b, s.c + z.c, s.d + z.d, s.e + z.e, s.f + z.f, s.g + z.g, s.h + z.h⟩

/-- a state's word by its number -/
def St.at (s : St) (i : Nat) : UInt32 := s.l.getD i 0
theorem St.add_at (s z : St) (i : Nat) (h : i < 8) : (s.add z).at i = s.at i + z.at i := by
  have : i = 0 ∨ i = 1 ∨ i = 2 ∨ i = 3 ∨ i = 4 ∨ i = 5 ∨ i = 6 ∨ i = 7 := by omega
  rcases this with rfl | rfl | rfl | rfl | rfl | rfl | rfl | rfl <;> rfl

/-- the mix of a state with a block -/
def mixS (ks : Nat → UInt32) (s : St) (b : Nat → UInt8) : St := s.add (rnd ks (sch b) s 64)

/-- the state behind n blocks of bytes -/
def fold (ks : Nat → UInt32) (s : St) (b : Nat → UInt8) : Nat → St
  | 0 => s
  | n + 1 => mixS ks (fold ks s b n) (fun j => b (64 * n + j))

theorem fold_add (ks : Nat → UInt32) (s : St) (b : Nat → UInt8) (m n : Nat) : fold ks s b (m + n) = fold ks (fold ks s b m) (fun j => b (64 * m + j)) n := by
  induction n with
  | zero => rfl
  | succ n ih =>
    show mixS ks (fold ks s b (m + n)) _ = mixS ks _ _
    rw [ih]
    congr 1
    funext j
    congr 1
    show 64 * (m + n) + j = 64 * m + (64 * n + j)
    omega

theorem sch_congr {b b' : Nat → UInt8} (h : ∀ j, j < 64 → b j = b' j) (t : Nat) (ht : t < 64) : sch b t = sch b' t := by
  induction t using Nat.strongRecOn with
  | _ t ih =>
    by_cases h16 : t < 16
    · rw [sch_lo b h16, sch_lo b' h16, h _ (by omega), h _ (by omega), h _ (by omega), h _ (by omega)]
    · rw [sch_hi b h16, sch_hi b' h16, ih _ (by omega) (by omega), ih _ (by omega) (by omega), ih _ (by omega) (by omega), ih _ (by omega) (by omega)]
theorem rnd_congr {ks ks' ws ws' : Nat → UInt32} {s : St} (n : Nat) (h : ∀ t, t < n → ks t = ks' t) (h' : ∀ t, t < n → ws t = ws' t) : rnd ks ws s n = rnd ks' ws' s n := by
  induction n with
  | zero => rfl
  | succ n ih =>
    show stp _ _ _ = stp _ _ _
    rw [ih (fun t ht => h t (by omega)) (fun t ht => h' t (by omega)), h n (by omega), h' n (by omega)]
theorem mixS_congr {ks ks' : Nat → UInt32} {s : St} {b b' : Nat → UInt8} (hk : ∀ t, t < 64 → ks t = ks' t) (h : ∀ j, j < 64 → b j = b' j) : mixS ks s b = mixS ks' s b' := by
  unfold mixS
  rw [rnd_congr 64 hk (fun t ht => sch_congr h t ht)]
theorem fold_congr {ks ks' : Nat → UInt32} {s : St} {b b' : Nat → UInt8} (n : Nat) (hk : ∀ t, t < 64 → ks t = ks' t) (h : ∀ j, j < 64 * n → b j = b' j) : fold ks s b n = fold ks' s b' n := by
  induction n with
  | zero => rfl
  | succ n ih =>
    show mixS _ _ _ = mixS _ _ _
    rw [ih (fun j hj => h j (by omega))]
    exact mixS_congr hk (fun j hj => h _ (by omega))

/-- how many noughts the padding has -/
def zc (n : Nat) : Nat := (119 - n % 64) % 64
/-- the first i of a number's eight bytes, the highest first -/
def be8 (m : Nat) (i : Nat) : List UInt8 := (List.range i).map fun j => UInt8.ofNat (m / 2 ^ (56 - 8 * j))
def padL (n : Nat) : List UInt8 := 128 :: List.replicate (zc n) 0 ++ be8 (n * 8) 8
theorem be8_succ (m i : Nat) : be8 m (i + 1) = be8 m i ++ [UInt8.ofNat (m / 2 ^ (56 - 8 * i))] := by
  unfold be8; rw [List.range_succ, List.map_append]; rfl
theorem be8_length (m i : Nat) : (be8 m i).length = i := by simp [be8]
theorem zc_lt (n : Nat) : zc n < 64 := Nat.mod_lt _ (by decide)
theorem zc_test (n k : Nat) (h : k ≤ zc n) : ((n % 64 + (1 + k) + 8) % 64 = 0) ↔ k = zc n := by
  unfold zc at *; omega
theorem padL_length (n : Nat) : (padL n).length = 9 + zc n := by
  unfold padL; simp [be8_length]; omega
theorem padL_whole (n : Nat) : (n + (padL n).length) % 64 = 0 := by
  rw [padL_length]; unfold zc; omega

end Go.Proofs.Ytgkhdpplmdkkaaa
