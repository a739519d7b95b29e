/- The contracts of sha: roots, primes, bits, the turns of a block. -/
import Derived.Test.YtgkhdpplmdkkaaaProg
import Derived.WalkKit
import Derived.WalkSpells
import Derived.WalkLawsBesides
import Derived.BigQuiet
import Derived.Deep.QuietTactic
import Derived.KernelRfl
import Derived.Lib.Hide
import Derived.Deep.Draws
import Derived.Laws.BytesArg
import Derived.Below
import Derived.BigRegion
import Derived.Lib.Mul64
import Derived.Laws.CopyOwn
import Derived.Laws.Tables
import Derived.StillTailTactics
namespace Go.Proofs.Ytgkhdpplmdkkaaa
open Go.RowKit

def Blk (w : World) (g : Nat) (t : TypeId) (cs : Array Value) : Prop := w.heap[g]? = some (.cells cs t (0, 0))

section
variable {w w' : World} {g : Nat} {t : TypeId} {cs : Array Value}
theorem Blk.lt (h : Blk w g t cs) : g < w.heap.size := by
  rcases Nat.lt_or_ge g w.heap.size with hlt | hge
  · exact hlt
  · unfold Blk at h; rw [Array.getElem?_eq_none hge] at h; cases h
theorem Blk.cell (h : Blk w g t cs) (i : Nat) : w.cell? ⟨g, i, none⟩ = cs[i]? := cell_of_row w g i cs t (0, 0) h
theorem Blk.frozen (h : Blk w g t cs) (i : Nat) : w.frozen? ⟨g, i, none⟩ = false := by
  unfold Blk at h
  simp [World.frozen?, h]
theorem Blk.new (w : World) (t : TypeId) (cs : Array Value) : Blk (w.alloc (.cells cs t)) w.heap.size t cs := heap_alloc_new w _
theorem Blk.new_at (w : World) (t : TypeId) (cs cs' : Array Value) (g : Nat) (hg : g = w.heap.size) (hc : cs = cs') : Blk (w.alloc (.cells cs t)) g t cs' := by
  subst hg; subst hc; exact heap_alloc_new w _
theorem Blk.drew (h : Blk w g t cs) : Blk w.drew g t cs := h
theorem Blk.drewN (h : Blk w g t cs) (n : Nat) : Blk (w.drewN n) g t cs := h
theorem Blk.alloc (h : Blk w g t cs) (o : Obj) : Blk (w.alloc o) g t cs := (Below.heap_alloc w o g h.lt).trans h
theorem Blk.set_ (h : Blk w g t cs) (i : Nat) (u : Value) : Blk (w.setCell ⟨g, i, none⟩ u) g t (cs.setIfInBounds i u) := by
  unfold Blk at h ⊢
  simp [World.setCell, Array.getElem?_modify, h]
theorem Blk.far (h : Blk w g t cs) {p : Addr} (hp : g ≠ p.block) (u : Value) : Blk (w.setCell p u) g t cs := (Below.heap_setCell w p u g hp).trans h
theorem Blk.below {B : Nat} (h : Blk w g t cs) (hb : Below B w w') (hg : g < B) : Blk w' g t cs := (hb.block g hg).trans h
theorem Blk.grown {row : Option Nat} (h : Blk w g t cs) (hb : w.grownBy w' row) (hg : some g ≠ row) : Blk w' g t cs := (hb.block g h.lt hg).trans h
end

theorem below_set {B : Nat} {a w : World} (h : Below B a w) {g : Nat} (hg : B ≤ g) (o : Nat) (u : Value) : Below B a (w.setCell ⟨g, o, none⟩ u) := h.setCell (p := ⟨g, o, none⟩) hg u
theorem below_drewN' {B : Nat} {a w : World} (h : Below B a w) (n : Nat) : Below B a (w.drewN n) := h.trans ⟨rfl, rfl, rfl, Nat.le_refl _, fun _ _ => rfl⟩
theorem below_same {B : Nat} {a w w' : World} (h : Below B a w) {n : Nat} (e : w' = w.drewN n) : Below B a w' := by rw [e]; exact below_drewN' h n

/-- 'string([]byte{a})' -/
@[go_sem] theorem run_str1 {P : Program} (w : World) (src dst e : TypeId) (a : Int) (c g : Nat) (fr : Nat × Nat) (hg : g = w.heap.size) (hs : P.underlying src = some (.slice e)) (he : P.underlying e = some (.int .u8)) (hd : P.underlying dst = some .string) :
    (convert src dst (.slice (some ⟨g, 0, none⟩) 1 c)).run P (w.alloc (.cells #[.int .u8 a] e fr)) = .ok (.string ⟨#[UInt8.ofNat a.toNat]⟩) (w.alloc (.cells #[.int .u8 a] e fr)) := by
  subst hg
  rw [run_convert_bytes_arg (P := P) _ src e hs he w.heap.size 0 1 c [a] rfl (fun i hi => by
    have : i = 0 := by omega
    subst this
    simpa using World.cell?_alloc_mark w #[.int .u8 a] e fr 0) dst hd]
  rfl
/-- 'string([]byte{a, b, c, d})' -/
@[go_sem] theorem run_str4 {P : Program} (w : World) (src dst e : TypeId) (a b c d : Int) (cap g : Nat) (fr : Nat × Nat) (hg : g = w.heap.size) (hs : P.underlying src = some (.slice e)) (he : P.underlying e = some (.int .u8)) (hd : P.underlying dst = some .string) :
    (convert src dst (.slice (some ⟨g, 0, none⟩) 4 cap)).run P (w.alloc (.cells #[.int .u8 a, .int .u8 b, .int .u8 c, .int .u8 d] e fr)) = .ok (.string ⟨#[UInt8.ofNat a.toNat, UInt8.ofNat b.toNat, UInt8.ofNat c.toNat, UInt8.ofNat d.toNat]⟩) (w.alloc (.cells #[.int .u8 a, .int .u8 b, .int .u8 c, .int .u8 d] e fr)) := by
  subst hg
  rw [run_convert_bytes_arg (P := P) _ src e hs he w.heap.size 0 4 cap [a, b, c, d] rfl (fun i hi => by
    have : i = 0 ∨ i = 1 ∨ i = 2 ∨ i = 3 := by omega
    have h := World.cell?_alloc_mark w #[.int .u8 a, .int .u8 b, .int .u8 c, .int .u8 d] e fr i
    rcases this with rfl | rfl | rfl | rfl <;> simpa using h) dst hd]
  rfl

theorem quiet_add {P : Program} {f : FuncId} {args : Array Value} {w : World} {a n : Nat} {v : Value}
    (h : Calls P f args (w.drewN (a + n)) fun e w' => e = .returned v ∧ ∃ m, w' = (w.drewN (a + n)).drewN m) :
    Calls P f args (w.drewN (a + n)) fun e w'' => e = .returned v ∧ ∃ m, w'' = w.drewN (a + m) :=
  h.mono fun _ _ ⟨he, m, hm⟩ => ⟨he, n + m, by rw [hm, World.drewN_drewN, Nat.add_assoc]⟩
theorem quiet_add_same {P : Program} {f : FuncId} {args : Array Value} {w : World} {a n : Nat} {v : Value}
    (h : Calls P f args (w.drewN (a + n)) fun e w' => e = .returned v ∧ w' = w.drewN (a + n)) :
    Calls P f args (w.drewN (a + n)) fun e w'' => e = .returned v ∧ ∃ m, w'' = w.drewN (a + m) :=
  h.mono fun _ _ ⟨he, hm⟩ => ⟨he, n, hm⟩

theorem ret3 {k1 k2 k3 : Value} {l1 l2 l3 : Value} (h1 : k1 = l1) (h2 : k2 = l2) (h3 : k3 = l3) : Ending.returned (.tuple #[k1, k2, k3]) = .returned (.tuple #[l1, l2, l3]) := by
  rw [h1, h2, h3]
theorem ret2 {k1 k2 : Value} {l1 l2 : Value} (h1 : k1 = l1) (h2 : k2 = l2) : Ending.returned (.tuple #[k1, k2]) = .returned (.tuple #[l1, l2]) := by
  rw [h1, h2]
theorem ret_bool {a b : Bool} (h : a = b) : Ending.returned (.bool a) = .returned (.bool b) := by rw [h]
theorem ret_int {k : IntKind} {a b : Int} (h : a = b) : Ending.returned (.int k a) = .returned (.int k b) := by rw [h]

theorem abs_post {P : Program} {fn : Func} {R : Ending → World → Prop} {e : Exit} {a : Act} {w : World} (h : ∀ w1, w1 = w → bodyPost P fn R e a w1) : bodyPost P fn R e a w := h w rfl
theorem abs_world {P : Program} {c : Code} {Q : Exit → Act → World → Prop} {a : Act} {w : World} (h : ∀ w1, w1 = w → c.wp P Q a w1) : c.wp P Q a w := h w rfl


theorem abs_then {K : Act → World → Prop} {Q : Exit → Act → World → Prop} {e : Exit} {a : Act} {w : World} (h : ∀ w1, w1 = w → Exit.then K Q e a w1) : Exit.then K Q e a w := h w rfl

end Go.Proofs.Ytgkhdpplmdkkaaa

namespace Go.Proofs.Ytgkhdpplmdkkaaa
open Go Go.RowKit

/-- the number of a word, behind a name that no simp rule opens -/
def I32 (x : UInt32) : Int := (x.toNat : Int)
/-- the number of a byte -/
def I8 (x : UInt8) : Int := (x.toNat : Int)

theorem I32_nonneg (x : UInt32) : 0 ≤ I32 x := Int.natCast_nonneg _
theorem I32_lt (x : UInt32) : I32 x < 4294967296 := by
  have : x.toNat < 2 ^ 32 := x.toNat_lt
  unfold I32; omega
theorem I8_nonneg (x : UInt8) : 0 ≤ I8 x := Int.natCast_nonneg _
theorem I8_lt (x : UInt8) : I8 x < 256 := by
  have : x.toNat < 2 ^ 8 := x.toNat_lt
  unfold I8; omega
theorem I32_toNat (x : UInt32) : (I32 x).toNat = x.toNat := rfl
theorem I32_of {n : Int} (h0 : 0 ≤ n) (h1 : n < 4294967296) : I32 (UInt32.ofNat n.toNat) = n := by
  unfold I32
  rw [UInt32.toNat_ofNat_of_lt' (by show _ < 2 ^ 32; omega)]; omega
theorem I32_ofNat {n : Nat} (h1 : n < 4294967296) : I32 (UInt32.ofNat n) = (n : Int) := by
  unfold I32
  rw [UInt32.toNat_ofNat_of_lt' (by show _ < 2 ^ 32; omega)]

/-- turned up by s -/
def rot (x : UInt32) (s : Nat) : UInt32 := UInt32.ofNat (x.toNat * 2 ^ s % 4294967296 ||| x.toNat / 2 ^ (32 - s))


/-- pushed down by n -/
def shr (x : UInt32) (n : Nat) : UInt32 := UInt32.ofNat (x.toNat / 2 ^ n)
def bs0 (x : UInt32) : UInt32 := rot x 30 ^^^ rot x 19 ^^^ rot x 10
def bs1 (x : UInt32) : UInt32 := rot x 26 ^^^ rot x 21 ^^^ rot x 7
def ss0 (x : UInt32) : UInt32 := rot x 25 ^^^ rot x 14 ^^^ shr x 3
def ss1 (x : UInt32) : UInt32 := rot x 15 ^^^ rot x 13 ^^^ shr x 10

/-- a word of four bytes, the highest first -/
def be4 (a b c d : UInt8) : UInt32 := UInt32.ofNat (a.toNat * 16777216 + b.toNat * 65536 + c.toNat * 256 + d.toNat)
/-- a byte more -/
def sh8 (x : UInt32) (b : UInt8) : UInt32 := UInt32.ofNat (x.toNat * 256 % 4294967296 ||| b.toNat)

theorem or_low (x b : Nat) (h : x % 256 = 0) (hb : b < 256) : x ||| b = x + b := by
  have hx : x = (x / 256) <<< 8 := by rw [Nat.shiftLeft_eq]; omega
  rw [hx, Nat.shiftLeft_add_eq_or_of_lt (i := 8) (by simpa using hb)]

theorem sh8_toNat (x : UInt32) (b : UInt8) : (sh8 x b).toNat = (x.toNat * 256 + b.toNat) % 4294967296 := by
  have hb : b.toNat < 256 := b.toNat_lt
  unfold sh8
  rw [or_low _ _ (by omega) hb, UInt32.toNat_ofNat']
  show _ % 2 ^ 32 = _
  omega

theorem sh8_four (a b c d : UInt8) : sh8 (sh8 (sh8 (sh8 0 a) b) c) d = be4 a b c d := by
  have ha : a.toNat < 256 := a.toNat_lt
  have hb : b.toNat < 256 := b.toNat_lt
  have hc : c.toNat < 256 := c.toNat_lt
  have hd : d.toNat < 256 := d.toNat_lt
  apply UInt32.toNat_inj.1
  rw [sh8_toNat, sh8_toNat, sh8_toNat, sh8_toNat]
  unfold be4
  rw [UInt32.toNat_ofNat']
  show _ = _ % 2 ^ 32
  have h0 : (0 : UInt32).toNat = 0 := rfl
  rw [h0]
  omega

/-- the first m of the four bytes from 4 t on, put together -/
def part (b : Nat → UInt8) (t : Nat) : Nat → UInt32
  | 0 => 0
  | m + 1 => sh8 (part b t m) (b (4 * t + m))
theorem part_four (b : Nat → UInt8) (t : Nat) : part b t 4 = be4 (b (4 * t)) (b (4 * t + 1)) (b (4 * t + 2)) (b (4 * t + 3)) := sh8_four _ _ _ _

/-- the schedule of a block -/
def sch (b : Nat → UInt8) (t : Nat) : UInt32 :=
  if t < 16 then be4 (b (4 * t)) (b (4 * t + 1)) (b (4 * t + 2)) (b (4 * t + 3))
  else sch b (t - 16) + sch b (t - 7) + ss0 (sch b (t - 15)) + ss1 (sch b (t - 2))
termination_by t
theorem sch_lo (b : Nat → UInt8) {t : Nat} (h : t < 16) : sch b t = be4 (b (4 * t)) (b (4 * t + 1)) (b (4 * t + 2)) (b (4 * t + 3)) := by
  rw [sch, if_pos h]
theorem sch_hi (b : Nat → UInt8) {t : Nat} (h : ¬ t < 16) : sch b t = sch b (t - 16) + sch b (t - 7) + ss0 (sch b (t - 15)) + ss1 (sch b (t - 2)) := by
  rw [sch, if_neg h]

structure St where
  (a b c d e f g h : UInt32)

def St.l (s : St) : List UInt32 := [s.a, s.b, s.c, s.d, s.e, s.f, s.g, s.h]

def uu (k w : UInt32) (s : St) : UInt32 := s.h + bs1 s.e + (s.e &&& s.f ^^^ ~~~s.e &&& s.g) + k + w
def vv (s : St) : UInt32 := bs0 s.a + (s.a &&& s.b ^^^ s.a &&& s.c ^^^ s.b &&& s.c)
def stp (k w : UInt32) (s : St) : St := ⟨uu k w s + vv s, s.a, s.b, s.c, s.d + uu k w s, s.e, s.f, s.g⟩

def rnd (ks ws : Nat → UInt32) (s : St) : Nat → St
  | 0 => s
  | t + 1 => stp (ks t) (ws t) (rnd ks ws s t)

def St.add (s z : St) : St := ⟨s.a + z.a, s.b + z.b, s.c + z.c, s.d + z.d, s.e + z.e, s.f + z.f, s.g + z.g, s.h + z.h⟩

/-- a state's word by its number -/
def St.at (s : St) (i : Nat) : UInt32 := s.l.getD i 0
theorem St.add_at (s z : St) (i : Nat) (h : i < 8) : (s.add z).at i = s.at i + z.at i := by
  have : i = 0 ∨ i = 1 ∨ i = 2 ∨ i = 3 ∨ i = 4 ∨ i = 5 ∨ i = 6 ∨ i = 7 := by omega
  rcases this with rfl | rfl | rfl | rfl | rfl | rfl | rfl | rfl <;> rfl

/-- the mix of a state with a block -/
def mixS (ks : Nat → UInt32) (s : St) (b : Nat → UInt8) : St := s.add (rnd ks (sch b) s 64)

/-- the state behind n blocks of bytes -/
def fold (ks : Nat → UInt32) (s : St) (b : Nat → UInt8) : Nat → St
  | 0 => s
  | n + 1 => mixS ks (fold ks s b n) (fun j => b (64 * n + j))

theorem fold_add (ks : Nat → UInt32) (s : St) (b : Nat → UInt8) (m n : Nat) : fold ks s b (m + n) = fold ks (fold ks s b m) (fun j => b (64 * m + j)) n := by
  induction n with
  | zero => rfl
  | succ n ih =>
    show mixS ks (fold ks s b (m + n)) _ = mixS ks _ _
    rw [ih]
    congr 1
    funext j
    congr 1
    show 64 * (m + n) + j = 64 * m + (64 * n + j)
    omega

theorem sch_congr {b b' : Nat → UInt8} (h : ∀ j, j < 64 → b j = b' j) (t : Nat) (ht : t < 64) : sch b t = sch b' t := by
  induction t using Nat.strongRecOn with
  | _ t ih =>
    by_cases h16 : t < 16
    · rw [sch_lo b h16, sch_lo b' h16, h _ (by omega), h _ (by omega), h _ (by omega), h _ (by omega)]
    · rw [sch_hi b h16, sch_hi b' h16, ih _ (by omega) (by omega), ih _ (by omega) (by omega), ih _ (by omega) (by omega), ih _ (by omega) (by omega)]
theorem rnd_congr {ks ks' ws ws' : Nat → UInt32} {s : St} (n : Nat) (h : ∀ t, t < n → ks t = ks' t) (h' : ∀ t, t < n → ws t = ws' t) : rnd ks ws s n = rnd ks' ws' s n := by
  induction n with
  | zero => rfl
  | succ n ih =>
    show stp _ _ _ = stp _ _ _
    rw [ih (fun t ht => h t (by omega)) (fun t ht => h' t (by omega)), h n (by omega), h' n (by omega)]
theorem mixS_congr {ks ks' : Nat → UInt32} {s : St} {b b' : Nat → UInt8} (hk : ∀ t, t < 64 → ks t = ks' t) (h : ∀ j, j < 64 → b j = b' j) : mixS ks s b = mixS ks' s b' := by
  unfold mixS
  rw [rnd_congr 64 hk (fun t ht => sch_congr h t ht)]
theorem fold_congr {ks ks' : Nat → UInt32} {s : St} {b b' : Nat → UInt8} (n : Nat) (hk : ∀ t, t < 64 → ks t = ks' t) (h : ∀ j, j < 64 * n → b j = b' j) : fold ks s b n = fold ks' s b' n := by
  induction n with
  | zero => rfl
  | succ n ih =>
    show mixS _ _ _ = mixS _ _ _
    rw [ih (fun j hj => h j (by omega))]
    exact mixS_congr hk (fun j hj => h _ (by omega))

/-- how many noughts the padding has -/
def zc (n : Nat) : Nat := (119 - n % 64) % 64
/-- the first i of a number's eight bytes, the highest first -/
def be8 (m : Nat) (i : Nat) : List UInt8 := (List.range i).map fun j => UInt8.ofNat (m / 2 ^ (56 - 8 * j))
def padL (n : Nat) : List UInt8 := 128 :: List.replicate (zc n) 0 ++ be8 (n * 8) 8
theorem be8_succ (m i : Nat) : be8 m (i + 1) = be8 m i ++ [UInt8.ofNat (m / 2 ^ (56 - 8 * i))] := by
  unfold be8; rw [List.range_succ, List.map_append]; rfl
theorem be8_length (m i : Nat) : (be8 m i).length = i := by simp [be8]
theorem zc_lt (n : Nat) : zc n < 64 := Nat.mod_lt _ (by decide)
theorem zc_test (n k : Nat) (h : k ≤ zc n) : ((n % 64 + (1 + k) + 8) % 64 = 0) ↔ k = zc n := by
  unfold zc at *; omega
theorem padL_length (n : Nat) : (padL n).length = 9 + zc n := by
  unfold padL; simp [be8_length]; omega
theorem padL_whole (n : Nat) : (n + (padL n).length) % 64 = 0 := by
  rw [padL_length]; unfold zc; omega

end Go.Proofs.Ytgkhdpplmdkkaaa

namespace Go.Proofs.Ytgkhdpplmdkkaaa
open Go.RowKit

theorem u32_wrap_add (x y : UInt32) : IntKind.u32.wrap (I32 x + I32 y) = I32 (x + y) := by
  rw [IntKind.wrap_u32']; unfold I32; rw [UInt32.toNat_add]; omega
theorem u32_bits_and (x y : UInt32) : bits .and .u32 (I32 x) (I32 y) = I32 (x &&& y) := by
  unfold I32; rw [u32_and_nat _ _ x.toNat_lt y.toNat_lt, UInt32.toNat_and]
theorem u32_bits_or (x y : UInt32) : bits .or .u32 (I32 x) (I32 y) = I32 (x ||| y) := by
  unfold I32; rw [u32_or_nat _ _ x.toNat_lt y.toNat_lt, UInt32.toNat_or]
theorem u32_bits_xor (x y : UInt32) : bits .xor .u32 (I32 x) (I32 y) = I32 (x ^^^ y) := by
  unfold I32; rw [u32_xor_nat _ _ x.toNat_lt y.toNat_lt, UInt32.toNat_xor]
theorem u32_not (x : UInt32) : IntKind.u32.wrap (4294967295 - I32 x) = I32 (~~~x) := by
  have hx : x.toNat < 4294967296 := x.toNat_lt
  rw [IntKind.wrap_u32']; unfold I32
  rw [UInt32.toNat_not]
  show _ = ((2 ^ 32 - 1 - x.toNat : Nat) : Int)
  omega
theorem u32_shr3 (x : UInt32) : I32 x / 8 = I32 (shr x 3) := by
  have hx : x.toNat < 4294967296 := x.toNat_lt
  unfold shr; rw [I32_ofNat (by omega)]; unfold I32; omega
theorem u32_shr10 (x : UInt32) : I32 x / 1024 = I32 (shr x 10) := by
  have hx : x.toNat < 4294967296 := x.toNat_lt
  unfold shr; rw [I32_ofNat (by omega)]; unfold I32; omega
theorem u32_of_u8 (x : UInt8) : IntKind.u32.wrap (I8 x) = I8 x := by
  have hx : x.toNat < 256 := x.toNat_lt
  rw [IntKind.wrap_u32']; unfold I8; omega
theorem u32_sh8 (x : UInt32) (b : UInt8) : bits .or .u32 (I32 x * 256 % 4294967296) (I8 b) = I32 (sh8 x b) := by
  have hx : x.toNat < 4294967296 := x.toNat_lt
  have hb : b.toNat < 256 := b.toNat_lt
  have e : I32 x * 256 % 4294967296 = ((x.toNat * 256 % 4294967296 : Nat) : Int) := by unfold I32; omega
  rw [e]
  unfold I8
  rw [u32_or_nat _ _ (Nat.mod_lt _ (by decide)) (by omega)]
  unfold sh8
  rw [I32_ofNat]
  exact Nat.or_lt_two_pow (n := 32) (Nat.mod_lt _ (by decide)) (by omega)
theorem u32_xor_max (x : UInt32) : bits .xor .u32 IntKind.u32.max (I32 x) = I32 (~~~x) := by
  have hx : x.toNat < 4294967296 := x.toNat_lt
  have e : IntKind.u32.max = ((4294967295 : Nat) : Int) := by decide
  rw [e]; unfold I32
  rw [u32_xor_nat _ _ (by decide) hx, UInt32.toNat_not]
  congr 1
  apply Nat.eq_of_testBit_eq
  intro i
  show (2 ^ 32 - 1 ^^^ x.toNat).testBit i = (2 ^ 32 - 1 - x.toNat).testBit i
  rw [Nat.testBit_xor, Nat.testBit_two_pow_sub_one]
  have h := Nat.testBit_two_pow_sub_succ (x := x.toNat) (n := 32) hx i
  rw [show 2 ^ 32 - 1 - x.toNat = 2 ^ 32 - (x.toNat + 1) by omega, h]
  by_cases hi : i < 32
  · simp [hi]
  · have : x.toNat.testBit i = false := Nat.testBit_lt_two_pow (Nat.lt_of_lt_of_le hx (by
      show 2 ^ 32 ≤ 2 ^ i
      exact Nat.pow_le_pow_right (by decide) (by omega)))
    simp [hi, this]
theorem u32_mod_add (x y : UInt32) : (I32 x + I32 y) % 4294967296 = I32 (x + y) := by
  rw [← IntKind.wrap_u32', u32_wrap_add]
theorem u32_sum4 (a b c d : UInt32) : (I32 a + I32 b + I32 c + I32 d) % 4294967296 = I32 (a + b + c + d) := by
  rw [← u32_mod_add, ← u32_mod_add, ← u32_mod_add]; omega
theorem u32_sum5 (a b c d e : UInt32) : (I32 a + I32 b + I32 c + I32 d + I32 e) % 4294967296 = I32 (a + b + c + d + e) := by
  rw [← u32_mod_add, ← u32_mod_add, ← u32_mod_add, ← u32_mod_add]; omega
theorem u32_sumd (d a b c e : UInt32) : (I32 d + (I32 a + I32 b + I32 c + I32 e)) % 4294967296 = I32 (d + (a + b + c + e)) := by
  rw [← u32_mod_add, ← u32_sum4]; omega
attribute [go_sem] u32_mod_add
attribute [go_sem] u32_xor_max
attribute [go_sem] u32_of_u8 u32_sh8 u32_not u32_shr3 u32_shr10
attribute [go_sem] u32_wrap_add u32_bits_and u32_bits_or u32_bits_xor

theorem rot_int (x : UInt32) (s : Nat) :
    bits .or .u32 (I32 x * 2 ^ s % 4294967296) (I32 x / 2 ^ (32 - s)) = I32 (rot x s) := by
  have hx : x.toNat < 4294967296 := x.toNat_lt
  have e3 : I32 x * 2 ^ s % 4294967296 = ((x.toNat * 2 ^ s % 4294967296 : Nat) : Int) := by
    unfold I32; simp [Int.natCast_emod, Int.natCast_mul, Int.natCast_pow]
  have e4 : I32 x / 2 ^ (32 - s) = ((x.toNat / 2 ^ (32 - s) : Nat) : Int) := by
    unfold I32; simp [Int.natCast_ediv, Int.natCast_pow]
  have hd : x.toNat / 2 ^ (32 - s) < 4294967296 := Nat.lt_of_le_of_lt (Nat.div_le_self _ _) hx
  rw [e3, e4, u32_or_nat _ _ (Nat.mod_lt _ (by decide)) hd]
  unfold rot
  rw [I32_ofNat]
  exact Nat.or_lt_two_pow (n := 32) (Nat.mod_lt _ (by decide)) hd

set_option maxHeartbeats 400000 in
theorem rotl_any (x : UInt32) (k : Int) (s : Nat) (w : World) (hk : bits .and .u64 (IntKind.u64.wrap k) 31 = (s : Int)) (h1 : 1 ≤ s) (h2 : s ≤ 31) :
    Calls Try.prog 63 #[.int .u32 (I32 x), .int .i64 k] w fun e w' => e = .returned (.int .u32 (I32 (rot x s))) ∧ w = w' := by
  have hs : IntKind.u64.wrap (32 - (s : Int)) = 32 - (s : Int) := by
    simp [IntKind.wrap, IntKind.bits, IntKind.signed]; omega
  go_enter Try.func63, Try.ntmps63
  go_wp2
  go_ret
  exact ⟨congrArg (fun n => Ending.returned (.int .u32 n)) (rot_int x s), rfl⟩

theorem neg31 (n : Nat) (h1 : 1 ≤ n) (h2 : n ≤ 31) : bits .and .u64 (IntKind.u64.wrap (-(n : Int))) 31 = ((32 - n : Nat) : Int) := by
  have e : IntKind.u64.wrap (-(n : Int)) = ((18446744073709551616 - n : Nat) : Int) := by
    simp [IntKind.wrap, IntKind.bits, IntKind.signed]; omega
  rw [e]
  have := u64_and_nat (18446744073709551616 - n) 31 (by omega) (by omega)
  rw [show ((31 : Int)) = ((31 : Nat) : Int) from rfl, this, nat_mask5]
  congr 1; omega
theorem pos31 (n : Nat) (h1 : 1 ≤ n) (h2 : n ≤ 31) : bits .and .u64 (IntKind.u64.wrap (n : Int)) 31 = (n : Int) := by
  have e : IntKind.u64.wrap (n : Int) = (n : Int) := by
    simp [IntKind.wrap, IntKind.bits, IntKind.signed]; omega
  rw [e]
  have := u64_and_nat n 31 (by omega) (by omega)
  rw [show ((31 : Int)) = ((31 : Nat) : Int) from rfl, this, nat_mask5]
  congr 1; omega

/-- sha.turn turns down by n -/
theorem turn_any (x : UInt32) (n : Int) (w : World) (h1 : 1 ≤ n) (h2 : n ≤ 31) :
    Calls Try.prog 108 #[.int .u32 (I32 x), .int .i64 n] w fun e w' => e = .returned (.int .u32 (I32 (rot x (32 - n.toNat)))) ∧ w' = w := by
  have hn := neg31 n.toNat (by omega) (by omega)
  rw [show ((n.toNat : Nat) : Int) = n from by omega] at hn
  have Hn := Lib.hid hn
  clear hn
  go_enter Try.func108, Try.ntmps108
  go_wp2_with fail
  refine (rotl_any x _ (32 - n.toNat) _ Hn.out (by omega) (by omega)).mono ?_
  rintro e w' ⟨rfl, rfl⟩
  go_wp2
  go_ret
  exact ⟨rfl, rfl⟩

theorem or_int (a b : Int) (h1 : 0 ≤ a) (h2 : a < 4294967296) (h3 : 0 ≤ b) (h4 : b < 4294967296) : bits .or .u32 a b = bits .or .u32 b a := by
  rw [u32_or a b h1 h2 h3 h4, u32_or b a h3 h4 h1 h2, Nat.or_comm]

theorem rot_int' (x : UInt32) (m : Nat) (h1 : 1 ≤ m) (h2 : m ≤ 31) :
    bits .or .u32 (I32 x / 2 ^ m) (I32 x * 2 ^ (32 - m) % 4294967296) = I32 (rot x (32 - m)) := by
  have h0 := I32_nonneg x
  have h3 := I32_lt x
  rw [← rot_int x (32 - m), or_int, show 32 - (32 - m) = m by omega]
  · exact Int.ediv_nonneg h0 (Int.pow_nonneg (by decide))
  · exact Int.lt_of_le_of_lt (Int.ediv_le_self _ h0) h3
  · exact Int.emod_nonneg _ (by decide)
  · exact Int.emod_lt_of_pos _ (by decide)

/-- the reference's turn -/
theorem rturn_any (x : UInt32) (n : Int) (w : World) (h1 : 1 ≤ n) (h2 : n ≤ 31) :
    Calls Try.prog 112 #[.int .u32 (I32 x), .int .u64 n] w fun e w' => e = .returned (.int .u32 (I32 (rot x (32 - n.toNat)))) ∧ w' = w := by
  obtain ⟨m, rfl⟩ := Int.eq_ofNat_of_zero_le (show 0 ≤ n by omega)
  have hs : IntKind.u64.wrap (32 - (m : Int)) = 32 - (m : Int) := by
    simp [IntKind.wrap, IntKind.bits, IntKind.signed]; omega
  go_enter Try.func112, Try.ntmps112
  go_wp2
  go_ret
  exact ⟨congrArg (fun n => Ending.returned (.int .u32 n)) (rot_int' x m (by omega) (by omega)), rfl⟩
end Go.Proofs.Ytgkhdpplmdkkaaa

namespace Go.Proofs.Ytgkhdpplmdkkaaa
open Go.RowKit

def agg8 (s : St) : Value := .agg #[.int .u32 (I32 s.a), .int .u32 (I32 s.b), .int .u32 (I32 s.c), .int .u32 (I32 s.d), .int .u32 (I32 s.e), .int .u32 (I32 s.f), .int .u32 (I32 s.g), .int .u32 (I32 s.h)]

/-- words in cells from 0 on, n of them, those from t on noughts -/
def wArr (f : Nat → UInt32) (t n : Nat) : Array Value := ((List.range n).map fun j => .int .u32 (if j < t then I32 (f j) else 0)).toArray
theorem wArr_at (f : Nat → UInt32) (t n j : Nat) (hj : j < n) : (wArr f t n)[j]? = some (.int .u32 (if j < t then I32 (f j) else 0)) := by
  unfold wArr; simp [hj]
theorem wArr_size (f : Nat → UInt32) (t n : Nat) : (wArr f t n).size = n := by simp [wArr]
theorem wArr_one (f : Nat → UInt32) (t n : Nat) : (wArr f t n).all (·.oneCell') = true := by
  unfold wArr
  simp [Value.oneCell']
theorem wArr_set (f : Nat → UInt32) (t n : Nat) : (wArr f t n).setIfInBounds t (.int .u32 (I32 (f t))) = wArr f (t + 1) n := by
  apply Array.ext_getElem?
  intro i
  rw [Array.getElem?_setIfInBounds]
  by_cases h : i < n
  · rw [wArr_at _ _ _ _ h, wArr_at _ _ _ _ h]
    by_cases e : t = i
    · subst e; simp [wArr_size, h]
    · rw [if_neg e]
      by_cases h2 : i < t
      · rw [if_pos h2, if_pos (by omega)]
      · rw [if_neg h2, if_neg (by omega)]
  · have h1 : (wArr f t n)[i]? = none := Array.getElem?_eq_none (by rw [wArr_size]; omega)
    have h2 : (wArr f (t + 1) n)[i]? = none := Array.getElem?_eq_none (by rw [wArr_size]; omega)
    rw [h1, h2]
    split
    · rename_i e; subst e; rw [if_neg (by rw [wArr_size]; omega)]
    · rfl

theorem set_self {a : Array Value} {i : Nat} {v : Value} (h : a[i]? = some v) : a.setIfInBounds i v = a := by
  apply Array.ext_getElem?
  intro j
  rw [Array.getElem?_setIfInBounds]
  by_cases e : i = j
  · subst e
    have := (Array.getElem?_eq_some_iff.1 h).1
    rw [if_pos rfl, if_pos this, h]
  · rw [if_neg e]
theorem set_set {a : Array Value} {i : Nat} {u v : Value} : (a.setIfInBounds i u).setIfInBounds i v = a.setIfInBounds i v := by
  apply Array.ext_getElem?
  intro j
  rw [Array.getElem?_setIfInBounds, Array.getElem?_setIfInBounds, Array.getElem?_setIfInBounds]
  by_cases e : i = j
  · subst e; simp
  · simp [e]
theorem set_get {a : Array Value} {i : Nat} {v : Value} (h : i < a.size) : (a.setIfInBounds i v)[i]? = some v := by
  rw [Array.getElem?_setIfInBounds_self]; simp [h]

/-- the words of a state, those below j with another one's added -/
def sArr (s z : St) (j : Nat) : Array Value := ((List.range 8).map fun i => .int .u32 (I32 (if i < j then s.at i + z.at i else s.at i))).toArray
theorem sArr_at (s z : St) (j i : Nat) (h : i < 8) : (sArr s z j)[i]? = some (.int .u32 (I32 (if i < j then s.at i + z.at i else s.at i))) := by
  unfold sArr; simp [h]
theorem sArr_size (s z : St) (j : Nat) : (sArr s z j).size = 8 := by simp [sArr]
theorem sArr_set (s z : St) (j : Nat) : (sArr s z j).setIfInBounds j (.int .u32 (I32 (s.at j + z.at j))) = sArr s z (j + 1) := by
  apply Array.ext_getElem?
  intro i
  rw [Array.getElem?_setIfInBounds]
  by_cases h : i < 8
  · rw [sArr_at _ _ _ _ h, sArr_at _ _ _ _ h]
    by_cases e : j = i
    · subst e; simp [sArr_size, h]
    · rw [if_neg e]
      by_cases h2 : i < j
      · rw [if_pos h2, if_pos (by omega)]
      · rw [if_neg h2, if_neg (by omega)]
  · have h1 : (sArr s z j)[i]? = none := Array.getElem?_eq_none (by rw [sArr_size]; omega)
    have h2 : (sArr s z (j + 1))[i]? = none := Array.getElem?_eq_none (by rw [sArr_size]; omega)
    rw [h1, h2]
    split
    · rename_i e; subst e; rw [if_neg (by rw [sArr_size]; omega)]
    · rfl
theorem run_index8 (z : St) (j : Nat) (hj : j < 8) (w : World) :
    (Instr.index 156 (.agg #[.int .u32 (I32 z.a), .int .u32 (I32 z.b), .int .u32 (I32 z.c), .int .u32 (I32 z.d), .int .u32 (I32 z.e), .int .u32 (I32 z.f), .int .u32 (I32 z.g), .int .u32 (I32 z.h)]) (.int .i64 (j : Int))).run Try.prog w = .ok (.int .u32 (I32 (z.at j))) w := by
  have : j = 0 ∨ j = 1 ∨ j = 2 ∨ j = 3 ∨ j = 4 ∨ j = 5 ∨ j = 6 ∨ j = 7 := by omega
  rcases this with rfl | rfl | rfl | rfl | rfl | rfl | rfl | rfl <;> (refine Eq.trans ?_ (Eq.refl _); kernel_rfl)

/-- only block g has turned, and new blocks came -/
structure Only (g : Nat) (w w' : World) : Prop where
  os : w'.os = w.os
  tape : w'.tape = w.tape
  output : w'.output = w.output
  size : w.heap.size ≤ w'.heap.size
  block : ∀ k, k < w.heap.size → k ≠ g → w'.heap[k]? = w.heap[k]?
theorem Only.refl (g : Nat) (w : World) : Only g w w := ⟨rfl, rfl, rfl, Nat.le_refl _, fun _ _ _ => rfl⟩
theorem Only.drewN {g : Nat} {a w : World} (h : Only g a w) (n : Nat) : Only g a (w.drewN n) := ⟨h.os, h.tape, h.output, h.size, h.block⟩
theorem Only.set_ {g : Nat} {a w : World} (h : Only g a w) (o : Nat) (u : Value) : Only g a (w.setCell ⟨g, o, none⟩ u) :=
  ⟨h.os, h.tape, h.output, by have := h.size; simp [World.setCell]; omega, fun k hk hg => (Below.heap_setCell w ⟨g, o, none⟩ u k hg).trans (h.block k hk hg)⟩
theorem Only.blk {g g' : Nat} {a w : World} {t : TypeId} {cs : Array Value} (h : Only g a w) (hb : Blk a g' t cs) (hg : g' ≠ g) : Blk w g' t cs := (h.block g' hb.lt hg).trans hb
theorem Only.below {g B : Nat} {a w : World} (h : Only g a w) (hg : B ≤ g) (hB : B ≤ a.heap.size) : Below B a w :=
  ⟨h.os, h.tape, h.output, h.size, fun k hk => h.block k (by omega) (by omega)⟩
theorem Only.cell {g : Nat} {a w : World} (h : Only g a w) {p : Addr} {v : Value} (hc : a.cell? p = some v) (hg : p.block ≠ g) : w.cell? p = some v := by
  have hlt : p.block < a.heap.size := by
    rcases Nat.lt_or_ge p.block a.heap.size with h' | h'
    · exact h'
    · simp [World.cell?, Array.getElem?_eq_none h'] at hc
  exact (World.cell?_of_block (w := a) (h.block p.block hlt hg)).trans hc

set_option maxRecDepth 100000 in
set_option maxHeartbeats 1000000 in
theorem mix_any (gk ok : Nat) (ks : Nat → UInt32) (s : St) (b o cap : Nat) (bs : Nat → UInt8) (w : World)
    (hk : ∀ t, t < 64 → w.cell? ⟨gk, ok + t, none⟩ = some (.int .u32 (I32 (ks t))))
    (hb : ∀ j, j < 64 → w.cell? ⟨b, o + j, none⟩ = some (.int .u8 (I8 (bs j)))) (hcap : 64 ≤ cap) :
    Calls Try.prog 97 #[.pointer (some ⟨gk, ok, none⟩), agg8 s, .slice (some ⟨b, o, none⟩) 64 cap] w fun e w' => e = .returned (agg8 (mixS ks s bs)) ∧ Below w.heap.size w w' := by
  have Hk := Lib.hid hk
  have Hb := Lib.hid hb
  clear hk hb
  unfold agg8
  go_enter Try.func97, Try.ntmps97
  go_wp2_with fail
  refine abs_world ?_
  intro w1 hw1
  have h0 : Blk w1 w.heap.size 156 #[.int .u32 (I32 s.a), .int .u32 (I32 s.b), .int .u32 (I32 s.c), .int .u32 (I32 s.d), .int .u32 (I32 s.e), .int .u32 (I32 s.f), .int .u32 (I32 s.g), .int .u32 (I32 s.h)] := by
    rw [hw1]; exact ((Blk.new _ _ _).alloc _).alloc _
  have h1 : Blk w1 (w.heap.size + 1) 156 #[.int .u32 0, .int .u32 0, .int .u32 0, .int .u32 0, .int .u32 0, .int .u32 0, .int .u32 0, .int .u32 0] := by
    rw [hw1]; exact (Blk.new_at _ _ _ _ _ (by simp) rfl).alloc _
  have h2 : Blk w1 (w.heap.size + 1 + 1) 154 (wArr (sch bs) 0 64) := by
    rw [hw1]; exact Blk.new_at _ _ _ _ _ (by simp) rfl
  have hl : Below w.heap.size w w1 := by
    rw [hw1]; exact (((Below.refl _ _).alloc (Nat.le_refl _) _).alloc (by simp) _).alloc (by simp; omega) _
  clear hw1
  have H0 := Lib.hid h0
  have H1 := Lib.hid h1
  have H2 := Lib.hid h2
  have Hl := Lib.hid hl
  clear h0 h1 h2 hl
  go_loopw [26] (fun i wr => ∃ t : Nat, i = .int .i64 t ∧ t ≤ 64 ∧ Blk wr (w.heap.size + 1 + 1) 154 (wArr (sch bs) t 64) ∧ Only (w.heap.size + 1 + 1) w1 wr) (fun i _ => 64 - (intOf i).toNat)
  case atStart => exact ⟨0, rfl, by omega, H2.out, Only.refl _ _⟩
  case round =>
    obtain ⟨t, rfl, ht, hb2, ho⟩ := hrel
    have Hb2 := Lib.hid hb2
    have Ho := Lib.hid ho
    clear hb2 ho
    by_cases h16 : t < 16
    · have hin : ∀ m, m < 4 → w.cell? ⟨b, o + 4 * t + m, none⟩ = some (.int .u8 (I8 (bs (4 * t + m)))) := fun m hm => by
        have := Hb.out (4 * t + m) (by omega)
        rwa [← Nat.add_assoc] at this
      have Hin := Lib.hid hin
      clear hin
      go_wp2_with fail
      have hlen : 4 * t + 4 - 4 * t = 4 := by omega
      go_loopw [39] (fun i wr2 => ∃ m : Nat, i = .int .i64 m ∧ m ≤ 4 ∧ Blk wr2 (w.heap.size + 1 + 1) 154 ((wArr (sch bs) t 64).setIfInBounds t (.int .u32 (I32 (part bs t m)))) ∧ Only (w.heap.size + 1 + 1) w1 wr2) (fun i _ => 4 - (intOf i).toNat)
      case atStart => exact ⟨0, rfl, by omega, by rw [set_self (by rw [wArr_at _ _ _ _ (by omega), if_neg (by omega)]; rfl)]; exact Hb2.out, Ho.out⟩
      case round =>
        obtain ⟨m, rfl, hm, hb3, ho3⟩ := hrel
        by_cases h4 : m < 4
        · have hc := (hb3.cell t).trans (set_get (by rw [wArr_size]; omega))
          have hf := hb3.frozen t
          have hi0 := Hin.out m h4
          have hblt : b < w.heap.size := by
            rcases Nat.lt_or_ge b w.heap.size with h' | h'
            · exact h'
            · simp [World.cell?, Array.getElem?_eq_none h'] at hi0
          have hi := ho3.cell (Hl.out.cell (p := ⟨b, o + 4 * t + m, none⟩) hblt |>.trans hi0) (by show b ≠ _; omega)
          have Hb3 := Lib.hid hb3
          have Ho3 := Lib.hid ho3
          clear hb3 ho3 hi0
          go_wp2_with fail
          go_roundw
          case rel => exact ⟨m + 1, by go_num, by omega, by have := Hb3.out.set_ t (.int .u32 (I32 (part bs t (m + 1)))); rwa [set_set] at this, Ho3.out.set_ _ _⟩
          case measure => simp [intOf]; omega
        · obtain rfl : m = 4 := by omega
          go_wp2
          go_roundw
          case rel => exact ⟨t + 1, by go_num, by omega, by rw [part_four, ← sch_lo bs h16, wArr_set] at hb3; exact hb3, ho3⟩
          case measure => simp [intOf]; omega
    · by_cases h64 : t < 64
      · have c16 := (Hb2.out.cell (t - 16)).trans (by rw [wArr_at _ _ _ _ (show t - 16 < 64 by omega), if_pos (by omega)])
        have c15 := (Hb2.out.cell (t - 15)).trans (by rw [wArr_at _ _ _ _ (show t - 15 < 64 by omega), if_pos (by omega)])
        have c7 := (Hb2.out.cell (t - 7)).trans (by rw [wArr_at _ _ _ _ (show t - 7 < 64 by omega), if_pos (by omega)])
        have c2 := (Hb2.out.cell (t - 2)).trans (by rw [wArr_at _ _ _ _ (show t - 2 < 64 by omega), if_pos (by omega)])
        have c0 := (Hb2.out.cell t).trans (by rw [wArr_at _ _ _ _ (show t < 64 by omega), if_neg (by omega)])
        have f0 := Hb2.out.frozen t
        have w2 : IntKind.i64.wrap ((t : Int) - 2) = (t : Int) - 2 := IntWalk.i64_in _ (by omega)
        have n2 : (2 : Int) ≤ (t : Int) := by omega
        have l2 : (t : Int) - 2 < 64 := by omega
        have z2 : ((t : Int) - 2).toNat = t - 2 := by omega
        have w7 : IntKind.i64.wrap ((t : Int) - 7) = (t : Int) - 7 := IntWalk.i64_in _ (by omega)
        have n7 : (7 : Int) ≤ (t : Int) := by omega
        have l7 : (t : Int) - 7 < 64 := by omega
        have z7 : ((t : Int) - 7).toNat = t - 7 := by omega
        have w15 : IntKind.i64.wrap ((t : Int) - 15) = (t : Int) - 15 := IntWalk.i64_in _ (by omega)
        have n15 : (15 : Int) ≤ (t : Int) := by omega
        have l15 : (t : Int) - 15 < 64 := by omega
        have z15 : ((t : Int) - 15).toNat = t - 15 := by omega
        have w16 : IntKind.i64.wrap ((t : Int) - 16) = (t : Int) - 16 := IntWalk.i64_in _ (by omega)
        have n16 : (16 : Int) ≤ (t : Int) := by omega
        have l16 : (t : Int) - 16 < 64 := by omega
        have z16 : ((t : Int) - 16).toNat = t - 16 := by omega
        go_wp2_with fail
        go_quiet ((go_at_call 108; exact Calls.quiet_of_same (turn_any _ _ _ (by omega) (by omega))))
        go_wp2_with fail
        go_quiet ((go_at_call 108; exact quiet_add_same (turn_any _ _ _ (by omega) (by omega))))
        go_wp2_with fail
        go_region
        go_wp2
        go_roundw
        case rel =>
          have hx := fun n => (Hb2.out.drewN n).set_ t (.int .u32 (I32 (sch bs t)))
          simp only [wArr_set] at hx
          rw [sch_hi bs h16] at hx
          exact ⟨t + 1, by go_num, by omega, hx _, (Ho.out.drewN _).set_ _ _⟩
        case measure => simp [intOf]; omega
      · obtain rfl : t = 64 := by omega
        have hs := Ho.out.blk H0.out (by omega)
        have s0 := hs.cell 0
        have s1 := hs.cell 1
        have s2 := hs.cell 2
        have s3 := hs.cell 3
        have s4 := hs.cell 4
        have s5 := hs.cell 5
        have s6 := hs.cell 6
        have s7 := hs.cell 7
        simp only [List.getElem?_toArray, List.getElem?_cons_zero, List.getElem?_cons_succ] at s0 s1 s2 s3 s4 s5 s6 s7
        have Hs := Lib.hid hs
        clear hs
        go_wp2_with fail
        go_quiet (fail)
        go_wp2_with fail
        go_loopw [13, 14, 15, 16, 17, 18, 19, 20, 119] (fun xa xb xc xd xe xf xg xh i w3 => ∃ t n : Nat, i = .int .i64 t ∧ t ≤ 64 ∧ xa = .int .u32 (I32 (rnd ks (sch bs) s t).a) ∧ xb = .int .u32 (I32 (rnd ks (sch bs) s t).b) ∧ xc = .int .u32 (I32 (rnd ks (sch bs) s t).c) ∧ xd = .int .u32 (I32 (rnd ks (sch bs) s t).d) ∧ xe = .int .u32 (I32 (rnd ks (sch bs) s t).e) ∧ xf = .int .u32 (I32 (rnd ks (sch bs) s t).f) ∧ xg = .int .u32 (I32 (rnd ks (sch bs) s t).g) ∧ xh = .int .u32 (I32 (rnd ks (sch bs) s t).h) ∧ w3 = wr.drewN n) (fun _ _ _ _ _ _ _ _ i _ => 64 - (intOf i).toNat)
        case atStart => exact ⟨0, nq, rfl, by omega, rfl, rfl, rfl, rfl, rfl, rfl, rfl, rfl, rfl⟩
        case round =>
          obtain ⟨t, n, rfl, ht, rfl, rfl, rfl, rfl, rfl, rfl, rfl, rfl, rfl⟩ := hrel
          by_cases h64 : t < 64
          · have ck : wr.cell? ⟨gk, ok + t, none⟩ = some (.int .u32 (I32 (ks t))) := by
              have h0 := Hk.out t h64
              have hlt : gk < w.heap.size := by
                rcases Nat.lt_or_ge gk w.heap.size with h' | h'
                · exact h'
                · simp [World.cell?, Array.getElem?_eq_none h'] at h0
              exact Ho.out.cell (Hl.out.cell (p := ⟨gk, ok + t, none⟩) hlt |>.trans h0) (by show gk ≠ _; omega)
            have cw := (Hb2.out.cell t).trans (by rw [wArr_at _ _ _ _ h64, if_pos h64])
            have hz : ∃ z, z = rnd ks (sch bs) s t := ⟨_, rfl⟩
            obtain ⟨z, hz⟩ := hz
            rw [← hz]
            have Hz := Lib.hid hz
            clear hz
            go_wp2_with fail
            go_quiet ((go_at_call 108; exact quiet_add_same (turn_any _ _ _ (by omega) (by omega))))
            go_wp2_with (go_at_call 108; refine (turn_any _ _ _ (by omega) (by omega)).mono ?_; rintro e w' ⟨rfl, rfl⟩)
            refine ⟨⟨_, _, _, _, _, _, _, _, _, _, _, _, ⟨t + 1, ?_, ?_, ?_, ?_, ?_, ?_, ?_, ?_, ?_, ?_, ⟨_, rfl⟩⟩, rfl, rfl, rfl, rfl, rfl, rfl, rfl, rfl, rfl, rfl, rfl, rfl⟩, ?_⟩
            · go_num
            · omega
            · show Value.int .u32 _ = .int .u32 (I32 (uu (ks t) (sch bs t) (rnd ks (sch bs) s t) + vv (rnd ks (sch bs) s t)))
              rw [← Hz.out]; exact congrArg (Value.int .u32) (u32_sum5 _ _ _ _ _)
            · rw [Hz.out]; rfl
            · rw [Hz.out]; rfl
            · rw [Hz.out]; rfl
            · show Value.int .u32 _ = .int .u32 (I32 ((rnd ks (sch bs) s t).d + uu (ks t) (sch bs t) (rnd ks (sch bs) s t)))
              rw [← Hz.out]; exact congrArg (Value.int .u32) (u32_sumd _ _ _ _ _)
            · rw [Hz.out]; rfl
            · rw [Hz.out]; rfl
            · rw [Hz.out]; rfl
            · simp [intOf]; omega
          · obtain rfl : t = 64 := by omega
            go_wp2_with fail
            have hz : ∃ z, z = rnd ks (sch bs) s 64 := ⟨_, rfl⟩
            obtain ⟨z, hz⟩ := hz
            rw [← hz]
            have Hz := Lib.hid hz
            have hs0 : Blk wr w.heap.size 156 (sArr s z 0) := Hs.out
            have Hs0 := Lib.hid hs0
            have h10 := Ho.out.blk H1.out (by omega)
            have H10 := Lib.hid h10
            clear hz hs0 h10 s0 s1 s2 s3 s4 s5 s6 s7
            go_loopw [193] (fun i w4 => ∃ j : Nat, i = .int .i64 j ∧ j ≤ 8 ∧ Blk w4 w.heap.size 156 (sArr s z j) ∧ Only w.heap.size wr w4) (fun i _ => 8 - (intOf i).toNat)
            case atStart => exact ⟨0, rfl, by omega, Hs0.out.drewN _, (Only.refl _ _).drewN _⟩
            case round =>
              obtain ⟨j, rfl, hj, hb5, ho5⟩ := hrel
              by_cases h8 : j < 8
              · have hx := fun W => run_index8 z j h8 W
                have hc := (hb5.cell j).trans (by rw [sArr_at _ _ _ _ h8, if_neg (by omega)])
                have hf := hb5.frozen j
                have Hb5 := Lib.hid hb5
                have Ho5 := Lib.hid ho5
                clear hb5 ho5
                go_wp2
                go_roundw
                case rel => exact ⟨j + 1, by go_num, by omega, by have := Hb5.out.set_ j (.int .u32 (I32 (s.at j + z.at j))); rwa [sArr_set] at this, Ho5.out.set_ _ _⟩
                case measure => simp [intOf]; omega
              · obtain rfl : j = 8 := by omega
                have h15 := ho5.blk H10.out (by omega)
                have s0 := (hb5.cell 0).trans (sArr_at s z 8 0 (by omega))
                have s1 := (hb5.cell 1).trans (sArr_at s z 8 1 (by omega))
                have s2 := (hb5.cell 2).trans (sArr_at s z 8 2 (by omega))
                have s3 := (hb5.cell 3).trans (sArr_at s z 8 3 (by omega))
                have s4 := (hb5.cell 4).trans (sArr_at s z 8 4 (by omega))
                have s5 := (hb5.cell 5).trans (sArr_at s z 8 5 (by omega))
                have s6 := (hb5.cell 6).trans (sArr_at s z 8 6 (by omega))
                have s7 := (hb5.cell 7).trans (sArr_at s z 8 7 (by omega))
                simp only [if_pos (show 0 < 8 by omega), if_pos (show 1 < 8 by omega), if_pos (show 2 < 8 by omega), if_pos (show 3 < 8 by omega), if_pos (show 4 < 8 by omega), if_pos (show 5 < 8 by omega), if_pos (show 6 < 8 by omega), if_pos (show 7 < 8 by omega)] at s0 s1 s2 s3 s4 s5 s6 s7
                have r0 := h15.cell 0
                have r1 := h15.cell 1
                have r2 := h15.cell 2
                have r3 := h15.cell 3
                have r4 := h15.cell 4
                have r5 := h15.cell 5
                have r6 := h15.cell 6
                have r7 := h15.cell 7
                simp only [List.getElem?_toArray, List.getElem?_cons_zero, List.getElem?_cons_succ] at r0 r1 r2 r3 r4 r5 r6 r7
                have q0 := h15.frozen 0
                have q1 := h15.frozen 1
                have q2 := h15.frozen 2
                have q3 := h15.frozen 3
                have q4 := h15.frozen 4
                have q5 := h15.frozen 5
                have q6 := h15.frozen 6
                have q7 := h15.frozen 7
                have H15 := Lib.hid h15
                have Hb5 := Lib.hid hb5
                have Ho5 := Lib.hid ho5
                clear hb5 ho5 h15
                go_wp2
                refine abs_post ?_
                intro W hW
                have hF : Blk W (w.heap.size + 1) 156 #[.int .u32 (I32 (s.at 0 + z.at 0)), .int .u32 (I32 (s.at 1 + z.at 1)), .int .u32 (I32 (s.at 2 + z.at 2)), .int .u32 (I32 (s.at 3 + z.at 3)), .int .u32 (I32 (s.at 4 + z.at 4)), .int .u32 (I32 (s.at 5 + z.at 5)), .int .u32 (I32 (s.at 6 + z.at 6)), .int .u32 (I32 (s.at 7 + z.at 7))] := by
                  rw [hW]; exact (((((((H15.out.set_ 0 _).set_ 1 _).set_ 2 _).set_ 3 _).set_ 4 _).set_ 5 _).set_ 6 _).set_ 7 _
                have hB : Below w.heap.size w W := by
                  have hb0 : Below w.heap.size w wr := Hl.out.trans ((Ho.out.below (by omega) (Nat.le_of_lt (Nat.lt_trans (Nat.lt_succ_self _) H1.out.lt))).trans (Ho5.out.below (Nat.le_refl _) (Nat.le_of_lt (Nat.lt_trans (Nat.lt_succ_self _) H10.out.lt))))
                  rw [hW]; exact below_set (below_set (below_set (below_set (below_set (below_set (below_set (below_set hb0 (by omega) _ _) (by omega) _ _) (by omega) _ _) (by omega) _ _) (by omega) _ _) (by omega) _ _) (by omega) _ _) (by omega) _ _
                clear hW r0 r1 r2 r3 r4 r5 r6 r7 q0 q1 q2 q3 q4 q5 q6 q7 s0 s1 s2 s3 s4 s5 s6 s7
                have r0 := hF.cell 0
                have r1 := hF.cell 1
                have r2 := hF.cell 2
                have r3 := hF.cell 3
                have r4 := hF.cell 4
                have r5 := hF.cell 5
                have r6 := hF.cell 6
                have r7 := hF.cell 7
                simp only [List.getElem?_toArray, List.getElem?_cons_zero, List.getElem?_cons_succ] at r0 r1 r2 r3 r4 r5 r6 r7
                have hm : mixS ks s bs = s.add z := by unfold mixS; rw [Hz.out]
                refine bodyPost_ret (v := agg8 (s.add z)) ?_ rfl ⟨by rw [hm]; rfl, hB⟩
                simp [results, Try.results97, go_sem, agg8, r0, r1, r2, r3, r4, r5, r6, r7]
                exact ⟨rfl, rfl, rfl, rfl, rfl, rfl, rfl, rfl⟩

end Go.Proofs.Ytgkhdpplmdkkaaa

namespace Go.Proofs.Ytgkhdpplmdkkaaa
open Go.RowKit Go.Lib

namespace Mul64
theorem maskN (a : Nat) (ha : a < 18446744073709551616) : bits .and .u64 (a : Int) 4294967295 = ((a % 4294967296 : Nat) : Int) := by
  have h := u64_and_nat a 4294967295 ha (by omega)
  have e : a &&& 4294967295 = a % 4294967296 := Nat.and_two_pow_sub_one_eq_mod a 32
  rw [e] at h
  exact h
theorem divN (a : Nat) : (a : Int) / 4294967296 = ((a / 4294967296 : Nat) : Int) := by omega
theorem mulN (a b : Nat) : (a : Int) * (b : Int) = ((a * b : Nat) : Int) := (Int.natCast_mul a b).symm
theorem addN (a b : Nat) : (a : Int) + (b : Int) = ((a + b : Nat) : Int) := (Int.natCast_add a b).symm
theorem wrapN (a : Nat) (ha : a < 18446744073709551616) : IntKind.u64.wrap (a : Int) = (a : Int) := by rw [IntKind.wrap_u64]; omega
theorem wrapM (a : Nat) : IntKind.u64.wrap (a : Int) = ((a % 18446744073709551616 : Nat) : Int) := by rw [IntKind.wrap_u64]; omega
end Mul64

/-- 2^64, behind a name -/
def K64 : Nat := 18446744073709551616

set_option maxHeartbeats 1000000 in
theorem mul64_raw (x y : Nat) (hx : x < 18446744073709551616) (hy : y < 18446744073709551616) (w : World) :
    Calls Try.prog 113 #[.int .u64 x, .int .u64 y] w fun e w' => e = .returned (.tuple #[.int .u64 ((x * y / 18446744073709551616 : Nat) : Int), .int .u64 ((x * y % 18446744073709551616 : Nat) : Int)]) ∧ w' = w := by
  obtain ⟨bd, bt, bw, hhi⟩ := Lib.mul64_hi x y hx hy
  have ba := Lib.half_mul_le (a := x / 4294967296) (b := y / 4294967296) (by omega) (by omega)
  have bb := Lib.half_mul_le (a := x / 4294967296) (b := y % 4294967296) (by omega) (by omega)
  have bc := Lib.half_mul_le (a := x % 4294967296) (b := y / 4294967296) (by omega) (by omega)
  have ba' : x / 4294967296 * (y / 4294967296) < 18446744073709551616 := by omega
  have bb' : x / 4294967296 * (y % 4294967296) < 18446744073709551616 := by omega
  have bc' : x % 4294967296 * (y / 4294967296) < 18446744073709551616 := by omega
  have bh1 : x / 4294967296 * (y / 4294967296) + (x / 4294967296 * (y % 4294967296) + x % 4294967296 * (y % 4294967296) / 4294967296) / 4294967296 < 18446744073709551616 := by omega
  have bh : x / 4294967296 * (y / 4294967296) + (x / 4294967296 * (y % 4294967296) + x % 4294967296 * (y % 4294967296) / 4294967296) / 4294967296 + ((x / 4294967296 * (y % 4294967296) + x % 4294967296 * (y % 4294967296) / 4294967296) % 4294967296 + x % 4294967296 * (y / 4294967296)) / 4294967296 < 18446744073709551616 := by omega
  go_enter Try.func113, Try.ntmps113
  go_wp2
  simp only [Mul64.maskN x hx, Mul64.maskN y hy, Mul64.divN, Mul64.mulN, Mul64.addN, Mul64.wrapN _ bd, Mul64.wrapN _ bb', Mul64.wrapN _ bt, Mul64.maskN _ bt, Mul64.wrapN _ bc', Mul64.wrapN _ bw, Mul64.wrapN _ ba', Mul64.wrapN _ bh1, Mul64.wrapN _ bh, Mul64.wrapM (x * y)]
  rw [hhi]
  go_ret2
  exact ⟨rfl, rfl⟩

/-- a tuple of two whole numbers that are hi and lo of n -/
def IsHL (n : Nat) (e : Ending) : Prop := ∃ hi lo : Nat, e = .returned (.tuple #[.int .u64 hi, .int .u64 lo]) ∧ hi * K64 + lo = n ∧ lo < K64

theorem mul64_any (x y : Nat) (hx : x < K64) (hy : y < K64) (w : World) :
    Calls Try.prog 113 #[.int .u64 x, .int .u64 y] w fun e w' => IsHL (x * y) e ∧ w = w' :=
  (mul64_raw x y hx hy w).mono fun e w' ⟨he, hw⟩ => ⟨⟨_, _, he, by unfold K64; omega, Nat.mod_lt _ (by decide)⟩, hw.symm⟩

def sumLo (x y : Nat) : Nat := (x + y) % K64
def sumHi (x y : Nat) : Nat := (x + y) / K64

theorem run_add64_here (x y : Nat) (w : World) : (callFunc 114 #[.int .u64 x, .int .u64 y, .int .u64 0]).run Try.prog w = .ok (.value (.tuple #[.int .u64 (sumLo x y : Int), .int .u64 (sumHi x y : Int)])) w := by
  rw [run_callFunc_extern (e := add64Entry) Try.func114 (by kernel_rfl) (by kernel_rfl) (by kernel_rfl) (by kernel_rfl), run_add64 _ _ _ (Int.natCast_nonneg _) (Int.natCast_nonneg _) (by decide) (by decide)]
  unfold sumLo sumHi K64
  simp [Result.andThen]

/-- is x squared above p times 2^64? -/
def abv (x p : Nat) : Bool := decide (p * K64 < x * x)
theorem abv_of {x p hi lo : Nat} (h : hi * K64 + lo = x * x) (hl : lo < K64) : abv x p = (decide (p < hi) || (decide (hi = p) && decide (0 < lo))) := by
  unfold abv
  unfold K64 at *
  rw [Bool.eq_iff_iff]
  simp
  omega

set_option maxHeartbeats 400000 in
theorem above_any (x p : Nat) (hx : x < K64) (w : World) :
    Calls Try.prog 107 #[.int .u64 x, .int .u64 p] w fun e w' => e = .returned (.bool (abv x p)) ∧ w = w' := by
  have Hx := Lib.hid hx
  clear hx
  go_enter Try.func107, Try.ntmps107
  go_wp2_with fail
  refine (mul64_any x x Hx.out Hx.out _).mono ?_
  rintro e w' ⟨⟨hi, lo, rfl, hs, hl⟩, rfl⟩
  have Hs := Lib.hid hs
  have Hl := Lib.hid hl
  clear hs hl
  go_wp2
  all_goals go_ret
  all_goals refine ⟨ret_bool ?_, rfl⟩
  all_goals (rw [abv_of Hs.out Hl.out, Bool.eq_iff_iff]; simp)
  all_goals omega

/-- is x cubed above p times 2^96? -/
def abc (x p : Nat) : Bool := decide (p * 4294967296 * K64 < x * x * x)
theorem abc_of {x p hi lo top mid more low : Nat} (h1 : hi * K64 + lo = x * x) (h2 : top * K64 + mid = hi * x) (h3 : more * K64 + low = lo * x) (hl : low < K64) (hp : p < 4294967296) :
    abc x p = (decide (0 < top + sumHi mid more) || (decide (p * 4294967296 < sumLo mid more) || (decide (sumLo mid more = p * 4294967296) && decide (0 < low)))) := by
  have e : x * x * x = (top + sumHi mid more) * (K64 * K64) + sumLo mid more * K64 + low := by
    have e1 : x * x * x = (hi * x) * K64 + lo * x := by rw [← h1, Nat.add_mul, Nat.mul_right_comm]
    have e2 : mid + more = sumHi mid more * K64 + sumLo mid more := by unfold sumHi sumLo; rw [Nat.mul_comm]; exact (Nat.div_add_mod _ _).symm
    have e3 : (mid + more) * K64 = sumHi mid more * (K64 * K64) + sumLo mid more * K64 := by rw [e2, Nat.add_mul, Nat.mul_assoc]
    rw [e1, ← h2, ← h3, Nat.add_mul, Nat.add_mul, Nat.mul_assoc]
    rw [Nat.add_mul] at e3
    omega
  have hs : sumLo mid more < K64 := Nat.mod_lt _ (by decide)
  unfold abc
  rw [e]
  generalize sumLo mid more = s at *
  generalize sumHi mid more = c at *
  clear e h1 h2 h3
  unfold K64 at *
  rw [Bool.eq_iff_iff]
  simp
  omega

theorem hi_small {x hi lo : Nat} (hx : x < 17592186044416) (h : hi * K64 + lo = x * x) : hi < 16777216 := by
  have : x * x ≤ 17592186044415 * 17592186044415 := Nat.mul_le_mul (by omega) (by omega)
  unfold K64 at h
  omega
theorem top_small {x hi top mid : Nat} (hx : x < 17592186044416) (hh : hi < 16777216) (h : top * K64 + mid = hi * x) : top < 16 := by
  have : hi * x ≤ 16777215 * 17592186044415 := Nat.mul_le_mul (by omega) (by omega)
  unfold K64 at h
  omega
theorem more_small {x lo more low : Nat} (hx : x < 17592186044416) (hl : lo < K64) (h : more * K64 + low = lo * x) : more < K64 := by
  rcases Nat.lt_or_ge more K64 with h1 | h1
  · exact h1
  · have h2 : lo * x ≤ K64 * 17592186044415 := Nat.mul_le_mul (by omega) (by omega)
    have h3 : K64 * K64 ≤ more * K64 := Nat.mul_le_mul_right _ h1
    unfold K64 at *
    omega
theorem sumHi_le {x y : Nat} (hx : x < K64) (hy : y < K64) : sumHi x y ≤ 1 := by
  unfold sumHi K64 at *; omega
theorem small_K {n : Nat} (h : n < 17592186044416) : n < K64 := by unfold K64; omega
end Go.Proofs.Ytgkhdpplmdkkaaa

namespace Go.Proofs.Ytgkhdpplmdkkaaa
open Go.RowKit Go.Lib

theorem u64_small (n : Int) (h0 : 0 ≤ n) (h1 : n < 18446744073709551616) : IntKind.u64.wrap n = n := by rw [IntKind.wrap_u64]; omega

set_option maxHeartbeats 400000 in
theorem aboveCube_any (x p : Nat) (hx : x < 17592186044416) (hp : p < 4294967296) (w : World) :
    Calls Try.prog 106 #[.int .u64 x, .int .u64 p] w fun e w' => e = .returned (.bool (abc x p)) ∧ w = w' := by
  have Hx := Lib.hid hx
  have Hp := Lib.hid hp
  have hpi : ∃ pi : Int, pi = (p : Int) := ⟨_, rfl⟩
  obtain ⟨pi, hpi⟩ := hpi
  rw [← hpi]
  have hp0 : pi / 4294967296 = 0 := by omega
  have hp1 : IntKind.u64.wrap (pi * 4294967296) = ((p * 4294967296 : Nat) : Int) := by rw [u64_small _ (by omega) (by omega)]; omega
  clear hx hp hpi
  go_enter Try.func106, Try.ntmps106
  go_wp2_with fail
  refine (mul64_any x x (small_K Hx.out) (small_K Hx.out) _).mono ?_
  rintro e w' ⟨⟨hi, lo, rfl, hs, hl⟩, rfl⟩
  have Hs := Lib.hid hs
  have Hl := Lib.hid hl
  have Hhi := Lib.hid (hi_small Hx.out hs)
  clear hs hl
  go_wp2_with fail
  refine (mul64_any hi x (small_K (by have := Hhi.out; omega)) (small_K Hx.out) _).mono ?_
  rintro e w' ⟨⟨top, mid, rfl, hs2, hl2⟩, rfl⟩
  have Htop := Lib.hid (top_small Hx.out Hhi.out hs2)
  have Hs2 := Lib.hid hs2
  have Hl2 := Lib.hid hl2
  clear hs2 hl2
  go_wp2_with fail
  refine (mul64_any lo x Hl.out (small_K Hx.out) _).mono ?_
  rintro e w' ⟨⟨more, low, rfl, hs3, hl3⟩, rfl⟩
  have Hmore := Lib.hid (more_small Hx.out Hl.out hs3)
  have Hs3 := Lib.hid hs3
  have Hl3 := Lib.hid hl3
  clear hs3 hl3
  have hadd := run_add64_here mid more
  have hw : IntKind.u64.wrap ((top : Int) + (sumHi mid more : Int)) = ((top + sumHi mid more : Nat) : Int) := by
    have := sumHi_le Hl2.out Hmore.out
    have := Htop.out
    rw [u64_small _ (by omega) (by omega)]; omega
  have Hab := Lib.hid (abc_of Hs.out Hs2.out Hs3.out Hl3.out Hp.out)
  generalize sumHi mid more = c at *
  generalize sumLo mid more = s at *
  generalize top + c = tc at *
  generalize p * 4294967296 = pq at *
  by_cases hA : 0 < tc
  · have hA2 : (0 : Int) < (tc : Int) := by omega
    go_wp2
    go_ret
    exact ⟨ret_bool (by rw [Hab.out]; simp [hA]), rfl⟩
  · obtain rfl : tc = 0 := by omega
    by_cases hB : pq < s
    · have hB2 : (pq : Int) < (s : Int) := by omega
      go_wp2
      go_ret
      exact ⟨ret_bool (by rw [Hab.out]; simp [hB]), rfl⟩
    · by_cases hC : s = pq
      · subst hC
        go_wp2
        go_ret
        exact ⟨ret_bool (by rw [Hab.out]; simp), rfl⟩
      · have hD : ((s : Int) == (pq : Int)) = false := by rw [beq_eq_false_iff_ne]; omega
        have hB2 : ¬ (pq : Int) < (s : Int) := by omega
        have hB3 : decide ((pq : Int) < (s : Int)) = false := by simp; omega
        have hB4 : decide (pq < s) = false := by simp; omega
        have HC := Lib.hid hC
        have HB := Lib.hid hB
        clear hC hB
        go_wp2
        go_ret
        exact ⟨ret_bool (by have := HC.out; rw [Hab.out, hB4]; simp [this]), rfl⟩

/-- one bit of a root: is it set? -/
def rbit (p : Nat) (cube : Bool) (y : Nat) : Bool := if cube then decide (y < 17592186044416) && !abc y p else !abv y p
def rstep (p : Nat) (cube : Bool) (x i : Nat) : Nat := if rbit p cube (x ||| 2 ^ (48 - i)) then x ||| 2 ^ (48 - i) else x
def riter (p : Nat) (cube : Bool) : Nat → Nat
  | 0 => 0
  | n + 1 => rstep p cube (riter p cube n) n
def B49 : Nat := 562949953421312
theorem or_lt49 {x n : Nat} (hx : x < B49) (hn : n < 49) : x ||| 2 ^ (48 - n) < B49 := by
  have hx' : x < 2 ^ 49 := hx
  show _ < 2 ^ 49
  exact Nat.or_lt_two_pow hx' (Nat.pow_lt_pow_right (by decide) (by omega))
theorem riter_lt (p : Nat) (cube : Bool) (n : Nat) (hn : n ≤ 49) : riter p cube n < B49 := by
  induction n with
  | zero => show 0 < B49; unfold B49; omega
  | succ n ih =>
    have ih := ih (by omega)
    show rstep p cube (riter p cube n) n < B49
    unfold rstep
    split
    · exact or_lt49 ih (by omega)
    · exact ih

theorem small49 {y : Nat} (h : y < B49) : y < K64 := by unfold B49 at h; unfold K64; omega
theorem or_root {x n : Nat} (hx : x < B49) (hn : n < 49) : bits BinOp.or .u64 (x : Int) (IntKind.u64.wrap ((2 : Int) ^ (48 - n))) = ((x ||| 2 ^ (48 - n) : Nat) : Int) := by
  have h2 : (2 : Nat) ^ (48 - n) < 18446744073709551616 := Nat.lt_of_le_of_lt (Nat.pow_le_pow_right (by decide) (show 48 - n ≤ 48 by omega)) (by decide)
  have e : IntKind.u64.wrap ((2 : Int) ^ (48 - n)) = ((2 ^ (48 - n) : Nat) : Int) := by
    have : ((2 : Int) ^ (48 - n)) = ((2 ^ (48 - n) : Nat) : Int) := by simp [Int.natCast_pow]
    rw [this, u64_small _ (Int.natCast_nonneg _) (by omega)]
  rw [e, u64_or_nat _ _ (by unfold B49 at hx; omega) h2]
theorem mod32 (x : Nat) : IntKind.u32.wrap (x : Int) = ((x % 4294967296 : Nat) : Int) := by rw [IntKind.wrap_u32']; omega

set_option maxRecDepth 100000 in
set_option maxHeartbeats 1000000 in
theorem rootS_any (p : Nat) (hp : p < 4294967296) (w : World) :
    Calls Try.prog 95 #[.int .u32 p, .bool false] w fun e w' => e = .returned (.int .u32 ((riter p false 49 % 4294967296 : Nat) : Int)) ∧ w' = w := by
  have Hp := Lib.hid hp
  have hp2 : IntKind.u64.wrap (p : Int) = (p : Int) := u64_small _ (by omega) (by omega)
  clear hp
  go_enter Try.func95, Try.ntmps95
  go_wp2_with fail
  go_loopw [5, 8] (fun x i w1 => ∃ n : Nat, i = .int .i64 n ∧ n ≤ 49 ∧ x = .int .u64 (riter p false n) ∧ w1 = w) (fun _ i _ => 49 - (intOf i).toNat)
  case atStart => exact ⟨0, rfl, by omega, rfl, rfl⟩
  case round =>
    obtain ⟨n, rfl, hn, rfl, rfl⟩ := hrel
    have Hlt := Lib.hid (riter_lt p false n hn)
    by_cases h49 : n < 49
    · have hr : riter p false (n + 1) = rstep p false (riter p false n) n := rfl
      generalize riter p false n = x at *
      have hy := or_root Hlt.out h49
      have hyl := or_lt49 Hlt.out h49
      unfold rstep at hr
      generalize x ||| 2 ^ (48 - n) = y at *
      have Hr := Lib.hid hr
      have Hyl := Lib.hid hyl
      clear hr hyl
      go_wp2_with fail
      refine (above_any y p (small49 Hyl.out) _).mono ?_
      rintro e w' ⟨rfl, rfl⟩
      cases hab : abv y p
      all_goals
        have Hab := Lib.hid hab
        clear hab
        go_wp2
        go_roundw
        case rel => exact ⟨n + 1, by go_num, by omega, by rw [Hr.out]; simp [rbit, Hab.out], by first | rfl | trivial⟩
        case measure => simp [intOf]; omega
    · obtain rfl : n = 49 := by omega
      have hm := mod32 (riter p false 49)
      have hz : ∃ z : Nat, z = riter p false 49 % 4294967296 := ⟨_, rfl⟩
      obtain ⟨z, hz⟩ := hz
      rw [← hz] at hm
      have Hz := Lib.hid hz
      clear hz
      generalize hx : riter p false 49 = x at hm
      clear hx
      go_wp2
      go_ret
      exact ⟨by rw [← Hz.out]; rfl, rfl⟩

set_option maxRecDepth 100000 in
set_option maxHeartbeats 1000000 in
theorem rootC_any (p : Nat) (hp : p < 4294967296) (w : World) :
    Calls Try.prog 95 #[.int .u32 p, .bool true] w fun e w' => e = .returned (.int .u32 ((riter p true 49 % 4294967296 : Nat) : Int)) ∧ w' = w := by
  have Hp := Lib.hid hp
  have hp2 : IntKind.u64.wrap (p : Int) = (p : Int) := u64_small _ (by omega) (by omega)
  clear hp
  go_enter Try.func95, Try.ntmps95
  go_wp2_with fail
  go_loopw [5, 8] (fun x i w1 => ∃ n : Nat, i = .int .i64 n ∧ n ≤ 49 ∧ x = .int .u64 (riter p true n) ∧ w1 = w) (fun _ i _ => 49 - (intOf i).toNat)
  case atStart => exact ⟨0, rfl, by omega, rfl, rfl⟩
  case round =>
    obtain ⟨n, rfl, hn, rfl, rfl⟩ := hrel
    have Hlt := Lib.hid (riter_lt p true n hn)
    by_cases h49 : n < 49
    · have hr : riter p true (n + 1) = rstep p true (riter p true n) n := rfl
      generalize riter p true n = x at *
      have hy := or_root Hlt.out h49
      have hyl := or_lt49 Hlt.out h49
      unfold rstep at hr
      generalize x ||| 2 ^ (48 - n) = y at *
      have Hr := Lib.hid hr
      have Hyl := Lib.hid hyl
      clear hr hyl
      have hyi : ∃ yi : Int, yi = (y : Int) := ⟨_, rfl⟩
      obtain ⟨yi, hyi⟩ := hyi
      rw [← hyi] at hy
      have Hyi := Lib.hid hyi
      by_cases h44 : y < 17592186044416
      · have hd : decide (yi < 17592186044416) = true := by rw [hyi]; simp; omega
        have H44 := Lib.hid h44
        clear h44 hyi
        go_wp2_with fail
        rw [Hyi.out]
        refine (aboveCube_any y p H44.out Hp.out _).mono ?_
        rintro e w' ⟨rfl, rfl⟩
        clear hd hy
        cases hab : abc y p
        all_goals
          have Hab := Lib.hid hab
          clear hab
          go_wp2
          go_roundw
          case rel => exact ⟨n + 1, by go_num, by omega, by rw [Hr.out]; simp [rbit, Hab.out, H44.out], by first | rfl | trivial⟩
          case measure => simp [intOf]; omega
      · have hd : decide (yi < 17592186044416) = false := by rw [hyi]; simp; omega
        have H44 := Lib.hid h44
        clear h44 hyi
        go_wp2
        go_roundw
        case rel => exact ⟨n + 1, by go_num, by omega, by rw [Hr.out]; simp [rbit, H44.out], by first | rfl | trivial⟩
        case measure => simp [intOf]; omega
    · obtain rfl : n = 49 := by omega
      have hm := mod32 (riter p true 49)
      have hz : ∃ z : Nat, z = riter p true 49 % 4294967296 := ⟨_, rfl⟩
      obtain ⟨z, hz⟩ := hz
      rw [← hz] at hm
      have Hz := Lib.hid hz
      clear hz
      generalize hx : riter p true 49 = x at hm
      clear hx
      go_wp2
      go_ret
      exact ⟨by rw [← Hz.out]; rfl, rfl⟩

end Go.Proofs.Ytgkhdpplmdkkaaa

namespace Go.Proofs.Ytgkhdpplmdkkaaa
open Go Go.RowKit

/-- trial division from d on, at most so many times -/
def whl (p : Nat) : Nat → Nat → Bool → Bool
  | 0, _, b => b
  | f + 1, d, b => if d * d ≤ p then whl p f (d + 1) (b && (p % d != 0)) else b
def isP (p : Nat) : Bool := whl p 20 2 true
/-- the primes below p, from 2 on: p = 2 + n -/
def pls : Nat → List Nat
  | 0 => []
  | n + 1 => if isP (n + 2) then pls n ++ [n + 2] else pls n
/-- the i-th prime -/
def prm (i : Nat) : Nat := (pls 310).getD i 0

theorem pls_310 : (pls 310).length = 64 := by decide +kernel
theorem pls_fact : (List.range 310).all (fun n => !isP (n + 2) || ((pls 310).getD (pls n).length 0 == n + 2)) = true := by decide +kernel
theorem prm_at {n : Nat} (hn : n < 310) (h : isP (n + 2) = true) : prm (pls n).length = n + 2 := by
  have := (List.all_eq_true.1 pls_fact) n (List.mem_range.2 hn)
  unfold prm
  simpa [h] using this
theorem pls_step (n : Nat) : (pls (n + 1)).length = (pls n).length + if isP (n + 2) then 1 else 0 := by
  show (if isP (n + 2) then pls n ++ [n + 2] else pls n).length = _
  split <;> simp
theorem pls_18 : (pls 18).length = 8 := by decide +kernel

/-- the word of the j-th prime's cube root, of its square root -/
def kw (j : Nat) : UInt32 := UInt32.ofNat (riter (prm j) true 49)
def iw (j : Nat) : UInt32 := UInt32.ofNat (riter (prm j) false 49)
theorem I32_mod (n : Nat) : ((n % 4294967296 : Nat) : Int) = I32 (UInt32.ofNat n) := by
  unfold I32; rw [UInt32.toNat_ofNat']

theorem modB (p d : Nat) : ((p : Int) % (d : Int) != 0) = (p % d != 0) := by
  rw [← Int.natCast_emod, Bool.eq_iff_iff]
  simp only [bne_iff_ne, ne_eq]
  omega
theorem whl_in {p d : Nat} {b : Bool} (h : d * d ≤ p) (hd : d ≤ 21) : whl p (22 - d) d b = whl p (22 - (d + 1)) (d + 1) (b && (p % d != 0)) := by
  rw [show 22 - d = (22 - (d + 1)) + 1 by omega, whl, if_pos h]
theorem whl_out {p d : Nat} {b : Bool} (h : ¬ d * d ≤ p) (hd : d ≤ 21) : whl p (22 - d) d b = b := by
  rw [show 22 - d = (22 - (d + 1)) + 1 by omega, whl, if_neg h]
theorem d_small {p d : Nat} (h : d * d ≤ p) (hp : p ≤ 311) : d ≤ 17 := by
  rcases Nat.lt_or_ge d 18 with h1 | h1
  · omega
  · have := Nat.mul_le_mul h1 h1; omega
theorem kw_at {n : Nat} (hn : n < 310) (h : isP (n + 2) = true) : UInt32.ofNat (riter (n + 2) true 49) = kw (pls n).length := by
  unfold kw; rw [prm_at hn h]
theorem iw_at {n : Nat} (hn : n < 310) (h : isP (n + 2) = true) : UInt32.ofNat (riter (n + 2) false 49) = iw (pls n).length := by
  unfold iw; rw [prm_at hn h]
theorem rootC (p : Nat) (hp : p < 4294967296) (w : World) :
    Calls Try.prog 95 #[.int .u32 p, .bool true] w fun e w' => e = .returned (.int .u32 (I32 (UInt32.ofNat (riter p true 49)))) ∧ w' = w :=
  (rootC_any p hp w).mono fun e w' ⟨he, hw⟩ => ⟨by rw [he, I32_mod], hw⟩
theorem rootS (p : Nat) (hp : p < 4294967296) (w : World) :
    Calls Try.prog 95 #[.int .u32 p, .bool false] w fun e w' => e = .returned (.int .u32 (I32 (UInt32.ofNat (riter p false 49)))) ∧ w' = w :=
  (rootS_any p hp w).mono fun e w' ⟨he, hw⟩ => ⟨by rw [he, I32_mod], hw⟩

end Go.Proofs.Ytgkhdpplmdkkaaa

namespace Go.Proofs.Ytgkhdpplmdkkaaa
open Go.RowKit Go.Lib

theorem info64 : (Try.prog.info? 154).map (·.size) = some 64 := by kernel_rfl

set_option maxRecDepth 100000 in
set_option maxHeartbeats 1000000 in
theorem roots_any (w : World) :
    Calls Try.prog 94 #[] w fun e w' => e = .returned (.agg (wArr kw 64 64)) ∧ Below w.heap.size w w' := by
  go_enter Try.func94, Try.ntmps94
  go_wp2_with fail
  refine abs_world ?_
  intro w1 hw1
  have h0 : Blk w1 w.heap.size 154 (wArr kw 0 64) := by
    rw [hw1]; exact (Blk.new_at _ _ _ _ _ rfl rfl).alloc _
  have h1 : Blk w1 (w.heap.size + 1) 154 (wArr kw 0 64) := by
    rw [hw1]; exact Blk.new_at _ _ _ _ _ (by simp) rfl
  have hl : Below w.heap.size w w1 := by
    rw [hw1]; exact ((Below.refl _ _).alloc (Nat.le_refl _) _).alloc (by simp) _
  clear hw1
  have H0 := Lib.hid h0
  have H1 := Lib.hid h1
  have Hl := Lib.hid hl
  clear h0 h1 hl
  go_loopw [2, 3] (fun i q wr => ∃ n k : Nat, i = .int .i64 k ∧ q = .int .u32 ((n + 2 : Nat) : Int) ∧ k = (pls n).length ∧ n ≤ 310 ∧ k ≤ 64 ∧ Blk wr (w.heap.size + 1) 154 (wArr kw k 64) ∧ Only (w.heap.size + 1) w1 wr) (fun _ q _ => 400 - (intOf q).toNat)
  case atStart => exact ⟨0, 0, rfl, rfl, rfl, by omega, by omega, H1.out, Only.refl _ _⟩
  case round =>
    obtain ⟨n, k, rfl, rfl, hkn, hn, hk, hb, ho⟩ := hrel
    have Hb := Lib.hid hb
    have Ho := Lib.hid ho
    have Hkn := Lib.hid hkn
    clear hb ho hkn
    by_cases h64 : k < 64
    · have hk64 : decide ((k : Int) < 64) = true := by simp; omega
      have hn3 : n < 310 := by
        rcases Nat.lt_or_ge n 310 with h | h
        · exact h
        · have h1 : n = 310 := by omega
          have h2 := Hkn.out
          rw [h1, pls_310] at h2
          omega
      have hp : ∃ p, p = n + 2 := ⟨_, rfl⟩
      obtain ⟨p, hp⟩ := hp
      rw [← hp]
      have Hp := Lib.hid hp
      have hp2 : 2 ≤ p := by omega
      have hp3 : p ≤ 311 := by omega
      clear hp
      go_wp2_with fail
      go_loopw [4, 5] (fun b d w3 => ∃ (dn : Nat) (bb : Bool), d = .int .u32 dn ∧ b = .bool bb ∧ 2 ≤ dn ∧ dn ≤ 18 ∧ whl p (22 - dn) dn bb = isP p ∧ w3 = wr) (fun _ d _ => 30 - (intOf d).toNat)
      case atStart => exact ⟨2, true, rfl, rfl, by omega, by omega, rfl, rfl⟩
      case round =>
        obtain ⟨d, b, rfl, rfl, hd2, hd18, hwh, rfl⟩ := hrel
        have Hwh := Lib.hid hwh
        clear hwh
        by_cases hdd : d * d ≤ p
        · have hdt : decide ((d : Int) * (d : Int) ≤ (p : Int)) = true := by simp; exact_mod_cast hdd
          cases b
          · go_wp2
            go_roundw
            case rel => exact ⟨d + 1, false, by go_num, rfl, by omega, by have := d_small hdd hp3; omega, by have := Hwh.out; rw [whl_in hdd (by omega)] at this; exact this, by first | rfl | trivial⟩
            case measure => simp [intOf]; omega
          · go_wp2
            go_roundw
            case rel => exact ⟨d + 1, (p % d != 0), by go_num, congrArg Value.bool (modB p d), by omega, by have := d_small hdd hp3; omega, by have := Hwh.out; rw [whl_in hdd (by omega), Bool.true_and] at this; exact this, by first | rfl | trivial⟩
            case measure => simp [intOf]; omega
        · have hdt : decide ((d : Int) * (d : Int) ≤ (p : Int)) = false := by
            simp only [decide_eq_false_iff_not]; exact_mod_cast hdd
          have hd3 : (d : Int) * (d : Int) ≤ 324 := by
            have := Nat.mul_le_mul hd18 hd18
            exact_mod_cast this
          have hd4 : 0 ≤ (d : Int) * (d : Int) := by exact_mod_cast Nat.zero_le (d * d)
          have hbp : b = isP p := by rw [← Hwh.out, whl_out hdd (by omega)]
          have Hbp := Lib.hid hbp
          clear hbp
          cases b
          · go_wp2
            go_roundw
            case rel => exact ⟨n + 1, k, rfl, by rw [Hp.out]; simp; omega, by rw [pls_step, ← Hp.out, ← Hbp.out]; exact Hkn.out, by omega, by omega, Hb.out, Ho.out⟩
            case measure => simp [intOf]; omega
          · have hc := (Hb.out.cell k).trans (wArr_at _ _ _ _ h64)
            have hf := Hb.out.frozen k
            have hkw : UInt32.ofNat (riter p true 49) = kw k := by rw [Hp.out, Hkn.out]; exact kw_at hn3 (by rw [← Hp.out]; exact Hbp.out.symm)
            have Hkw := Lib.hid hkw
            clear hkw
            go_wp2_with fail
            refine (rootC p (by omega) _).mono ?_
            rintro e w' ⟨rfl, rfl⟩
            rw [Hkw.out]
            go_wp2
            go_roundw
            case rel => exact ⟨n + 1, k + 1, by go_num, by rw [Hp.out]; simp; omega, by rw [pls_step, ← Hp.out, ← Hbp.out]; simp [← Hkn.out], by omega, by omega, by have := Hb.out.set_ k (.int .u32 (I32 (kw k))); rwa [wArr_set] at this, Ho.out.set_ _ _⟩
            case measure => simp [intOf]; omega
    · obtain rfl : k = 64 := by omega
      have hk64 : decide (((64 : Nat) : Int) < 64) = false := by decide
      have hi : (Try.prog.info? 154).map (·.size) = some (wArr kw 64 64).size := by rw [wArr_size]; exact info64
      have hz := Ho.out.blk H0.out (by omega)
      have Hz := Lib.hid hz
      have Hi := Lib.hid hi
      clear hz hi
      go_wp2_with (first
        | (refine wpList_load_row rfl 154 (.tmp 1) rfl (w.heap.size + 1) rfl 154 (wArr kw 64 64) (0, 0) _ Hb.out Try.underlying154 rfl Hi.out ?_)
        | (refine wpList_store_row rfl 154 (.tmp 0) (.tmp 31) rfl w.heap.size (wArr kw 64 64) rfl rfl 154 (wArr kw 0 64) Hz.out Hi.out (by rw [wArr_size, wArr_size]) (wArr_one _ _ _) ?_))
      refine bodyPost_ret (v := .agg (wArr kw 64 64)) (results_cell_row (t := 154) (fr := (0, 0)) rfl _ _ w.heap.size _ _ rfl (setRow_heap _ _ _ _ _ _ Hz.out) Try.underlying154 rfl Hi.out) rfl ⟨rfl, ?_⟩
      exact below_setRow (Hl.out.trans (Ho.out.below (by omega) (by have := H1.out.lt; omega))) (Nat.le_refl _) _

end Go.Proofs.Ytgkhdpplmdkkaaa

namespace Go.Proofs.Ytgkhdpplmdkkaaa
open Go.RowKit Go.Lib

theorem pls_mono {m n : Nat} (h : m ≤ n) : (pls m).length ≤ (pls n).length := by
  induction h with
  | refl => exact Nat.le_refl _
  | step _ ih => rw [pls_step]; omega

set_option maxRecDepth 100000 in
set_option maxHeartbeats 1000000 in
theorem prime_any (i : Nat) (hi : i < 8) (w : World) :
    Calls Try.prog 96 #[.int .i64 i] w fun e w' => e = .returned (.int .u32 ((prm i : Nat) : Int)) ∧ w' = w := by
  have hi99 : (i : Int) ≤ 99 := by omega
  go_enter Try.func96, Try.ntmps96
  go_wp2_with fail
  go_loopw [3, 4] (fun q c wr => ∃ n k : Nat, c = .int .i64 k ∧ q = .int .u32 ((n + 2 : Nat) : Int) ∧ k = (pls n).length ∧ n < 18 ∧ k ≤ i ∧ wr = w) (fun q _ _ => 400 - (intOf q).toNat)
  case atStart => exact ⟨0, 0, rfl, rfl, rfl, by omega, by omega, rfl⟩
  case round =>
    obtain ⟨n, k, rfl, rfl, hkn, hn, hk, rfl⟩ := hrel
    have Hkn := Lib.hid hkn
    clear hkn
    have hp : ∃ p, p = n + 2 := ⟨_, rfl⟩
    obtain ⟨p, hp⟩ := hp
    rw [← hp]
    have Hp := Lib.hid hp
    have hp2 : 2 ≤ p := by omega
    have hp3 : p ≤ 311 := by omega
    clear hp
    go_wp2_with fail
    go_loopw [5, 6] (fun b d w3 => ∃ (dn : Nat) (bb : Bool), d = .int .u32 dn ∧ b = .bool bb ∧ 2 ≤ dn ∧ dn ≤ 18 ∧ whl p (22 - dn) dn bb = isP p ∧ w3 = wr) (fun _ d _ => 30 - (intOf d).toNat)
    case atStart => exact ⟨2, true, rfl, rfl, by omega, by omega, rfl, rfl⟩
    case round =>
      obtain ⟨d, b, rfl, rfl, hd2, hd18, hwh, rfl⟩ := hrel
      have Hwh := Lib.hid hwh
      clear hwh
      by_cases hdd : d * d ≤ p
      · have hdt : decide ((d : Int) * (d : Int) ≤ (p : Int)) = true := by simp; exact_mod_cast hdd
        cases b
        · go_wp2
          go_roundw
          case rel => exact ⟨d + 1, false, by go_num, rfl, by omega, by have := d_small hdd hp3; omega, by have := Hwh.out; rw [whl_in hdd (by omega)] at this; exact this, by first | rfl | trivial⟩
          case measure => simp [intOf]; omega
        · go_wp2
          go_roundw
          case rel => exact ⟨d + 1, (p % d != 0), by go_num, congrArg Value.bool (modB p d), by omega, by have := d_small hdd hp3; omega, by have := Hwh.out; rw [whl_in hdd (by omega), Bool.true_and] at this; exact this, by first | rfl | trivial⟩
          case measure => simp [intOf]; omega
      · have hdt : decide ((d : Int) * (d : Int) ≤ (p : Int)) = false := by
          simp only [decide_eq_false_iff_not]; exact_mod_cast hdd
        have hd3 : (d : Int) * (d : Int) ≤ 324 := by
          have := Nat.mul_le_mul hd18 hd18
          exact_mod_cast this
        have hd4 : 0 ≤ (d : Int) * (d : Int) := by exact_mod_cast Nat.zero_le (d * d)
        have hbp : b = isP p := by rw [← Hwh.out, whl_out hdd (by omega)]
        have Hbp := Lib.hid hbp
        clear hbp
        have hn17 : isP p = false ∨ k < i → n + 1 < 18 := by
          intro h
          rcases Nat.lt_or_ge (n + 1) 18 with h1 | h1
          · exact h1
          · have h2 := pls_18
            rw [show 18 = n + 1 by omega, pls_step, ← Hp.out, ← Hkn.out] at h2
            rcases h with h | h
            · rw [h] at h2; simp at h2; omega
            · split at h2 <;> omega
        have Hn17 := Lib.hid hn17
        clear hn17
        cases b
        · have h1 := Hn17.out (.inl Hbp.out.symm)
          go_wp2
          go_roundw
          case rel => exact ⟨n + 1, k, rfl, by rw [Hp.out]; simp; omega, by rw [pls_step, ← Hp.out, ← Hbp.out]; exact Hkn.out, h1, by omega, by first | rfl | trivial⟩
          case measure => simp [intOf]; omega
        · by_cases hki : k = i
          · subst hki
            have he : prm k = p := by rw [Hkn.out, Hp.out]; exact prm_at (by omega) (by rw [← Hp.out]; exact Hbp.out.symm)
            have He := Lib.hid he
            clear he
            go_wp2
            go_ret
            exact ⟨by rw [He.out]; rfl, rfl⟩
          · have h1 := Hn17.out (.inr (by omega))
            have hke : ((k : Int) == (i : Int)) = false := by rw [beq_eq_false_iff_ne]; omega
            go_wp2
            go_roundw
            case rel => exact ⟨n + 1, k + 1, by go_num, by rw [Hp.out]; simp; omega, by rw [pls_step, ← Hp.out, ← Hbp.out]; simp [← Hkn.out], h1, by omega, by first | rfl | trivial⟩
            case measure => simp [intOf]; omega

end Go.Proofs.Ytgkhdpplmdkkaaa

namespace Go.Proofs.Ytgkhdpplmdkkaaa
open Go.RowKit Go.Lib

/-- the cells of a digest under way -/
def hCells (kk : Nat → UInt32) (s8 : Array Value) (rest : Value) (n : Int) : Array Value := wArr kk 64 64 ++ s8 ++ #[rest, .int .i64 n]

section
variable {kk : Nat → UInt32} {s8 : Array Value} {rest : Value} {n : Int}
theorem hCells_size (h8 : s8.size = 8) : (hCells kk s8 rest n).size = 74 := by simp [hCells, wArr_size, h8]
theorem hCells_k (h8 : s8.size = 8) {j : Nat} (hj : j < 64) : (hCells kk s8 rest n)[j]? = some (.int .u32 (I32 (kk j))) := by
  unfold hCells
  rw [Array.getElem?_append_left (by simp [wArr_size, h8]; omega), Array.getElem?_append_left (by rw [wArr_size]; exact hj), wArr_at _ _ _ _ hj, if_pos hj]
theorem hCells_s (h8 : s8.size = 8) {j : Nat} (hj : j < 8) : (hCells kk s8 rest n)[64 + j]? = s8[j]? := by
  unfold hCells
  rw [Array.getElem?_append_left (by simp [wArr_size, h8]; omega), Array.getElem?_append_right (by rw [wArr_size]; omega), wArr_size, Nat.add_sub_cancel_left]
theorem hCells_rest (h8 : s8.size = 8) : (hCells kk s8 rest n)[72]? = some rest := by
  unfold hCells
  rw [Array.getElem?_append_right (by simp [wArr_size, h8])]
  simp [wArr_size, h8]
theorem hCells_n (h8 : s8.size = 8) : (hCells kk s8 rest n)[73]? = some (.int .i64 n) := by
  unfold hCells
  rw [Array.getElem?_append_right (by simp [wArr_size, h8])]
  simp [wArr_size, h8]
theorem hCells_ext {a : Array Value} (h8 : s8.size = 8) (hs : a.size = 74) (h1 : ∀ j, j < 64 → a[j]? = some (.int .u32 (I32 (kk j)))) (h2 : ∀ j, j < 8 → a[64 + j]? = s8[j]?) (h3 : a[72]? = some rest) (h4 : a[73]? = some (.int .i64 n)) : a = hCells kk s8 rest n := by
  apply Array.ext_getElem?
  intro i
  by_cases c1 : i < 64
  · rw [h1 i c1, hCells_k h8 c1]
  · by_cases c2 : i < 72
    · obtain ⟨j, rfl⟩ : ∃ j, i = 64 + j := ⟨i - 64, by omega⟩
      rw [h2 j (by omega), hCells_s h8 (by omega)]
    · by_cases c3 : i = 72
      · subst c3; rw [h3, hCells_rest h8]
      · by_cases c4 : i = 73
        · subst c4; rw [h4, hCells_n h8]
        · rw [Array.getElem?_eq_none (by omega), Array.getElem?_eq_none (by rw [hCells_size h8]; omega)]
theorem hCells_set_s (h8 : s8.size = 8) {j : Nat} (hj : j < 8) (v : Value) : (hCells kk s8 rest n).setIfInBounds (64 + j) v = hCells kk (s8.setIfInBounds j v) rest n := by
  refine hCells_ext (by simpa using h8) (by simp [hCells_size h8]) (fun i hi => ?_) (fun i hi => ?_) ?_ ?_
  · rw [Array.getElem?_setIfInBounds_ne (by omega), hCells_k h8 hi]
  · by_cases e : i = j
    · subst e; rw [Array.getElem?_setIfInBounds_self, Array.getElem?_setIfInBounds_self, hCells_size h8, h8]; simp [hi]; omega
    · rw [Array.getElem?_setIfInBounds_ne (by omega), Array.getElem?_setIfInBounds_ne (by omega), hCells_s h8 hi]
  · rw [Array.getElem?_setIfInBounds_ne (by omega), hCells_rest h8]
  · rw [Array.getElem?_setIfInBounds_ne (by omega), hCells_n h8]
theorem hCells_set_rest (h8 : s8.size = 8) (v : Value) : (hCells kk s8 rest n).setIfInBounds 72 v = hCells kk s8 v n := by
  refine hCells_ext h8 (by simp [hCells_size h8]) (fun i hi => ?_) (fun i hi => ?_) ?_ ?_
  · rw [Array.getElem?_setIfInBounds_ne (by omega), hCells_k h8 hi]
  · rw [Array.getElem?_setIfInBounds_ne (by omega), hCells_s h8 hi]
  · rw [Array.getElem?_setIfInBounds_self, hCells_size h8]; simp
  · rw [Array.getElem?_setIfInBounds_ne (by omega), hCells_n h8]
theorem hCells_set_n (h8 : s8.size = 8) (m : Int) : (hCells kk s8 rest n).setIfInBounds 73 (.int .i64 m) = hCells kk s8 rest m := by
  refine hCells_ext h8 (by simp [hCells_size h8]) (fun i hi => ?_) (fun i hi => ?_) ?_ ?_
  · rw [Array.getElem?_setIfInBounds_ne (by omega), hCells_k h8 hi]
  · rw [Array.getElem?_setIfInBounds_ne (by omega), hCells_s h8 hi]
  · rw [Array.getElem?_setIfInBounds_ne (by omega), hCells_rest h8]
  · rw [Array.getElem?_setIfInBounds_self, hCells_size h8]; simp
end

theorem prm_small {j : Nat} (h : j < 8) : prm j < 4294967296 := by
  have : j = 0 ∨ j = 1 ∨ j = 2 ∨ j = 3 ∨ j = 4 ∨ j = 5 ∨ j = 6 ∨ j = 7 := by omega
  rcases this with rfl | rfl | rfl | rfl | rfl | rfl | rfl | rfl <;> decide +kernel

theorem zeros_fold : Array.foldl (fun cs x => cs.setIfInBounds x.snd x.fst) Try.zeroCells158 (wArr kw 64 64).zipIdx 0 64 = hCells kw (wArr iw 0 8) (.slice none 0 0) 0 := by kernel_rfl

set_option maxRecDepth 100000 in
set_option maxHeartbeats 1000000 in
theorem newsha_any (w : World) :
    Calls Try.prog 85 #[] w fun e w' => ∃ g, e = .returned (.pointer (some ⟨g, 0, none⟩)) ∧ Blk w' g 158 (hCells kw (wArr iw 8 8) (.slice none 0 0) 0) ∧ Below w.heap.size w w' ∧ w.heap.size ≤ g := by
  go_enter Try.func85, Try.ntmps85
  go_wp2_with fail
  refine (roots_any _).mono ?_
  rintro e w1 ⟨rfl, hl1⟩
  have Hl1 := Lib.hid hl1
  clear hl1
  generalize hk : wArr kw 64 64 = KW
  have Hk := Lib.hid hk
  have hks : KW.size = 64 := by rw [← hk, wArr_size]
  clear hk
  go_wp2_with fail
  refine abs_world ?_
  intro w2 hw2
  rw [← Hk.out, zeros_fold] at hw2
  have hb2 : Blk w2 w1.heap.size 158 (hCells kw (wArr iw 0 8) (.slice none 0 0) 0) := by rw [hw2]; exact Blk.new _ _ _
  have hl2 : Below w.heap.size w w2 := by rw [hw2]; exact Hl1.out.alloc Hl1.out.size _
  clear hw2
  have Hb2 := Lib.hid hb2
  have Hl2 := Lib.hid hl2
  clear hb2 hl2
  go_loopw [6] (fun i wr => ∃ j : Nat, i = .int .i64 j ∧ j ≤ 8 ∧ Blk wr w1.heap.size 158 (hCells kw (wArr iw j 8) (.slice none 0 0) 0) ∧ Below w.heap.size w wr) (fun i _ => 8 - (intOf i).toNat)
  case atStart => exact ⟨0, rfl, by omega, Hb2.out, Hl2.out⟩
  case round =>
    obtain ⟨j, rfl, hj, hb, hl⟩ := hrel
    have Hb := Lib.hid hb
    have Hl := Lib.hid hl
    clear hb hl
    by_cases h8 : j < 8
    · have hc := (Hb.out.cell (64 + j)).trans ((hCells_s (wArr_size _ _ _) h8).trans (wArr_at _ _ _ _ h8))
      have hf := Hb.out.frozen (64 + j)
      go_wp2_with fail
      refine wp_region_still_tail 8 (by kernel_rfl) (by kernel_rfl) ?_
      simp only [List.take_succ_cons, List.take_zero, List.drop_succ_cons, List.drop_zero]
      change wpStill _ _ (World.drewN wr 1) _ _ _
      still_step
      still_step
      still_step
      still_call (prime_any j h8 _)
      still_call (rootS (prm j) (prm_small h8) _)
      still_step
      still_step
      still_step
      refine wpStill_nil ?_
      rw [show UInt32.ofNat (riter (prm j) false 49) = iw j from rfl]
      go_wp2
      go_roundw
      case rel => exact ⟨j + 1, by go_num, by omega, by have := (Hb.out.drewN 1).set_ (64 + j) (.int .u32 (I32 (iw j))); rwa [hCells_set_s (wArr_size _ _ _) h8, wArr_set] at this, below_set (below_drewN Hl.out 1) Hl1.out.size _ _⟩
      case measure => simp [intOf]; omega
    · obtain rfl : j = 8 := by omega
      go_wp2
      go_ret
      exact ⟨_, rfl, Hb.out, Hl.out, Hl1.out.size⟩
end Go.Proofs.Ytgkhdpplmdkkaaa
