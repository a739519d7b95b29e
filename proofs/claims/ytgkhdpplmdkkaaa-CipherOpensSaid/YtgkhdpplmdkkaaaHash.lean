/- A digest under way in memory, and the walk of sha.Hash's Write. -/
import Derived.Test.YtgkhdpplmdkkaaaNew
import Derived.Test.YtgkhdpplmdkkaaaPad
import Derived.Deep.RegionLaw
namespace Go.Proofs.Ytgkhdpplmdkkaaa
open Go.RowKit Go.Lib

def sOf (s : St) : Array Value := #[.int .u32 (I32 s.a), .int .u32 (I32 s.b), .int .u32 (I32 s.c), .int .u32 (I32 s.d), .int .u32 (I32 s.e), .int .u32 (I32 s.f), .int .u32 (I32 s.g), .int .u32 (I32 s.h)]
theorem sOf_size (s : St) : (sOf s).size = 8 := rfl
/-- the state at the beginning -/
def iv : St := ⟨iw 0, iw 1, iw 2, iw 3, iw 4, iw 5, iw 6, iw 7⟩
theorem wArr_iv : wArr iw 8 8 = sOf iv := rfl
/-- a text's byte by its number -/
def gt (l : List UInt8) (j : Nat) : UInt8 := l.getD j 0
/-- what didn't fill a block -/
def rem (l : List UInt8) : List UInt8 := l.drop (64 * (l.length / 64))
theorem rem_length (l : List UInt8) : (rem l).length = l.length % 64 := by unfold rem; rw [List.length_drop]; omega

/-- block g is a digest of the bytes T so far, of which N is told as the number; its rest lies from base on -/
structure Dig (w : World) (g base : Nat) (T : List UInt8) (N : Nat) (A : Option Addr) (cap : Nat) : Prop where
  blk : Blk w g 158 (hCells kw (sOf (fold kw iv (gt T) (T.length / 64))) (.slice A (rem T).length cap) N)
  own : OwnB w base (.slice A (rem T).length cap) (rem T)

theorem fold_take (T : List UInt8) (n q : Nat) (h : 64 * q ≤ n) : fold kw iv (gt (T.take n)) q = fold kw iv (gt T) q :=
  fold_congr q (fun _ _ => rfl) fun j hj => by
    unfold gt
    simp only [List.getD_eq_getElem?_getD]
    rw [List.getElem?_take_of_lt (by omega)]

/-- append as a step of a region that draws -/
theorem step_app {w : World} {ops : Array Oper} {o : Oper} {a : Act} {K : Act → World → Prop} {Q : Exit → Act → World → Prop} {E : Prop} (hgd : o.guard = none) (s x : Operand)
    (ho : o.op = .call { callee := .builtin .append, args := #[s, x], argTypes := #[27, 27] })
    (base : Nat) (v : Value) (l : List UInt8) (hs : a.eval s = v) (hown : OwnB w base v l)
    (B : Nat) (A : Option Addr) (c : Nat) (l2 : List UInt8) (m : Nat) (hm : m = l2.length) (hx : a.eval x = .slice A m c) (hr : Reads w B 1 A m (bv l2))
    (hlen : l.length + m ≤ 140737488355328) (hbase : base ≤ w.heap.size)
    (h : ∀ v' w', OwnB w' base v' (l ++ l2) → w.grownBy w' v.ownBlock → (v'.ownBlock = v.ownBlock ∨ v'.ownBlock = some w.heap.size) → K (a.put o.dst v') w') :
    if Region.wanted o (yielded ops a.tmps) = true then Oper.wp Try.prog o a w K Q else E := by
  subst hm
  obtain ⟨i0, hi0, hz0, hz1, hz2⟩ := info_parts info8
  refine step_append_any w hgd s x 27 ho base 5 i0 _ 1 1 Try.underlying27 hi0 hz0 hz1 hz2 rfl (by decide) v l.length (bv l) hs hown B A l2.length c (bv l2) hx hr (bv_one l2) (by unfold maxLen; omega) (by omega) hbase ?_
  intro v' w' h1 h2 h3
  exact h v' w' (by unfold OwnB; rw [List.length_append, bv_append]; exact h1) h2 h3


theorem own_zero {w : World} {base : Nat} {A : Option Addr} {n cap : Nat} {l : List UInt8} (h : OwnB w base (.slice A n cap) l) : OwnB w base (.slice A 0 cap) [] := by
  refine ⟨rfl, ?_⟩
  rcases h.2 with ⟨hv, _⟩ | ⟨g, cap', cur, hv, hg, hh, hnc, hm, hs, _⟩
  · injection hv with h1 h2 h3
    subst h1; subst h3
    exact .inl ⟨rfl, rfl⟩
  · injection hv with h1 h2 h3
    subst h1; subst h3
    exact .inr ⟨g, _, cur, rfl, hg, hh, Nat.zero_le _, hm, hs, by simp [bv]⟩

theorem reads_at {w : World} {bb ob d k : Nat} {bs : List UInt8} (h : ∀ j, j < bs.length → w.cell? ⟨bb, ob + j, none⟩ = some (.int .u8 (I8 (gt bs j)))) (hk : d + k ≤ bs.length) :
    Reads w (bb + 1) 1 (some ⟨bb, ob + d, none⟩) k (bv ((bs.drop d).take k)) := by
  refine ⟨by simp [bv]; omega, fun _ => ⟨_, rfl, by simp, fun j u hu => ?_⟩⟩
  have hadd : (⟨bb, ob + d, none⟩ : Addr).add j = ⟨bb, ob + (d + j), none⟩ := by
    unfold Addr.add; split
    · rename_i h0; subst h0; rfl
    · simp [Nat.add_assoc]
  have hj : j < k := by
    have := (List.getElem?_eq_some_iff.1 hu).1
    simp [bv] at this; omega
  rw [hadd, h (d + j) (by omega)]
  rw [bv_at, List.getElem?_take_of_lt hj, List.getElem?_drop] at hu
  rw [← hu]
  unfold gt
  rw [List.getD_eq_getElem?_getD]
  have hl : d + j < bs.length := by omega
  simp [List.getElem?_eq_getElem hl]

theorem hCells_set8 {kk : Nat → UInt32} {s : St} {rest : Value} {n : Int} (a b c d e f g h : Value) :
    ((((((((hCells kk (sOf s) rest n).setIfInBounds 64 a).setIfInBounds 65 b).setIfInBounds 66 c).setIfInBounds 67 d).setIfInBounds 68 e).setIfInBounds 69 f).setIfInBounds 70 g).setIfInBounds 71 h = hCells kk #[a, b, c, d, e, f, g, h] rest n := by
  have e0 : ∀ (s8 : Array Value) (_ : s8.size = 8) v, (hCells kk s8 rest n).setIfInBounds 64 v = hCells kk (s8.setIfInBounds 0 v) rest n := fun s8 h v => hCells_set_s h (j := 0) (by omega) v
  have e1 : ∀ (s8 : Array Value) (_ : s8.size = 8) v, (hCells kk s8 rest n).setIfInBounds 65 v = hCells kk (s8.setIfInBounds 1 v) rest n := fun s8 h v => hCells_set_s h (j := 1) (by omega) v
  have e2 : ∀ (s8 : Array Value) (_ : s8.size = 8) v, (hCells kk s8 rest n).setIfInBounds 66 v = hCells kk (s8.setIfInBounds 2 v) rest n := fun s8 h v => hCells_set_s h (j := 2) (by omega) v
  have e3 : ∀ (s8 : Array Value) (_ : s8.size = 8) v, (hCells kk s8 rest n).setIfInBounds 67 v = hCells kk (s8.setIfInBounds 3 v) rest n := fun s8 h v => hCells_set_s h (j := 3) (by omega) v
  have e4 : ∀ (s8 : Array Value) (_ : s8.size = 8) v, (hCells kk s8 rest n).setIfInBounds 68 v = hCells kk (s8.setIfInBounds 4 v) rest n := fun s8 h v => hCells_set_s h (j := 4) (by omega) v
  have e5 : ∀ (s8 : Array Value) (_ : s8.size = 8) v, (hCells kk s8 rest n).setIfInBounds 69 v = hCells kk (s8.setIfInBounds 5 v) rest n := fun s8 h v => hCells_set_s h (j := 5) (by omega) v
  have e6 : ∀ (s8 : Array Value) (_ : s8.size = 8) v, (hCells kk s8 rest n).setIfInBounds 70 v = hCells kk (s8.setIfInBounds 6 v) rest n := fun s8 h v => hCells_set_s h (j := 6) (by omega) v
  have e7 : ∀ (s8 : Array Value) (_ : s8.size = 8) v, (hCells kk s8 rest n).setIfInBounds 71 v = hCells kk (s8.setIfInBounds 7 v) rest n := fun s8 h v => hCells_set_s h (j := 7) (by omega) v
  rw [e0 (sOf s) (by simp [sOf]), e1 _ (by simp [sOf]), e2 _ (by simp [sOf]), e3 _ (by simp [sOf]), e4 _ (by simp [sOf]), e5 _ (by simp [sOf]), e6 _ (by simp [sOf]), e7 _ (by simp [sOf])]
  have hz : ((((((((sOf s).setIfInBounds 0 a).setIfInBounds 1 b).setIfInBounds 2 c).setIfInBounds 3 d).setIfInBounds 4 e).setIfInBounds 5 f).setIfInBounds 6 g).setIfInBounds 7 h = #[a, b, c, d, e, f, g, h] := by
    simp [sOf]
  rw [hz]

theorem cell_set_ne {w : World} {g o : Nat} {u : Value} {p : Addr} (h : p.block ≠ g) : (w.setCell ⟨g, o, none⟩ u).cell? p = w.cell? p :=
  World.cell?_setCell_other w ⟨g, o, none⟩ p u (by intro he; rw [← he] at h; exact h rfl)

theorem rem_at (T : List UInt8) (seg : List UInt8) (j : Nat) : gt (rem T ++ seg) j = gt (T ++ seg) (64 * (T.length / 64) + j) := by
  unfold gt rem
  have h : T.drop (64 * (T.length / 64)) ++ seg = (T ++ seg).drop (64 * (T.length / 64)) := by
    rw [List.drop_append_of_le_length (by omega)]
  rw [h]
  simp only [List.getD_eq_getElem?_getD]
  rw [List.getElem?_drop]
theorem gt_app (T seg : List UInt8) (j : Nat) (h : j < T.length) : gt (T ++ seg) j = gt T j := by
  unfold gt
  simp only [List.getD_eq_getElem?_getD]
  rw [List.getElem?_append_left h]
theorem dig_full (T seg : List UInt8) (h : (rem T ++ seg).length = 64) :
    (T ++ seg).length / 64 = T.length / 64 + 1 ∧ rem (T ++ seg) = [] ∧ fold kw iv (gt (T ++ seg)) (T.length / 64 + 1) = mixS kw (fold kw iv (gt T) (T.length / 64)) (gt (rem T ++ seg)) := by
  rw [List.length_append, rem_length] at h
  have hl : (T ++ seg).length = 64 * (T.length / 64 + 1) := by rw [List.length_append]; omega
  refine ⟨by omega, ?_, ?_⟩
  · unfold rem
    apply List.drop_eq_nil_of_le
    omega
  · show mixS kw (fold kw iv (gt (T ++ seg)) (T.length / 64)) _ = _
    rw [fold_congr (T.length / 64) (fun _ _ => rfl) (b' := gt T) (fun j hj => gt_app T seg j (by omega))]
    refine mixS_congr (fun _ _ => rfl) fun j _ => ?_
    rw [rem_at]
theorem dig_part (T seg : List UInt8) (h : (rem T ++ seg).length < 64) :
    (T ++ seg).length / 64 = T.length / 64 ∧ rem (T ++ seg) = rem T ++ seg ∧ fold kw iv (gt (T ++ seg)) (T.length / 64) = fold kw iv (gt T) (T.length / 64) := by
  rw [List.length_append, rem_length] at h
  have hl : (T ++ seg).length / 64 = T.length / 64 := by rw [List.length_append]; omega
  refine ⟨hl, ?_, fold_congr (T.length / 64) (fun _ _ => rfl) (fun j hj => gt_app T seg j (by omega))⟩
  unfold rem
  rw [hl, List.drop_append_of_le_length (by omega)]

theorem own_ne {A : Option Addr} {n c bb : Nat} (h : ∀ a, A = some a → a.block ≠ bb) : some bb ≠ (.slice A n c : Value).ownBlock := by
  cases A with
  | none => simp [Value.ownBlock]
  | some a => have := h a rfl; simp [Value.ownBlock]; omega
theorem own_step {A A2 : Option Addr} {n n2 c c2 bb N : Nat} (h : ∀ a, A = some a → a.block ≠ bb) (hN : bb < N)
    (hat : (.slice A2 n2 c2 : Value).ownBlock = (.slice A n c : Value).ownBlock ∨ (.slice A2 n2 c2 : Value).ownBlock = some N) : ∀ a, A2 = some a → a.block ≠ bb := by
  rintro a rfl
  rcases hat with hat | hat
  · cases A with
    | none => simp [Value.ownBlock] at hat
    | some a' => have := h a' rfl; simp [Value.ownBlock] at hat; omega
  · simp [Value.ownBlock] at hat; omega

def lenOf : Value → Nat | .slice _ n _ => n | _ => 0

def WRel (g base : Nat) (m0 bs : List UInt8) (bb ob : Nat) (w : World) (b : Value) (wr : World) : Prop :=
  ∃ (d e : Nat) (Ab : Option Addr) (cb : Nat) (A : Option Addr) (cap : Nat), d + e = bs.length ∧ b = .slice Ab e cb ∧ (0 < e → Ab = some ⟨bb, ob + d, none⟩ ∧ e ≤ cb) ∧
    Dig wr g base (m0 ++ bs.take d) (m0.length + bs.length) A cap ∧ (∀ a, A = some a → a.block ≠ bb) ∧ Below base w wr ∧
    (∀ j, j < bs.length → wr.cell? ⟨bb, ob + j, none⟩ = some (.int .u8 (I8 (gt bs j)))) ∧ w.heap.size ≤ wr.heap.size

theorem wrel_full {g base bb ob d e k g2 c2 cb : Nat} {m0 bs T R : List UInt8} {w w5 : World} {st : St} {Ab : Option Addr}
    (hde : d + e = bs.length) (hke : k ≤ e) (HT : T = m0 ++ bs.take d) (HR : R = rem T ++ (bs.drop d).take k) (HRl : R.length = 64) (Hst : st = fold kw iv (gt T) (T.length / 64))
    (Hb5 : Blk w5 g 158 (hCells kw (sOf (mixS kw st (gt R))) (.slice (some ⟨g2, 0, none⟩) 64 c2) ((m0.length + bs.length : Nat) : Int)))
    (Ho5 : OwnB w5 base (.slice (some ⟨g2, 0, none⟩) 64 c2) R)
    (Hbc5 : ∀ j, j < bs.length → w5.cell? ⟨bb, ob + j, none⟩ = some (.int .u8 (I8 (gt bs j))))
    (Hl5 : Below base w w5) (Hsz5 : w.heap.size ≤ w5.heap.size) (HA : g2 ≠ bb) (hbg : bb ≠ g) (hgb : base ≤ g)
    (hAb : 0 < e - k → Ab = some ⟨bb, ob + (d + k), none⟩ ∧ e - k ≤ cb) :
    WRel g base m0 bs bb ob w (.slice Ab (e - k) cb) (w5.setCell ⟨g, 72, none⟩ (.slice (some ⟨g2, 0, none⟩) 0 c2)) := by
  have hT : m0 ++ bs.take (d + k) = T ++ (bs.drop d).take k := by rw [HT, List.take_add, List.append_assoc]
  rw [HR] at HRl
  obtain ⟨h1, h2, h3⟩ := dig_full T ((bs.drop d).take k) HRl
  refine ⟨d + k, e - k, Ab, cb, some ⟨g2, 0, none⟩, c2, by omega, rfl, hAb, ⟨?_, ?_⟩, ?_, below_set Hl5 hgb _ _, ?_, by simp [World.setCell]; exact Hsz5⟩
  · rw [hT, h1, h2, h3, ← Hst, ← HR]
    have := Hb5.set_ 72 (.slice (some ⟨g2, 0, none⟩) 0 c2)
    rwa [hCells_set_rest (sOf_size _)] at this
  · rw [hT, h2]
    exact own_zero (Ho5.set_ _ _ (Ho5.ne_blk Hb5 (by decide)))
  · rintro a ha; injection ha with ha; subst ha; exact HA
  · intro j hj
    rw [World.cell?_setCell_other w5 ⟨g, 72, none⟩ ⟨bb, ob + j, none⟩ _ (by intro he; injection he with h1; exact hbg h1.symm)]
    exact Hbc5 j hj

theorem wrel_part {g base bb ob d e c2 cb : Nat} {m0 bs T R : List UInt8} {w w3 : World} {Ab A2 : Option Addr}
    (hde : d + e = bs.length) (HT : T = m0 ++ bs.take d) (HR : R = rem T ++ (bs.drop d).take e) (HRl : R.length < 64)
    (Hb3 : Blk w3 g 158 (hCells kw (sOf (fold kw iv (gt T) (T.length / 64))) (.slice A2 R.length c2) ((m0.length + bs.length : Nat) : Int)))
    (Ho3 : OwnB w3 base (.slice A2 R.length c2) R)
    (Hbc3 : ∀ j, j < bs.length → w3.cell? ⟨bb, ob + j, none⟩ = some (.int .u8 (I8 (gt bs j))))
    (Hl3 : Below base w w3) (Hsz3 : w.heap.size ≤ w3.heap.size) (HA : ∀ a, A2 = some a → a.block ≠ bb) :
    WRel g base m0 bs bb ob w (.slice Ab 0 cb) w3 := by
  have hT : m0 ++ bs.take (d + e) = T ++ (bs.drop d).take e := by rw [HT, List.take_add, List.append_assoc]
  rw [HR] at HRl
  obtain ⟨h1, h2, h3⟩ := dig_part T ((bs.drop d).take e) HRl
  refine ⟨d + e, 0, Ab, cb, A2, c2, by omega, rfl, by omega, ⟨?_, ?_⟩, HA, Hl3, Hbc3, Hsz3⟩
  · rw [hT, h1, h2, h3, ← HR]; exact Hb3
  · rw [hT, h2, ← HR]; exact Ho3

set_option maxRecDepth 100000 in
set_option maxHeartbeats 2000000 in
theorem write_any (g base : Nat) (m0 bs : List UInt8) (A0 Ab0 : Option Addr) (cap0 bb ob cb : Nat) (w : World)
    (hd : Dig w g base m0 m0.length A0 cap0)
    (hb : ∀ j, j < bs.length → w.cell? ⟨bb, ob + j, none⟩ = some (.int .u8 (I8 (gt bs j)))) (hcb : 0 < bs.length → Ab0 = some ⟨bb, ob, none⟩ ∧ bs.length ≤ cb) (hbg : bb ≠ g) (hA0 : ∀ a, A0 = some a → a.block ≠ bb)
    (hbase : base ≤ w.heap.size) (hgb : base ≤ g) (hlen : m0.length + bs.length ≤ 1099511627776) :
    Calls Try.prog 86 #[.pointer (some ⟨g, 0, none⟩), .slice Ab0 bs.length cb] w fun e w' =>
      e = .returned (.tuple #[]) ∧ Below base w w' ∧ ∃ A cap, Dig w' g base (m0 ++ bs) (m0.length + bs.length) A cap := by
  have Hd := Lib.hid hd
  have Hb := Lib.hid hb
  have n0 := (hd.blk.cell 73).trans (hCells_n (sOf_size _))
  have f0 := hd.blk.frozen 73
  clear hd hb
  go_enter Try.func86, Try.ntmps86
  go_wp2_with fail
  refine abs_world ?_
  intro w1 hw1
  have hd1 : Dig w1 g base m0 (m0.length + bs.length) A0 cap0 := by
    rw [hw1]
    refine ⟨?_, ?_⟩
    · have := Hd.out.blk.set_ 73 (.int .i64 ((m0.length : Int) + (bs.length : Int)))
      rwa [hCells_set_n (sOf_size _)] at this
    · exact Hd.out.own.set_ _ _ (Hd.out.own.ne_blk Hd.out.blk (by decide))
  have hl1 : Below base w w1 := by rw [hw1]; exact below_set (Below.refl _ _) hgb _ _
  have hb1 : ∀ j, j < bs.length → w1.cell? ⟨bb, ob + j, none⟩ = some (.int .u8 (I8 (gt bs j))) := fun j hj => by
    rw [hw1, World.cell?_setCell_other w ⟨g, 73, none⟩ ⟨bb, ob + j, none⟩ _ (by intro he; injection he with h1; exact hbg h1.symm)]
    exact Hb.out j hj
  have hs1 : w.heap.size ≤ w1.heap.size := by rw [hw1]; simp [World.setCell]
  clear hw1 n0 f0
  have Hd1 := Lib.hid hd1
  have Hl1 := Lib.hid hl1
  have Hb1 := Lib.hid hb1
  have Hs1 := Lib.hid hs1
  clear hd1 hl1 hb1 hs1
  go_loopw [1] (fun b wr => WRel g base m0 bs bb ob w b wr) (fun b _ => lenOf b)
  case atStart => exact ⟨0, bs.length, _, _, A0, cap0, by omega, rfl, fun h => hcb h, by simpa using Hd1.out, hA0, Hl1.out, Hb1.out, Hs1.out⟩
  case round =>
    obtain ⟨d, e, Ab, cb', A, cap, hde, rfl, hAb, hdg, hAbb, hl, hbc, hsz⟩ := hrel
    have Hdg := Lib.hid hdg
    have Hl := Lib.hid hl
    have Hbc := Lib.hid hbc
    have HAbb := Lib.hid hAbb
    have Hsz := Lib.hid hsz
    clear hdg hl hbc hAbb hsz
    have hT : ∃ T, T = m0 ++ bs.take d := ⟨_, rfl⟩
    obtain ⟨T, hT⟩ := hT
    rw [← hT] at Hdg
    have HT := Lib.hid hT
    by_cases he : 0 < e
    · obtain ⟨rfl, hecb⟩ := hAb he
      have hr64 : (rem T).length < 64 := by rw [rem_length]; omega
      have hx : ∃ r, r = (rem T).length := ⟨_, rfl⟩
      obtain ⟨r, hx⟩ := hx
      have c72 := (Hdg.out.blk.cell 72).trans (hCells_rest (sOf_size _))
      have f72 := Hdg.out.blk.frozen 72
      rw [← hx] at c72 hr64
      have Hx := Lib.hid hx
      clear hx hT hAb
      by_cases h1 : 64 - r ≤ e
      · have hk : ∃ k, k = 64 - r := ⟨_, rfl⟩
        obtain ⟨k, hk⟩ := hk
        have hk' : 64 - (r : Int) = (k : Int) := by omega
        have hke : (k : Int) ≤ (e : Int) := by omega
        have hkc : k ≤ cb' := by omega
        have hk0 : 0 < k := by omega
        have hkr : r + k = 64 := by omega
        have Hkr := Lib.hid hkr
        clear hk hkr h1
        have hown : OwnB wr base (.slice A r cap) (rem T) := by rw [Hx.out]; exact Hdg.out.own
        have Hown := Lib.hid hown
        have Hrd := Lib.hid (reads_at (k := k) Hbc.out (by omega : d + k ≤ bs.length))
        clear hown
        have hne : (.slice A r cap : Value).ownBlock ≠ some g := Hown.out.ne_blk Hdg.out.blk (by decide)
        have Hne := Lib.hid hne
        clear hne
        have hblk : Blk wr g 158 (hCells kw (sOf (fold kw iv (gt T) (T.length / 64))) (.slice A r cap) ((m0.length + bs.length : Nat) : Int)) := by rw [Hx.out]; exact Hdg.out.blk
        have Hblk := Lib.hid hblk
        clear hblk
        have hRl : (rem T ++ (bs.drop d).take k).length = 64 := by
          have := Hx.out
          have := Hkr.out
          rw [List.length_append, List.length_take, List.length_drop]
          omega
        have hR : ∃ R, R = rem T ++ (bs.drop d).take k := ⟨_, rfl⟩
        obtain ⟨R, hR⟩ := hR
        rw [← hR] at hRl
        have HR := Lib.hid hR
        have HRl := Lib.hid hRl
        clear hR hRl
        go_wp2_with fail
        go_region_law (refine step_app rfl (.tmp 32) (.tmp 35) rfl base (.slice A r cap) (rem T) (by rfl) (Hown.out.drewN 1) _ _ _ _ k (by simp; omega) (by rfl) (Hrd.out.drewN 1) (by have := Hx.out; omega) (by have := Hsz.out; simp; omega) ?_; intro v1 w2 ho2 hg2 hat2; rw [← HR.out] at ho2; obtain ⟨A2, c2, hv2, hA2⟩ := ho2.form; rw [HRl.out] at hv2; subst hv2; have hb2 := (Hblk.out.drewN 1).grown hg2 (Ne.symm Hne.out); have c72' := (hb2.cell 72).trans (hCells_rest (sOf_size _)); have f72' := hb2.frozen 72; have Hb2 := Lib.hid hb2; have Hg2 := Lib.hid hg2; have Ho2 := Lib.hid ho2; have Hat2 := Lib.hid hat2; have HA2 := Lib.hid hA2; clear hb2 hg2 ho2 hat2 hA2)
        clear c72 f72 c72' f72'
        refine abs_then ?_
        intro w3 hw3
        have hb3 : Blk w3 g 158 (hCells kw (sOf (fold kw iv (gt T) (T.length / 64))) (.slice A2 64 c2) ((m0.length + bs.length : Nat) : Int)) := by
          rw [hw3, ← hCells_set_rest (sOf_size _)]; exact Hb2.out.set_ _ _
        have hne2 : (.slice A2 64 c2 : Value).ownBlock ≠ some g := Ho2.out.ne_blk Hb2.out (by decide)
        have ho3 : OwnB w3 base (.slice A2 64 c2) R := by rw [hw3]; exact Ho2.out.set_ _ _ hne2
        have hbb2 : ∀ j, j < bs.length → w2.cell? ⟨bb, ob + j, none⟩ = some (.int .u8 (I8 (gt bs j))) := fun j hj => by
          exact Hg2.out.cell (Hbc.out j hj) (own_ne HAbb.out)
        have hbc3 : ∀ j, j < bs.length → w3.cell? ⟨bb, ob + j, none⟩ = some (.int .u8 (I8 (gt bs j))) := fun j hj => by
          rw [hw3, World.cell?_setCell_other w2 ⟨g, 72, none⟩ ⟨bb, ob + j, none⟩ _ (by intro he; injection he with h1; exact hbg h1.symm)]
          exact hbb2 j hj
        have hl2 : Below base w w2 := below_app (below_drewN Hl.out 1) (Hown.out.drewN 1) Hg2.out (Nat.le_refl _) (by have := Hsz.out; simp; omega)
        have hl3 : Below base w w3 := by rw [hw3]; exact below_set hl2 hgb _ _
        have hsz3 : w.heap.size ≤ w3.heap.size := by rw [hw3]; have := Hsz.out; have := Hg2.out.size; simp [World.setCell] at *; omega
        have hA3 : ∀ a, A2 = some a → a.block ≠ bb := own_step HAbb.out (World.block_lt_of_cell? wr _ (Hbc.out d (by omega))) Hat2.out
        have hf : ∃ g2, A2 = some ⟨g2, 0, none⟩ := by
          obtain ⟨A', c', hv, hA'⟩ := ho3.form
          rw [HRl.out] at hv
          injection hv with h1 _ _
          cases A2 with
          | none =>
            rcases ho3.2 with ⟨_, h0⟩ | ⟨g', cap', cur, hv', _⟩
            · rw [HRl.out] at h0; omega
            · injection hv' with h2; cases h2
          | some a =>
            obtain ⟨g', hg', _⟩ := hA' a h1.symm
            exact ⟨g', by rw [hg']⟩
        obtain ⟨g2, rfl⟩ := hf
        have hrc : ∀ j, j < 64 → w3.cell? ⟨g2, 0 + j, none⟩ = some (.int .u8 (I8 (gt R j))) := fun j hj => by
          rw [Nat.zero_add]
          have := World.ownsRow.cells (g := g2) ho3 rfl j (.int .u8 (I8 (gt R j))) (by
            rw [bv_at]; unfold gt; rw [List.getD_eq_getElem?_getD, List.getElem?_eq_getElem (by rw [HRl.out]; exact hj)]; rfl)
          have hadd : (⟨g2, 0, none⟩ : Addr).add j = ⟨g2, j, none⟩ := by unfold Addr.add; split <;> simp_all
          rwa [hadd] at this
        have hc64 : 64 ≤ c2 := by
          rcases ho3.2 with ⟨hv, _⟩ | ⟨g', cap', cur, hv', _, _, hnc, _⟩
          · injection hv with h1; cases h1
          · injection hv' with _ _ h3; rw [h3]; have := HRl.out; omega
        have hkk : ∀ j, j < 64 → w3.cell? ⟨g, 0 + j, none⟩ = some (.int .u32 (I32 (kw j))) := fun j hj => by
          rw [Nat.zero_add]; exact (hb3.cell j).trans (hCells_k (sOf_size _) hj)
        clear hw3 hbb2 hl2 hne2
        have hst : ∃ st, st = fold kw iv (gt T) (T.length / 64) := ⟨_, rfl⟩
        obtain ⟨st, hst⟩ := hst
        rw [← hst] at hb3
        have s0 := (hb3.cell (64 + 0)).trans (hCells_s (sOf_size _) (by omega))
        have s1 := (hb3.cell (64 + 1)).trans (hCells_s (sOf_size _) (by omega))
        have s2 := (hb3.cell (64 + 2)).trans (hCells_s (sOf_size _) (by omega))
        have s3 := (hb3.cell (64 + 3)).trans (hCells_s (sOf_size _) (by omega))
        have s4 := (hb3.cell (64 + 4)).trans (hCells_s (sOf_size _) (by omega))
        have s5 := (hb3.cell (64 + 5)).trans (hCells_s (sOf_size _) (by omega))
        have s6 := (hb3.cell (64 + 6)).trans (hCells_s (sOf_size _) (by omega))
        have s7 := (hb3.cell (64 + 7)).trans (hCells_s (sOf_size _) (by omega))
        simp only [sOf, List.getElem?_toArray, List.getElem?_cons_zero, List.getElem?_cons_succ, Nat.reduceAdd] at s0 s1 s2 s3 s4 s5 s6 s7
        have c72 := (hb3.cell 72).trans (hCells_rest (sOf_size _))
        have Hb3 := Lib.hid hb3
        have Ho3 := Lib.hid ho3
        have Hbc3 := Lib.hid hbc3
        have Hl3 := Lib.hid hl3
        have Hsz3 := Lib.hid hsz3
        have HA3 := Lib.hid hA3
        have Hrc := Lib.hid hrc
        have Hkk := Lib.hid hkk
        have Hst := Lib.hid hst
        clear hb3 ho3 hbc3 hl3 hsz3 hA3 hrc hkk hst
        rcases Nat.lt_or_eq_of_le hkc with hck' | hck'
        · have hck2 := hck'
          go_wp2_with fail
          go_region_law (go_simp; go_at_call 97; refine (mix_any g 0 kw st g2 0 c2 (gt R) (World.drew w3) Hkk.out Hrc.out hc64).mono ?_; rintro e4 w4 ⟨rfl, hl4⟩; unfold agg8; clear s0 s1 s2 s3 s4 s5 s6 s7; have hb4 := (Hb3.out.drewN 1).below hl4 Hb3.out.lt; have s0 := (hb4.cell (64 + 0)).trans (hCells_s (sOf_size _) (by omega)); have q0 := hb4.frozen (64 + 0); have s1 := (hb4.cell (64 + 1)).trans (hCells_s (sOf_size _) (by omega)); have q1 := hb4.frozen (64 + 1); have s2 := (hb4.cell (64 + 2)).trans (hCells_s (sOf_size _) (by omega)); have q2 := hb4.frozen (64 + 2); have s3 := (hb4.cell (64 + 3)).trans (hCells_s (sOf_size _) (by omega)); have q3 := hb4.frozen (64 + 3); have s4 := (hb4.cell (64 + 4)).trans (hCells_s (sOf_size _) (by omega)); have q4 := hb4.frozen (64 + 4); have s5 := (hb4.cell (64 + 5)).trans (hCells_s (sOf_size _) (by omega)); have q5 := hb4.frozen (64 + 5); have s6 := (hb4.cell (64 + 6)).trans (hCells_s (sOf_size _) (by omega)); have q6 := hb4.frozen (64 + 6); have s7 := (hb4.cell (64 + 7)).trans (hCells_s (sOf_size _) (by omega)); have q7 := hb4.frozen (64 + 7); simp only [sOf, List.getElem?_toArray, List.getElem?_cons_zero, List.getElem?_cons_succ, Nat.reduceAdd] at s0 s1 s2 s3 s4 s5 s6 s7 q0 q1 q2 q3 q4 q5 q6 q7; have Hb4 := Lib.hid hb4; have Hl4 := Lib.hid hl4; clear hb4 hl4)
          all_goals
            refine abs_then ?_
            intro w5 hw5
            have hb5 : Blk w5 g 158 (hCells kw (sOf (mixS kw st (gt R))) (.slice (some ⟨g2, 0, none⟩) 64 c2) ((m0.length + bs.length : Nat) : Int)) := by
              rw [hw5]; unfold sOf; rw [← hCells_set8]; exact (((((((Hb4.out.set_ 64 _).set_ 65 _).set_ 66 _).set_ 67 _).set_ 68 _).set_ 69 _).set_ 70 _).set_ 71 _
            have hl4' : Below base w3 w4 := (below_drewN (Below.refl _ _) 1).trans (Hl4.out.mono (by have := Hsz3.out; simp; omega))
            have hl5 : Below base w w5 := by
              rw [hw5]; exact below_set (below_set (below_set (below_set (below_set (below_set (below_set (below_set (Hl3.out.trans hl4') hgb _ _) hgb _ _) hgb _ _) hgb _ _) hgb _ _) hgb _ _) hgb _ _) hgb _ _
            have hne4 : (.slice (some ⟨g2, 0, none⟩) 64 c2 : Value).ownBlock ≠ some g := Ho3.out.ne_blk Hb3.out (by decide)
            have ho4 : OwnB w4 base (.slice (some ⟨g2, 0, none⟩) 64 c2) R := (Ho3.out.drewN 1).below_size Hl4.out
            have ho5 : OwnB w5 base (.slice (some ⟨g2, 0, none⟩) 64 c2) R := by
              rw [hw5]; exact (((((((ho4.set_ _ _ hne4).set_ _ _ hne4).set_ _ _ hne4).set_ _ _ hne4).set_ _ _ hne4).set_ _ _ hne4).set_ _ _ hne4).set_ _ _ hne4
            have hbc5 : ∀ j, j < bs.length → w5.cell? ⟨bb, ob + j, none⟩ = some (.int .u8 (I8 (gt bs j))) := fun j hj => by
              have h4 : w4.cell? ⟨bb, ob + j, none⟩ = some (.int .u8 (I8 (gt bs j))) := (Hl4.out.cell (p := ⟨bb, ob + j, none⟩) (World.block_lt_of_cell? w3 _ (Hbc3.out j hj))).trans (Hbc3.out j hj)
              rw [hw5]
              rw [cell_set_ne hbg, cell_set_ne hbg, cell_set_ne hbg, cell_set_ne hbg, cell_set_ne hbg, cell_set_ne hbg, cell_set_ne hbg, cell_set_ne hbg]
              exact h4
            have hsz5 : w.heap.size ≤ w5.heap.size := by rw [hw5]; have := Hsz3.out; have := Hl4.out.size; simp [World.setCell] at *; omega
            clear hw5 hl4' hne4 ho4 s0 s1 s2 s3 s4 s5 s6 s7 q0 q1 q2 q3 q4 q5 q6 q7
            have c72 := (hb5.cell 72).trans (hCells_rest (sOf_size _))
            have f72 := hb5.frozen 72
            have Hb5 := Lib.hid hb5
            have Ho5 := Lib.hid ho5
            have Hbc5 := Lib.hid hbc5
            have Hl5 := Lib.hid hl5
            have Hsz5 := Lib.hid hsz5
            clear hb5 ho5 hbc5 hl5 hsz5
            go_wp2
            first
              | refine ⟨wrel_full hde (by omega) HT.out HR.out HRl.out Hst.out Hb5.out Ho5.out Hbc5.out Hl5.out Hsz5.out (HA3.out _ rfl) hbg hgb (fun _ => ⟨by rw [Nat.add_assoc], by omega⟩), ?_⟩
              | refine ⟨by have hz := wrel_full (Ab := some ⟨bb, ob + d, none⟩) (cb := 0) hde (by omega) HT.out HR.out HRl.out Hst.out Hb5.out Ho5.out Hbc5.out Hl5.out Hsz5.out (HA3.out _ rfl) hbg hgb (fun h => absurd h (by omega)); rwa [show e - k = 0 by omega] at hz, ?_⟩
            first
              | (show e - k < e; omega)
              | (show 0 < e; omega)
        · subst hck'
          go_wp2_with fail
          go_region_law (go_simp; go_at_call 97; refine (mix_any g 0 kw st g2 0 c2 (gt R) (World.drew w3) Hkk.out Hrc.out hc64).mono ?_; rintro e4 w4 ⟨rfl, hl4⟩; unfold agg8; clear s0 s1 s2 s3 s4 s5 s6 s7; have hb4 := (Hb3.out.drewN 1).below hl4 Hb3.out.lt; have s0 := (hb4.cell (64 + 0)).trans (hCells_s (sOf_size _) (by omega)); have q0 := hb4.frozen (64 + 0); have s1 := (hb4.cell (64 + 1)).trans (hCells_s (sOf_size _) (by omega)); have q1 := hb4.frozen (64 + 1); have s2 := (hb4.cell (64 + 2)).trans (hCells_s (sOf_size _) (by omega)); have q2 := hb4.frozen (64 + 2); have s3 := (hb4.cell (64 + 3)).trans (hCells_s (sOf_size _) (by omega)); have q3 := hb4.frozen (64 + 3); have s4 := (hb4.cell (64 + 4)).trans (hCells_s (sOf_size _) (by omega)); have q4 := hb4.frozen (64 + 4); have s5 := (hb4.cell (64 + 5)).trans (hCells_s (sOf_size _) (by omega)); have q5 := hb4.frozen (64 + 5); have s6 := (hb4.cell (64 + 6)).trans (hCells_s (sOf_size _) (by omega)); have q6 := hb4.frozen (64 + 6); have s7 := (hb4.cell (64 + 7)).trans (hCells_s (sOf_size _) (by omega)); have q7 := hb4.frozen (64 + 7); simp only [sOf, List.getElem?_toArray, List.getElem?_cons_zero, List.getElem?_cons_succ, Nat.reduceAdd] at s0 s1 s2 s3 s4 s5 s6 s7 q0 q1 q2 q3 q4 q5 q6 q7; have Hb4 := Lib.hid hb4; have Hl4 := Lib.hid hl4; clear hb4 hl4)
          all_goals
            refine abs_then ?_
            intro w5 hw5
            have hb5 : Blk w5 g 158 (hCells kw (sOf (mixS kw st (gt R))) (.slice (some ⟨g2, 0, none⟩) 64 c2) ((m0.length + bs.length : Nat) : Int)) := by
              rw [hw5]; unfold sOf; rw [← hCells_set8]; exact (((((((Hb4.out.set_ 64 _).set_ 65 _).set_ 66 _).set_ 67 _).set_ 68 _).set_ 69 _).set_ 70 _).set_ 71 _
            have hl4' : Below base w3 w4 := (below_drewN (Below.refl _ _) 1).trans (Hl4.out.mono (by have := Hsz3.out; simp; omega))
            have hl5 : Below base w w5 := by
              rw [hw5]; exact below_set (below_set (below_set (below_set (below_set (below_set (below_set (below_set (Hl3.out.trans hl4') hgb _ _) hgb _ _) hgb _ _) hgb _ _) hgb _ _) hgb _ _) hgb _ _) hgb _ _
            have hne4 : (.slice (some ⟨g2, 0, none⟩) 64 c2 : Value).ownBlock ≠ some g := Ho3.out.ne_blk Hb3.out (by decide)
            have ho4 : OwnB w4 base (.slice (some ⟨g2, 0, none⟩) 64 c2) R := (Ho3.out.drewN 1).below_size Hl4.out
            have ho5 : OwnB w5 base (.slice (some ⟨g2, 0, none⟩) 64 c2) R := by
              rw [hw5]; exact (((((((ho4.set_ _ _ hne4).set_ _ _ hne4).set_ _ _ hne4).set_ _ _ hne4).set_ _ _ hne4).set_ _ _ hne4).set_ _ _ hne4).set_ _ _ hne4
            have hbc5 : ∀ j, j < bs.length → w5.cell? ⟨bb, ob + j, none⟩ = some (.int .u8 (I8 (gt bs j))) := fun j hj => by
              have h4 : w4.cell? ⟨bb, ob + j, none⟩ = some (.int .u8 (I8 (gt bs j))) := (Hl4.out.cell (p := ⟨bb, ob + j, none⟩) (World.block_lt_of_cell? w3 _ (Hbc3.out j hj))).trans (Hbc3.out j hj)
              rw [hw5]
              rw [cell_set_ne hbg, cell_set_ne hbg, cell_set_ne hbg, cell_set_ne hbg, cell_set_ne hbg, cell_set_ne hbg, cell_set_ne hbg, cell_set_ne hbg]
              exact h4
            have hsz5 : w.heap.size ≤ w5.heap.size := by rw [hw5]; have := Hsz3.out; have := Hl4.out.size; simp [World.setCell] at *; omega
            clear hw5 hl4' hne4 ho4 s0 s1 s2 s3 s4 s5 s6 s7 q0 q1 q2 q3 q4 q5 q6 q7
            have c72 := (hb5.cell 72).trans (hCells_rest (sOf_size _))
            have f72 := hb5.frozen 72
            have Hb5 := Lib.hid hb5
            have Ho5 := Lib.hid ho5
            have Hbc5 := Lib.hid hbc5
            have Hl5 := Lib.hid hl5
            have Hsz5 := Lib.hid hsz5
            clear hb5 ho5 hbc5 hl5 hsz5
            go_wp2
            first
              | refine ⟨wrel_full hde (by omega) HT.out HR.out HRl.out Hst.out Hb5.out Ho5.out Hbc5.out Hl5.out Hsz5.out (HA3.out _ rfl) hbg hgb (fun _ => ⟨by rw [Nat.add_assoc], by omega⟩), ?_⟩
              | refine ⟨by have hz := wrel_full (Ab := some ⟨bb, ob + d, none⟩) (cb := 0) hde (by omega) HT.out HR.out HRl.out Hst.out Hb5.out Ho5.out Hbc5.out Hl5.out Hsz5.out (HA3.out _ rfl) hbg hgb (fun h => absurd h (by omega)); rwa [show e - k = 0 by omega] at hz, ?_⟩
            first
              | (show e - k < e; omega)
              | (show 0 < e; omega)
      · have hmin : (e : Int) < 64 - (r : Int) := by omega
        have hmin2 : ¬ (64 - (r : Int) ≤ (e : Int)) := by omega
        have hre : r + e < 64 := by omega
        have hown : OwnB wr base (.slice A r cap) (rem T) := by rw [Hx.out]; exact Hdg.out.own
        have Hown := Lib.hid hown
        have Hrd := Lib.hid (reads_at (k := e) Hbc.out (by omega : d + e ≤ bs.length))
        clear hown
        have hne : (.slice A r cap : Value).ownBlock ≠ some g := Hown.out.ne_blk Hdg.out.blk (by decide)
        have Hne := Lib.hid hne
        clear hne
        have hblk : Blk wr g 158 (hCells kw (sOf (fold kw iv (gt T) (T.length / 64))) (.slice A r cap) ((m0.length + bs.length : Nat) : Int)) := by rw [Hx.out]; exact Hdg.out.blk
        have Hblk := Lib.hid hblk
        clear hblk
        have hRl : (rem T ++ (bs.drop d).take e).length = r + e := by
          have := Hx.out
          rw [List.length_append, List.length_take, List.length_drop]
          omega
        have hR : ∃ R, R = rem T ++ (bs.drop d).take e := ⟨_, rfl⟩
        obtain ⟨R, hR⟩ := hR
        rw [← hR] at hRl
        have HR := Lib.hid hR
        have HRl := Lib.hid hRl
        clear hR hRl
        go_wp2_with fail
        go_region_law (refine step_app rfl (.tmp 32) (.tmp 35) rfl base (.slice A r cap) (rem T) (by rfl) (Hown.out.drewN 1) _ _ _ _ e (by simp; omega) (by rfl) (Hrd.out.drewN 1) (by have := Hx.out; omega) (by have := Hsz.out; simp; omega) ?_; intro v1 w2 ho2 hg2 hat2; rw [← HR.out] at ho2; obtain ⟨A2, c2, hv2, hA2⟩ := ho2.form; subst hv2; have hb2 := (Hblk.out.drewN 1).grown hg2 (Ne.symm Hne.out); have c72' := (hb2.cell 72).trans (hCells_rest (sOf_size _)); have f72' := hb2.frozen 72; have Hb2 := Lib.hid hb2; have Hg2 := Lib.hid hg2; have Ho2 := Lib.hid ho2; have Hat2 := Lib.hid hat2; have HA2 := Lib.hid hA2; clear hb2 hg2 ho2 hat2 hA2)
        clear c72 f72 c72' f72'
        refine abs_then ?_
        intro w3 hw3
        have hb3 : Blk w3 g 158 (hCells kw (sOf (fold kw iv (gt T) (T.length / 64))) (.slice A2 R.length c2) ((m0.length + bs.length : Nat) : Int)) := by
          rw [hw3, ← hCells_set_rest (sOf_size _)]; exact Hb2.out.set_ _ _
        have hne2 : (.slice A2 R.length c2 : Value).ownBlock ≠ some g := Ho2.out.ne_blk Hb2.out (by decide)
        have ho3 : OwnB w3 base (.slice A2 R.length c2) R := by rw [hw3]; exact Ho2.out.set_ _ _ hne2
        have hbb2 : ∀ j, j < bs.length → w2.cell? ⟨bb, ob + j, none⟩ = some (.int .u8 (I8 (gt bs j))) := fun j hj => by
          exact Hg2.out.cell (Hbc.out j hj) (own_ne HAbb.out)
        have hbc3 : ∀ j, j < bs.length → w3.cell? ⟨bb, ob + j, none⟩ = some (.int .u8 (I8 (gt bs j))) := fun j hj => by
          rw [hw3, World.cell?_setCell_other w2 ⟨g, 72, none⟩ ⟨bb, ob + j, none⟩ _ (by intro he; injection he with h1; exact hbg h1.symm)]
          exact hbb2 j hj
        have hl2 : Below base w w2 := below_app (below_drewN Hl.out 1) (Hown.out.drewN 1) Hg2.out (Nat.le_refl _) (by have := Hsz.out; simp; omega)
        have hl3 : Below base w w3 := by rw [hw3]; exact below_set hl2 hgb _ _
        have hsz3 : w.heap.size ≤ w3.heap.size := by rw [hw3]; have := Hsz.out; have := Hg2.out.size; simp [World.setCell] at *; omega
        have hA3 : ∀ a, A2 = some a → a.block ≠ bb := own_step HAbb.out (World.block_lt_of_cell? wr _ (Hbc.out d (by omega))) Hat2.out
        have Hb3 := Lib.hid hb3
        have Ho3 := Lib.hid ho3
        have Hbc3 := Lib.hid hbc3
        have Hl3 := Lib.hid hl3
        have Hsz3 := Lib.hid hsz3
        have HA3 := Lib.hid hA3
        have c72 := (hb3.cell 72).trans (hCells_rest (sOf_size _))
        clear hw3 hbb2 hl2 hne2 hb3 ho3 hbc3 hl3 hsz3 hA3
        have hne64 : (((R.length : Nat) : Int) == 64) = false := by
          have := HRl.out
          have h' : ¬ ((R.length : Int) = 64) := by omega
          simpa using h'
        go_wp2_with fail
        all_goals
          refine ⟨wrel_part hde HT.out HR.out (by have := HRl.out; omega) Hb3.out Ho3.out Hbc3.out Hl3.out Hsz3.out HA3.out, ?_⟩
          show 0 < e
          exact he
    · have he0 : e = 0 := by omega
      subst he0
      go_wp2_with fail
      go_end0
      refine ⟨rfl, Hl.out, A, cap, ?_⟩
      have h := Hdg.out
      rwa [HT.out, List.take_of_length_le (by omega)] at h

end Go.Proofs.Ytgkhdpplmdkkaaa
