/- The contracts of sha (bytes, Pad, Write, Sum). -/
import Derived.Test.YtgkhdpplmdkkaaaMa
import Derived.Laws.OwnMore
import Derived.Deep.AppendLies
import Derived.Maps.AppendAt
import Derived.RegionTactic
import Derived.OwnWalk
import Derived.Deep.RegionLaw
import Derived.Laws.IdiomStrings
import Derived.Lib.BufferRead
import Derived.Laws.Concat
import Derived.Lib.BufferWrite
namespace Go.Proofs.Ytgkhdpplmdkkaaa
open Go.RowKit

theorem block_of_add (a : Addr) (n : Nat) : (a.add n).block = a.block := by unfold Addr.add; split <;> rfl
theorem add_of_add (a : Addr) (i j : Nat) : (a.add i).add j = a.add (i + j) := by
  unfold Addr.add
  by_cases hi : i = 0 <;> by_cases hj : j = 0 <;> simp [hi, hj, Nat.add_assoc]

def Reads (w : World) (B size : Nat) (A : Option Addr) (n : Nat) (xs : List Value) : Prop :=
  xs.length = n * size ∧ (0 < n → ∃ ad, A = some ad ∧ ad.block < B ∧ ∀ j u, xs[j]? = some u → w.cell? (ad.add j) = some u)

section
variable {w w' : World} {B B' size n : Nat} {A : Option Addr} {xs : List Value}
theorem Reads.none_ : Reads w B size A 0 [] := ⟨by simp, fun h => absurd h (by omega)⟩
theorem Reads.at_ {k : Nat} (h : Reads w B 1 A n xs) (hk : k < n) : ∃ ad u, A = some ad ∧ ad.block < B ∧ xs[k]? = some u ∧ w.cell? (ad.add k) = some u := by
  obtain ⟨ad, e, hb, hc⟩ := h.2 (by omega)
  have hl : k < xs.length := by have := h.1; omega
  exact ⟨ad, xs[k], e, hb, List.getElem?_eq_getElem hl, hc k _ (List.getElem?_eq_getElem hl)⟩
theorem Reads.keep (h : Reads w B size A n xs) (hk : ∀ p : Addr, p.block < B → w'.cell? p = w.cell? p) : Reads w' B size A n xs :=
  ⟨h.1, fun hn => by
    obtain ⟨ad, e, hb, hc⟩ := h.2 hn
    exact ⟨ad, e, hb, fun j u hu => (hk _ (by rw [block_of_add]; exact hb)).trans (hc j u hu)⟩⟩
theorem Reads.more (h : Reads w B size A n xs) (hB : B ≤ B') : Reads w B' size A n xs :=
  ⟨h.1, fun hn => by
    obtain ⟨ad, e, hb, hc⟩ := h.2 hn
    exact ⟨ad, e, by omega, hc⟩⟩
theorem Reads.below (h : Reads w B size A n xs) (hb : Below B w w') : Reads w' B size A n xs := h.keep fun _ hp => hb.cell hp
theorem Reads.drew (h : Reads w B size A n xs) : Reads w.drew B size A n xs := h
theorem Reads.drewN (h : Reads w B size A n xs) (k : Nat) : Reads (w.drewN k) B size A n xs := h
theorem Reads.alloc (h : Reads w B size A n xs) (hB : B ≤ w.heap.size) (o : Obj) : Reads (w.alloc o) B size A n xs := h.keep fun p hp => World.cell?_alloc_lt w o p (by omega)
theorem Reads.setCell (h : Reads w B size A n xs) {p : Addr} (hB : B ≤ p.block) (u : Value) : Reads (w.setCell p u) B size A n xs :=
  h.keep fun q hq => World.cell?_setCell_other w p q u (fun e => by subst e; omega)
theorem Reads.grown (h : Reads w B size A n xs) {row : Option Nat} (hg : w.grownBy w' row) (hB : B ≤ w.heap.size) (hr : ∀ g, row = some g → B ≤ g) : Reads w' B size A n xs :=
  h.keep fun p hp => World.cell?_of_block (hg.block p.block (by omega) (fun e => by have := hr _ e.symm; omega))
theorem Reads.cut (h : Reads w B size A n xs) {k cap : Nat} (hk : k ≤ n) (hc : n ≤ cap) :
    Reads w B size (if cap = k then A else A.map (·.add (k * size))) (n - k) (xs.drop (k * size)) := by
  refine ⟨by rw [List.length_drop, h.1, Nat.sub_mul], fun hn => ?_⟩
  obtain ⟨ad, rfl, hb, hcell⟩ := h.2 (by omega)
  rw [if_neg (by omega)]
  refine ⟨ad.add (k * size), rfl, by rw [block_of_add]; exact hb, fun j u hu => ?_⟩
  rw [add_of_add]
  exact hcell _ u (by rw [← hu, List.getElem?_drop])
theorem Reads.of_own {base : Nat} {e : TypeId} {c : Nat} (h : w.ownsRow base e size (.slice A n c) n xs) : Reads w w.heap.size size A n xs := by
  refine ⟨h.1, fun hn => ?_⟩
  obtain ⟨g, cap, hv, _, hlt⟩ := h.form hn
  have hA : A = some ⟨g, 0, none⟩ := by injection hv
  subst hA
  exact ⟨_, rfl, hlt, h.cells (g := g) rfl⟩
end

section
variable {P : Program} (w : World)

theorem run_append_of_nil (base : Nat) (t ty e : TypeId) (i : TypeInfo) (size : Nat) (ht : P.underlying t = some (.slice e)) (hi : P.info? e = some i)
    (v : Value) (n : Nat) (xs : List Value) (hown : w.ownsRow base e size v n xs) (c : Nat) : (Builtin.append_ #[t, t] ty #[v, .slice none 0 c]).run P w = .ok v w := by
  rcases hown.2 with ⟨rfl, rfl⟩ | ⟨g, cap, cur, rfl, _, _, hnc, _⟩
  · simp [Builtin.append_, run_underlying ht, sizeOf, typeInfo, hi, Builtin.lenOf, Builtin.firstCells]
  · simp [Builtin.append_, run_underlying ht, sizeOf, typeInfo, hi, Builtin.lenOf, Builtin.firstCells, hnc, storeCells]

theorem run_append_any (base : Nat) (t ty e : TypeId) (i : TypeInfo) (z : Value) (size bytes : Nat) (ht : P.underlying t = some (.slice e)) (hi : P.info? e = some i) (hz : i.zero = some z)
    (hsize : i.size = size) (hby : i.bytes = bytes) (hzs : z.cells.size = size) (hsz : 0 < size)
    (v : Value) (n : Nat) (xs : List Value) (hown : w.ownsRow base e size v n xs)
    (B : Nat) (A : Option Addr) (m c : Nat) (news : List Value) (hr : Reads w B size A m news) (h1 : ∀ u ∈ news, u.oneCell' = true)
    (h63 : n + m ≤ maxLen) (hbytes : (n + m) * bytes ≤ 140737488355328) (hbase : base ≤ w.heap.size) :
    ∃ v' w', (Builtin.append_ #[t, t] ty #[v, .slice A m c]).run P w = .ok v' w' ∧ w'.ownsRow base e size v' (n + m) (xs ++ news) ∧ w.grownBy w' v.ownBlock ∧
      (v'.ownBlock = v.ownBlock ∨ v'.ownBlock = some w.heap.size) := by
  rcases A with _ | ad
  · have hm : m = 0 := by
      rcases Nat.eq_zero_or_pos m with h0 | h0
      · exact h0
      · obtain ⟨ad, h, _⟩ := hr.2 h0
        cases h
    subst hm
    have hn : news = [] := List.eq_nil_of_length_eq_zero (by simpa using hr.1)
    subst hn
    exact ⟨v, w, run_append_of_nil w base t ty e i size ht hi v n xs hown c, by simpa using hown, World.grownBy.refl w _, .inl rfl⟩
  · have hcells : ∀ j u, news[j]? = some u → w.cell? (ad.add j) = some u := by
      intro j u hu
      rcases Nat.eq_zero_or_pos m with h0 | h0
      · subst h0
        have hn : news = [] := List.eq_nil_of_length_eq_zero (by simpa using hr.1)
        subst hn
        simp at hu
      · obtain ⟨ad', h, _, hc⟩ := hr.2 h0
        injection h with h
        subst h
        exact hc j u hu
    obtain ⟨v', w', hrun, h2, h3, _, h5⟩ := run_append_own_at (P := P) w base t ty e i z size bytes ht hi hz hsize hby hzs hsz v n xs hown ad m c news hr.1 hcells h1 h63 hbytes hbase
    exact ⟨v', w', hrun, h2, h3, h5⟩

theorem wp_append_any {o : Oper} {a : Act} {K : Act → World → Prop} {Q : Exit → Act → World → Prop} (s x : Operand) (t : TypeId)
    (ho : o.op = .call { callee := .builtin .append, args := #[s, x], argTypes := #[t, t] })
    (base : Nat) (e : TypeId) (i : TypeInfo) (z : Value) (size bytes : Nat) (ht : P.underlying t = some (.slice e)) (hi : P.info? e = some i) (hz : i.zero = some z)
    (hsize : i.size = size) (hby : i.bytes = bytes) (hzs : z.cells.size = size) (hsz : 0 < size)
    (v : Value) (n : Nat) (xs : List Value) (hs : a.eval s = v) (hown : w.ownsRow base e size v n xs)
    (B : Nat) (A : Option Addr) (m c : Nat) (news : List Value) (hx : a.eval x = .slice A m c) (hr : Reads w B size A m news) (h1 : ∀ u ∈ news, u.oneCell' = true)
    (h63 : n + m ≤ maxLen) (hbytes : (n + m) * bytes ≤ 140737488355328) (hbase : base ≤ w.heap.size)
    (h : ∀ v' w', w'.ownsRow base e size v' (n + m) (xs ++ news) → w.grownBy w' v.ownBlock → (v'.ownBlock = v.ownBlock ∨ v'.ownBlock = some w.heap.size) → K (a.put o.dst v') w') : o.wp P a w K Q := by
  obtain ⟨v', w', hrun, h2, h3, h4⟩ := run_append_any (P := P) w base t o.type e i z size bytes ht hi hz hsize hby hzs hsz v n xs hown B A m c news hr h1 h63 hbytes hbase
  unfold Oper.wp execOp
  simp only [ho, resolve, invoke, builtin, Sem.run_bind, Sem.run_pure, Result.andThen_ok, List.map_toArray, List.map_cons, List.map_nil, hs, hx, hrun]
  exact h v' w' h2 h3 h4

theorem wpList_append_any {ops : Array Oper} {rest : List Oper} {o : Oper} {a : Act} {Q : Exit → Act → World → Prop} (hgd : o.guard = none) (s x : Operand) (t : TypeId)
    (ho : o.op = .call { callee := .builtin .append, args := #[s, x], argTypes := #[t, t] })
    (base : Nat) (e : TypeId) (i : TypeInfo) (z : Value) (size bytes : Nat) (ht : P.underlying t = some (.slice e)) (hi : P.info? e = some i) (hz : i.zero = some z)
    (hsize : i.size = size) (hby : i.bytes = bytes) (hzs : z.cells.size = size) (hsz : 0 < size)
    (v : Value) (n : Nat) (xs : List Value) (hs : a.eval s = v) (hown : w.ownsRow base e size v n xs)
    (B : Nat) (A : Option Addr) (m c : Nat) (news : List Value) (hx : a.eval x = .slice A m c) (hr : Reads w B size A m news) (h1 : ∀ u ∈ news, u.oneCell' = true)
    (h63 : n + m ≤ maxLen) (hbytes : (n + m) * bytes ≤ 140737488355328) (hbase : base ≤ w.heap.size)
    (h : ∀ v' w', w'.ownsRow base e size v' (n + m) (xs ++ news) → w.grownBy w' v.ownBlock → (v'.ownBlock = v.ownBlock ∨ v'.ownBlock = some w.heap.size) → wpList P ops Q rest (a.put o.dst v') w') : wpList P ops Q (o :: rest) a w :=
  wpList_plain hgd fun _ hK => wp_append_any w s x t ho base e i z size bytes ht hi hz hsize hby hzs hsz v n xs hs hown B A m c news hx hr h1 h63 hbytes hbase fun v' w' h2 h3 h4 => hK _ _ (h v' w' h2 h3 h4)

theorem step_append_any {ops : Array Oper} {o : Oper} {a : Act} {K : Act → World → Prop} {Q : Exit → Act → World → Prop} {E : Prop} (hgd : o.guard = none) (s x : Operand) (t : TypeId)
    (ho : o.op = .call { callee := .builtin .append, args := #[s, x], argTypes := #[t, t] })
    (base : Nat) (e : TypeId) (i : TypeInfo) (z : Value) (size bytes : Nat) (ht : P.underlying t = some (.slice e)) (hi : P.info? e = some i) (hz : i.zero = some z)
    (hsize : i.size = size) (hby : i.bytes = bytes) (hzs : z.cells.size = size) (hsz : 0 < size)
    (v : Value) (n : Nat) (xs : List Value) (hs : a.eval s = v) (hown : w.ownsRow base e size v n xs)
    (B : Nat) (A : Option Addr) (m c : Nat) (news : List Value) (hx : a.eval x = .slice A m c) (hr : Reads w B size A m news) (h1 : ∀ u ∈ news, u.oneCell' = true)
    (h63 : n + m ≤ maxLen) (hbytes : (n + m) * bytes ≤ 140737488355328) (hbase : base ≤ w.heap.size)
    (h : ∀ v' w', w'.ownsRow base e size v' (n + m) (xs ++ news) → w.grownBy w' v.ownBlock → (v'.ownBlock = v.ownBlock ∨ v'.ownBlock = some w.heap.size) → K (a.put o.dst v') w') :
    if Region.wanted o (yielded ops a.tmps) = true then Oper.wp P o a w K Q else E := by
  have hw : Region.wanted o (yielded ops a.tmps) = true := by simp [Region.wanted, hgd]
  rw [if_pos hw]
  exact wp_append_any w s x t ho base e i z size bytes ht hi hz hsize hby hzs hsz v n xs hs hown B A m c news hx hr h1 h63 hbytes hbase h
end

end Go.Proofs.Ytgkhdpplmdkkaaa

namespace Go.Proofs.Ytgkhdpplmdkkaaa
open Go.RowKit

/-- bytes as cells -/
def bv (l : List UInt8) : List Value := l.map fun b => .int .u8 (I8 b)
theorem bv_length (l : List UInt8) : (bv l).length = l.length := by simp [bv]
theorem bv_append (l m : List UInt8) : bv (l ++ m) = bv l ++ bv m := by simp [bv]
theorem bv_at (l : List UInt8) (j : Nat) : (bv l)[j]? = (l[j]?).map fun b => .int .u8 (I8 b) := by simp [bv]
theorem bv_one (l : List UInt8) : ∀ u ∈ bv l, u.oneCell' = true := by
  intro u hu
  obtain ⟨b, _, rfl⟩ := List.mem_map.1 hu
  rfl

/-- the value v is a row of the call's own that holds the bytes l -/
def OwnB (w : World) (base : Nat) (v : Value) (l : List UInt8) : Prop := w.ownsRow base 5 1 v l.length (bv l)

section
variable {w w' : World} {base g : Nat} {v : Value} {l : List UInt8}
theorem OwnB.nil (w : World) (base : Nat) : OwnB w base (.slice none 0 0) [] := World.ownsRow_nil w base _ 1
theorem OwnB.form (h : OwnB w base v l) : ∃ A cap, v = .slice A l.length cap ∧ ∀ a, A = some a → ∃ g, a = ⟨g, 0, none⟩ ∧ base ≤ g ∧ g < w.heap.size := by
  rcases h.2 with ⟨rfl, hx⟩ | ⟨g, cap, cur, hv, hg, hh, hnc, hm, hs, ht⟩
  · have : l = [] := by
      cases l with
      | nil => rfl
      | cons a l => simp at hx
    subst this
    exact ⟨none, 0, rfl, fun a ha => by cases ha⟩
  · refine ⟨some ⟨g, 0, none⟩, cap, hv, fun a ha => ⟨g, by injection ha with ha; exact ha.symm, hg, ?_⟩⟩
    exact (World.ownsRow.lt h g (by rw [hv]; rfl)).2
theorem OwnB.alloc (h : OwnB w base v l) (o : Obj) : OwnB (w.alloc o) base v l := World.ownsRow.alloc h o
theorem OwnB.drewN (h : OwnB w base v l) (n : Nat) : OwnB (w.drewN n) base v l := h
theorem OwnB.below {B : Nat} (h : OwnB w base v l) (hb : Below B w w') (hv : ∀ k, v.ownBlock = some k → k < B) : OwnB w' base v l := by
  refine ⟨h.1, ?_⟩
  rcases h.2 with h2 | ⟨g, cap, cur, hv', hg, hh, r⟩
  · exact Or.inl h2
  · exact Or.inr ⟨g, cap, cur, hv', hg, by rw [hb.block g (hv g (by rw [hv']; rfl))]; exact hh, r⟩
theorem OwnB.below_size (h : OwnB w base v l) (hb : Below w.heap.size w w') : OwnB w' base v l := h.below hb fun k hk => (World.ownsRow.lt h k hk).2
theorem OwnB.set_ (h : OwnB w base v l) {g : Nat} (o : Nat) (u : Value) (hg : v.ownBlock ≠ some g) : OwnB (w.setCell ⟨g, o, none⟩ u) base v l := by
  refine ⟨h.1, ?_⟩
  rcases h.2 with h2 | ⟨g', cap, cur, hv', hg', hh, r⟩
  · exact Or.inl h2
  · refine Or.inr ⟨g', cap, cur, hv', hg', ?_, r⟩
    rw [Below.heap_setCell w ⟨g, o, none⟩ u g' (by intro e; apply hg; rw [hv']; simp [Value.ownBlock]; exact e)]
    exact hh
theorem OwnB.ne_blk {t : TypeId} {cs : Array Value} (h : OwnB w base v l) (hb : Blk w g t cs) (ht : 5 ≠ t) : v.ownBlock ≠ some g := by
  rcases h.2 with ⟨rfl, _⟩ | ⟨g', cap, cur, rfl, _, hh, _⟩
  · simp [Value.ownBlock]
  · intro he
    have : g' = g := by simpa [Value.ownBlock] using he
    subst this
    unfold Blk at hb
    rw [hh] at hb
    injection hb with hb
    injection hb with _ h2
    exact ht h2
theorem OwnB.base_le {base' : Nat} (h : OwnB w base v l) (hb : base' ≤ base) : OwnB w base' v l := by
  refine ⟨h.1, ?_⟩
  rcases h.2 with h2 | ⟨g', cap, cur, hv', hg', r⟩
  · exact Or.inl h2
  · exact Or.inr ⟨g', cap, cur, hv', by omega, r⟩
theorem OwnB.reads {A : Option Addr} {c : Nat} (h : OwnB w base (.slice A l.length c) l) : Reads w w.heap.size 1 A l.length (bv l) := Reads.of_own h
theorem OwnB.lit (w : World) (l : List UInt8) (hb : base ≤ w.heap.size) (hl : l.length ≤ maxLen) : OwnB (w.alloc (.cells (bv l).toArray 5)) base (.slice (some ⟨w.heap.size, 0, none⟩) l.length l.length) l := by
  have := World.ownsRow_lit (base := base) (e := 5) (size := 1) w (bv l).toArray l.length hb hl (by simp [bv])
  simpa [OwnB] using this
end

theorem below_app {w0 w w' : World} {B base : Nat} {v : Value} {l : List UInt8} (hl : Below B w0 w) (ho : OwnB w base v l) (hg : w.grownBy w' v.ownBlock) (hB : B ≤ base) (hs : B ≤ w.heap.size) : Below B w0 w' :=
  hl.grown hg hs fun k hk => Nat.le_trans hB (World.ownsRow.lt ho k hk).1
theorem info8 : (Try.prog.info? 5).map (fun i => (i.zero, i.size, i.bytes)) = some (some (.int .u8 0), 1, 1) := by kernel_rfl

section
variable {w : World}
/-- append(s, x...) of bytes onto a row of the call's own -/
theorem wpList_app {ops : Array Oper} {rest : List Oper} {o : Oper} {a : Act} {Q : Exit → Act → World → Prop} (hgd : o.guard = none) (s x : Operand)
    (ho : o.op = .call { callee := .builtin .append, args := #[s, x], argTypes := #[27, 27] })
    (base : Nat) (v : Value) (l : List UInt8) (hs : a.eval s = v) (hown : OwnB w base v l)
    (B : Nat) (A : Option Addr) (c : Nat) (l2 : List UInt8) (m : Nat) (hm : m = l2.length) (hx : a.eval x = .slice A m c) (hr : Reads w B 1 A m (bv l2))
    (hlen : l.length + m ≤ 140737488355328) (hbase : base ≤ w.heap.size)
    (h : ∀ v' w', OwnB w' base v' (l ++ l2) → w.grownBy w' v.ownBlock → (v'.ownBlock = v.ownBlock ∨ v'.ownBlock = some w.heap.size) → wpList Try.prog ops Q rest (a.put o.dst v') w') : wpList Try.prog ops Q (o :: rest) a w := by
  subst hm
  obtain ⟨i0, hi0, hz0, hz1, hz2⟩ := info_parts info8
  refine wpList_append_any w hgd s x 27 ho base 5 i0 _ 1 1 Try.underlying27 hi0 hz0 hz1 hz2 rfl (by decide) v l.length (bv l) hs hown B A l2.length c (bv l2) hx hr (bv_one l2) (by unfold maxLen; omega) (by omega) hbase ?_
  intro v' w' h1 h2 h3
  exact h v' w' (by unfold OwnB; rw [List.length_append, bv_append]; exact h1) h2 h3
/-- a literal's bytes, as they lie in the newest block -/
theorem reads_new (w : World) (t : TypeId) (cs : Array Value) (l : List UInt8) (h : cs = (bv l).toArray) : Reads (w.alloc (.cells cs t)) (w.heap.size + 1) 1 (some ⟨w.heap.size, 0, none⟩) l.length (bv l) := by
  subst h
  refine ⟨by simp [bv], fun _ => ⟨_, rfl, by simp, fun j u hu => ?_⟩⟩
  have hadd : (⟨w.heap.size, 0, none⟩ : Addr).add j = ⟨w.heap.size, j, none⟩ := by unfold Addr.add; split <;> simp_all
  rw [hadd, World.cell?_alloc_mark w _ t (0, 0) j]
  simpa using hu
end

end Go.Proofs.Ytgkhdpplmdkkaaa

namespace Go.Proofs.Ytgkhdpplmdkkaaa
open Go.RowKit

theorem bv_snoc (l : List UInt8) (b : UInt8) : bv (l ++ [b]) = bv l ++ bv [b] := bv_append l [b]

theorem I8_mod (m : Nat) : ((m % 256 : Nat) : Int) = I8 (UInt8.ofNat m) := by
  unfold I8; rw [UInt8.toNat_ofNat']
theorem be8_val (m j : Nat) : (m : Int) / 2 ^ (56 - 8 * j) % 256 = I8 (UInt8.ofNat (m / 2 ^ (56 - 8 * j))) := by
  rw [← I8_mod]; simp [Int.natCast_emod, Int.natCast_ediv, Int.natCast_pow]
theorem pad_test (n k : Nat) (h : k ≤ zc n) : (((n : Int) % 64 + (1 + (k : Int)) + 8) % 64 != 0) = !decide (k = zc n) := by
  have hz := zc_test n k h
  rw [Bool.eq_iff_iff]
  simp only [bne_iff_ne, ne_eq, Bool.not_eq_true', decide_eq_false_iff_not]
  rw [← hz]
  omega

set_option maxRecDepth 100000 in
set_option maxHeartbeats 1000000 in
theorem pad_any (n : Nat) (hn : n ≤ 1099511627776) (w : World) :
    Calls Try.prog 99 #[.int .i64 n] w fun e w' => ∃ v, e = .returned v ∧ OwnB w' w.heap.size v (padL n) ∧ Below w.heap.size w w' := by
  have hz64 := zc_lt n
  go_enter Try.func99, Try.ntmps99
  go_wp2_with fail
  refine abs_world ?_
  intro w1 hw1
  have ho1 : OwnB w1 w.heap.size (.slice (some ⟨w.heap.size, 0, none⟩) 1 1) [128] := by rw [hw1]; exact OwnB.lit w [128] (Nat.le_refl _) (by decide)
  have hl1 : Below w.heap.size w w1 := by rw [hw1]; exact (Below.refl _ _).alloc (Nat.le_refl _) _
  clear hw1
  have Ho1 := Lib.hid ho1
  have Hl1 := Lib.hid hl1
  clear ho1 hl1
  go_loopw [3] (fun b wr => ∃ (k : Nat) (A : Option Addr) (c : Nat), k ≤ zc n ∧ b = .slice A (1 + k) c ∧ OwnB wr w.heap.size (.slice A (1 + k) c) (128 :: List.replicate k 0) ∧ Below w.heap.size w wr) (fun b _ => 100 - (match b with | .slice _ m _ => m | _ => 0))
  case atStart => exact ⟨0, _, _, by omega, rfl, Ho1.out, Hl1.out⟩
  case round =>
    obtain ⟨k, A, c, hk, rfl, ho, hl⟩ := hrel
    have Ho := Lib.hid ho
    have Hl := Lib.hid hl
    clear ho hl
    have ht := pad_test n k hk
    by_cases hkz : k = zc n
    · have hd : decide (k = zc n) = true := by simpa using hkz
      rw [hd, Bool.not_true] at ht
      subst hkz
      go_wp2_with fail
      have Hz64 := Lib.hid hz64
      clear hz64
      go_loopw [3, 23] (fun b i w3 => ∃ (j : Nat) (A : Option Addr) (c : Nat), i = .int .i64 j ∧ j ≤ 8 ∧ b = .slice A (1 + zc n + j) c ∧ OwnB w3 w.heap.size (.slice A (1 + zc n + j) c) (128 :: List.replicate (zc n) 0 ++ be8 (n * 8) j) ∧ Below w.heap.size w w3) (fun _ i _ => 8 - (intOf i).toNat)
      case atStart => exact ⟨0, A, c, rfl, by omega, rfl, by simpa [be8] using Ho.out, Hl.out⟩
      case round =>
        obtain ⟨j, A, c, rfl, hj, rfl, ho3, hl3⟩ := hrel
        have Ho3 := Lib.hid ho3
        have Hl3 := Lib.hid hl3
        clear ho3 hl3
        by_cases h8 : j < 8
        · have hv : (n : Int) * 8 / 2 ^ (56 - 8 * j) % 256 = I8 (UInt8.ofNat (n * 8 / 2 ^ (56 - 8 * j))) := by
            have := be8_val (n * 8) j; rwa [Int.natCast_mul] at this
          have Hv := Lib.hid hv
          clear hv
          go_wp2_with (at_builtin; refine wpList_app rfl (.tmp 26) (.tmp 33) rfl w.heap.size (.slice A (1 + zc n + j) c) _ rfl (Ho3.out.alloc _) _ _ _ [UInt8.ofNat (n * 8 / 2 ^ (56 - 8 * j))] 1 rfl rfl (reads_new _ _ _ _ (by rw [Hv.out]; rfl)) (by have := Hz64.out; simp [be8_length]; omega) (Nat.le_trans Hl3.out.size (by simp)) ?_; intro v1 w2 ho2 hg2 hat2)
          obtain ⟨A2, c2, rfl, _⟩ := ho2.form
          have hrep : 128 :: List.replicate (zc n) 0 ++ be8 (n * 8) j ++ [UInt8.ofNat (n * 8 / 2 ^ (56 - 8 * j))] = 128 :: List.replicate (zc n) 0 ++ be8 (n * 8) (j + 1) := by rw [be8_succ, List.append_assoc]
          have hlen : (128 :: List.replicate (zc n) 0 ++ be8 (n * 8) (j + 1)).length = 1 + zc n + (j + 1) := by simp [be8_length]; omega
          rw [hrep, hlen] at ho2
          rw [hrep, hlen]
          refine ⟨⟨j + 1, A2, c2, by go_num, by omega, rfl, ho2, below_app (Hl3.out.alloc Hl3.out.size _) (Ho3.out.alloc _) hg2 (Nat.le_refl _) (Nat.le_trans Hl3.out.size (by simp))⟩, ?_⟩
          simp [intOf]; omega
        · obtain rfl : j = 8 := by omega
          go_wp2
          go_ret
          refine ⟨_, rfl, ?_, Hl3.out⟩
          have := Ho3.out
          exact this
    · have hd : decide (k = zc n) = false := by simpa using hkz
      rw [hd, Bool.not_false] at ht
      go_wp2_with (at_builtin; refine wpList_app rfl (.tmp 17) (.tmp 18) rfl w.heap.size (.slice A (1 + k) c) _ rfl (Ho.out.alloc _) _ _ _ [0] 1 rfl rfl (reads_new _ _ _ [0] rfl) (by simp; omega) (Nat.le_trans Hl.out.size (by simp)) ?_; intro v1 w2 ho2 hg2 hat2)
      obtain ⟨A2, c2, rfl, _⟩ := ho2.form
      have hrep : (128 :: List.replicate k 0 ++ [0] : List UInt8) = 128 :: List.replicate (k + 1) 0 := by rw [List.replicate_succ', List.cons_append]
      have hlen : (128 :: List.replicate k 0 ++ [0] : List UInt8).length = 1 + (k + 1) := by rw [hrep]; simp; omega
      rw [hlen] at ho2 ⊢
      rw [hrep] at ho2
      refine ⟨⟨k + 1, A2, c2, by omega, rfl, ho2, below_app (Hl.out.alloc Hl.out.size _) (Ho.out.alloc _) hg2 (Nat.le_refl _) (Nat.le_trans Hl.out.size (by simp))⟩, ?_⟩
      show 100 - (1 + (k + 1)) < 100 - (1 + k)
      omega

end Go.Proofs.Ytgkhdpplmdkkaaa

namespace Go.Proofs.Ytgkhdpplmdkkaaa
open Go.RowKit Go.Lib

def sOf (s : St) : Array Value := #[.int .u32 (I32 s.a), .int .u32 (I32 s.b), .int .u32 (I32 s.c), .int .u32 (I32 s.d), .int .u32 (I32 s.e), .int .u32 (I32 s.f), .int .u32 (I32 s.g), .int .u32 (I32 s.h)]
theorem sOf_size (s : St) : (sOf s).size = 8 := rfl
/-- the state at the beginning -/
def iv : St := ⟨iw 0, iw 1, iw 2, iw 3, iw 4, iw 5, iw 6, iw 7⟩
theorem wArr_iv : wArr iw 8 8 = sOf iv := rfl
/-- a text's byte by its number -/
def gt (l : List UInt8) (j : Nat) : UInt8 := l.getD j 0
/-- what didn't fill a block -/
def rem (l : List UInt8) : List UInt8 := l.drop (64 * (l.length / 64))
theorem rem_length (l : List UInt8) : (rem l).length = l.length % 64 := by unfold rem; rw [List.length_drop]; omega

/-- block g is a digest of the bytes T so far, of which N is told as the number; its rest lies from base on -/
structure Dig (w : World) (g base : Nat) (T : List UInt8) (N : Nat) (A : Option Addr) (cap : Nat) : Prop where
  blk : Blk w g 158 (hCells kw (sOf (fold kw iv (gt T) (T.length / 64))) (.slice A (rem T).length cap) N)
  own : OwnB w base (.slice A (rem T).length cap) (rem T)

theorem fold_take (T : List UInt8) (n q : Nat) (h : 64 * q ≤ n) : fold kw iv (gt (T.take n)) q = fold kw iv (gt T) q :=
  fold_congr q (fun _ _ => rfl) fun j hj => by
    unfold gt
    simp only [List.getD_eq_getElem?_getD]
    rw [List.getElem?_take_of_lt (by omega)]

/-- append as a step of a region that draws -/
theorem step_app {w : World} {ops : Array Oper} {o : Oper} {a : Act} {K : Act → World → Prop} {Q : Exit → Act → World → Prop} {E : Prop} (hgd : o.guard = none) (s x : Operand)
    (ho : o.op = .call { callee := .builtin .append, args := #[s, x], argTypes := #[27, 27] })
    (base : Nat) (v : Value) (l : List UInt8) (hs : a.eval s = v) (hown : OwnB w base v l)
    (B : Nat) (A : Option Addr) (c : Nat) (l2 : List UInt8) (m : Nat) (hm : m = l2.length) (hx : a.eval x = .slice A m c) (hr : Reads w B 1 A m (bv l2))
    (hlen : l.length + m ≤ 140737488355328) (hbase : base ≤ w.heap.size)
    (h : ∀ v' w', OwnB w' base v' (l ++ l2) → w.grownBy w' v.ownBlock → (v'.ownBlock = v.ownBlock ∨ v'.ownBlock = some w.heap.size) → K (a.put o.dst v') w') :
    if Region.wanted o (yielded ops a.tmps) = true then Oper.wp Try.prog o a w K Q else E := by
  subst hm
  obtain ⟨i0, hi0, hz0, hz1, hz2⟩ := info_parts info8
  refine step_append_any w hgd s x 27 ho base 5 i0 _ 1 1 Try.underlying27 hi0 hz0 hz1 hz2 rfl (by decide) v l.length (bv l) hs hown B A l2.length c (bv l2) hx hr (bv_one l2) (by unfold maxLen; omega) (by omega) hbase ?_
  intro v' w' h1 h2 h3
  exact h v' w' (by unfold OwnB; rw [List.length_append, bv_append]; exact h1) h2 h3


theorem own_zero {w : World} {base : Nat} {A : Option Addr} {n cap : Nat} {l : List UInt8} (h : OwnB w base (.slice A n cap) l) : OwnB w base (.slice A 0 cap) [] := by
  refine ⟨rfl, ?_⟩
  rcases h.2 with ⟨hv, _⟩ | ⟨g, cap', cur, hv, hg, hh, hnc, hm, hs, _⟩
  · injection hv with h1 h2 h3
    subst h1; subst h3
    exact .inl ⟨rfl, rfl⟩
  · injection hv with h1 h2 h3
    subst h1; subst h3
    exact .inr ⟨g, _, cur, rfl, hg, hh, Nat.zero_le _, hm, hs, by simp [bv]⟩

theorem reads_at {w : World} {bb ob d k : Nat} {bs : List UInt8} (h : ∀ j, j < bs.length → w.cell? ⟨bb, ob + j, none⟩ = some (.int .u8 (I8 (gt bs j)))) (hk : d + k ≤ bs.length) :
    Reads w (bb + 1) 1 (some ⟨bb, ob + d, none⟩) k (bv ((bs.drop d).take k)) := by
  refine ⟨by simp [bv]; omega, fun _ => ⟨_, rfl, by simp, fun j u hu => ?_⟩⟩
  have hadd : (⟨bb, ob + d, none⟩ : Addr).add j = ⟨bb, ob + (d + j), none⟩ := by
    unfold Addr.add; split
    · rename_i h0; subst h0; rfl
    · simp [Nat.add_assoc]
  have hj : j < k := by
    have := (List.getElem?_eq_some_iff.1 hu).1
    simp [bv] at this; omega
  rw [hadd, h (d + j) (by omega)]
  rw [bv_at, List.getElem?_take_of_lt hj, List.getElem?_drop] at hu
  rw [← hu]
  unfold gt
  rw [List.getD_eq_getElem?_getD]
  have hl : d + j < bs.length := by omega
  simp [List.getElem?_eq_getElem hl]

theorem hCells_set8 {kk : Nat → UInt32} {s : St} {rest : Value} {n : Int} (a b c d e f g h : Value) :
    ((((((((hCells kk (sOf s) rest n).setIfInBounds 64 a).setIfInBounds 65 b).setIfInBounds 66 c).setIfInBounds 67 d).setIfInBounds 68 e).setIfInBounds 69 f).setIfInBounds 70 g).setIfInBounds 71 h = hCells kk #[a, b, c, d, e, f, g, h] rest n := by
  have e0 : ∀ (s8 : Array Value) (_ : s8.size = 8) v, (hCells kk s8 rest n).setIfInBounds 64 v = hCells kk (s8.setIfInBounds 0 v) rest n := fun s8 h v => hCells_set_s h (j := 0) (by omega) v
  have e1 : ∀ (s8 : Array Value) (_ : s8.size = 8) v, (hCells kk s8 rest n).setIfInBounds 65 v = hCells kk (s8.setIfInBounds 1 v) rest n := fun s8 h v => hCells_set_s h (j := 1) (by omega) v
  have e2 : ∀ (s8 : Array Value) (_ : s8.size = 8) v, (hCells kk s8 rest n).setIfInBounds 66 v = hCells kk (s8.setIfInBounds 2 v) rest n := fun s8 h v => hCells_set_s h (j := 2) (by omega) v
  have e3 : ∀ (s8 : Array Value) (_ : s8.size = 8) v, (hCells kk s8 rest n).setIfInBounds 67 v = hCells kk (s8.setIfInBounds 3 v) rest n := fun s8 h v => hCells_set_s h (j := 3) (by omega) v
  have e4 : ∀ (s8 : Array Value) (_ : s8.size = 8) v, (hCells kk s8 rest n).setIfInBounds 68 v = hCells kk (s8.setIfInBounds 4 v) rest n := fun s8 h v => hCells_set_s h (j := 4) (by omega) v
  have e5 : ∀ (s8 : Array Value) (_ : s8.size = 8) v, (hCells kk s8 rest n).setIfInBounds 69 v = hCells kk (s8.setIfInBounds 5 v) rest n := fun s8 h v => hCells_set_s h (j := 5) (by omega) v
  have e6 : ∀ (s8 : Array Value) (_ : s8.size = 8) v, (hCells kk s8 rest n).setIfInBounds 70 v = hCells kk (s8.setIfInBounds 6 v) rest n := fun s8 h v => hCells_set_s h (j := 6) (by omega) v
  have e7 : ∀ (s8 : Array Value) (_ : s8.size = 8) v, (hCells kk s8 rest n).setIfInBounds 71 v = hCells kk (s8.setIfInBounds 7 v) rest n := fun s8 h v => hCells_set_s h (j := 7) (by omega) v
  rw [e0 (sOf s) (by simp [sOf]), e1 _ (by simp [sOf]), e2 _ (by simp [sOf]), e3 _ (by simp [sOf]), e4 _ (by simp [sOf]), e5 _ (by simp [sOf]), e6 _ (by simp [sOf]), e7 _ (by simp [sOf])]
  have hz : ((((((((sOf s).setIfInBounds 0 a).setIfInBounds 1 b).setIfInBounds 2 c).setIfInBounds 3 d).setIfInBounds 4 e).setIfInBounds 5 f).setIfInBounds 6 g).setIfInBounds 7 h = #[a, b, c, d, e, f, g, h] := by
    simp [sOf]
  rw [hz]

theorem cell_set_ne {w : World} {g o : Nat} {u : Value} {p : Addr} (h : p.block ≠ g) : (w.setCell ⟨g, o, none⟩ u).cell? p = w.cell? p :=
  World.cell?_setCell_other w ⟨g, o, none⟩ p u (by intro he; rw [← he] at h; exact h rfl)

theorem rem_at (T : List UInt8) (seg : List UInt8) (j : Nat) : gt (rem T ++ seg) j = gt (T ++ seg) (64 * (T.length / 64) + j) := by
  unfold gt rem
  have h : T.drop (64 * (T.length / 64)) ++ seg = (T ++ seg).drop (64 * (T.length / 64)) := by
    rw [List.drop_append_of_le_length (by omega)]
  rw [h]
  simp only [List.getD_eq_getElem?_getD]
  rw [List.getElem?_drop]
theorem gt_app (T seg : List UInt8) (j : Nat) (h : j < T.length) : gt (T ++ seg) j = gt T j := by
  unfold gt
  simp only [List.getD_eq_getElem?_getD]
  rw [List.getElem?_append_left h]
theorem dig_full (T seg : List UInt8) (h : (rem T ++ seg).length = 64) :
    (T ++ seg).length / 64 = T.length / 64 + 1 ∧ rem (T ++ seg) = [] ∧ fold kw iv (gt (T ++ seg)) (T.length / 64 + 1) = mixS kw (fold kw iv (gt T) (T.length / 64)) (gt (rem T ++ seg)) := by
  rw [List.length_append, rem_length] at h
  have hl : (T ++ seg).length = 64 * (T.length / 64 + 1) := by rw [List.length_append]; omega
  refine ⟨by omega, ?_, ?_⟩
  · unfold rem
    apply List.drop_eq_nil_of_le
    omega
  · show mixS kw (fold kw iv (gt (T ++ seg)) (T.length / 64)) _ = _
    rw [fold_congr (T.length / 64) (fun _ _ => rfl) (b' := gt T) (fun j hj => gt_app T seg j (by omega))]
    refine mixS_congr (fun _ _ => rfl) fun j _ => ?_
    rw [rem_at]
theorem dig_part (T seg : List UInt8) (h : (rem T ++ seg).length < 64) :
    (T ++ seg).length / 64 = T.length / 64 ∧ rem (T ++ seg) = rem T ++ seg ∧ fold kw iv (gt (T ++ seg)) (T.length / 64) = fold kw iv (gt T) (T.length / 64) := by
  rw [List.length_append, rem_length] at h
  have hl : (T ++ seg).length / 64 = T.length / 64 := by rw [List.length_append]; omega
  refine ⟨hl, ?_, fold_congr (T.length / 64) (fun _ _ => rfl) (fun j hj => gt_app T seg j (by omega))⟩
  unfold rem
  rw [hl, List.drop_append_of_le_length (by omega)]

theorem own_ne {A : Option Addr} {n c bb : Nat} (h : ∀ a, A = some a → a.block ≠ bb) : some bb ≠ (.slice A n c : Value).ownBlock := by
  cases A with
  | none => simp [Value.ownBlock]
  | some a => have := h a rfl; simp [Value.ownBlock]; omega
theorem own_step {A A2 : Option Addr} {n n2 c c2 bb N : Nat} (h : ∀ a, A = some a → a.block ≠ bb) (hN : bb < N)
    (hat : (.slice A2 n2 c2 : Value).ownBlock = (.slice A n c : Value).ownBlock ∨ (.slice A2 n2 c2 : Value).ownBlock = some N) : ∀ a, A2 = some a → a.block ≠ bb := by
  rintro a rfl
  rcases hat with hat | hat
  · cases A with
    | none => simp [Value.ownBlock] at hat
    | some a' => have := h a' rfl; simp [Value.ownBlock] at hat; omega
  · simp [Value.ownBlock] at hat; omega

def lenOf : Value → Nat | .slice _ n _ => n | _ => 0

def WRel (g base : Nat) (m0 bs : List UInt8) (bb ob : Nat) (w : World) (b : Value) (wr : World) : Prop :=
  ∃ (d e : Nat) (Ab : Option Addr) (cb : Nat) (A : Option Addr) (cap : Nat), d + e = bs.length ∧ b = .slice Ab e cb ∧ (0 < e → Ab = some ⟨bb, ob + d, none⟩ ∧ e ≤ cb) ∧
    Dig wr g base (m0 ++ bs.take d) (m0.length + bs.length) A cap ∧ (∀ a, A = some a → a.block ≠ bb) ∧ Below base w wr ∧
    (∀ j, j < bs.length → wr.cell? ⟨bb, ob + j, none⟩ = some (.int .u8 (I8 (gt bs j)))) ∧ w.heap.size ≤ wr.heap.size

theorem wrel_full {g base bb ob d e k g2 c2 cb : Nat} {m0 bs T R : List UInt8} {w w5 : World} {st : St} {Ab : Option Addr}
    (hde : d + e = bs.length) (hke : k ≤ e) (HT : T = m0 ++ bs.take d) (HR : R = rem T ++ (bs.drop d).take k) (HRl : R.length = 64) (Hst : st = fold kw iv (gt T) (T.length / 64))
    (Hb5 : Blk w5 g 158 (hCells kw (sOf (mixS kw st (gt R))) (.slice (some ⟨g2, 0, none⟩) 64 c2) ((m0.length + bs.length : Nat) : Int)))
    (Ho5 : OwnB w5 base (.slice (some ⟨g2, 0, none⟩) 64 c2) R)
    (Hbc5 : ∀ j, j < bs.length → w5.cell? ⟨bb, ob + j, none⟩ = some (.int .u8 (I8 (gt bs j))))
    (Hl5 : Below base w w5) (Hsz5 : w.heap.size ≤ w5.heap.size) (HA : g2 ≠ bb) (hbg : bb ≠ g) (hgb : base ≤ g)
    (hAb : 0 < e - k → Ab = some ⟨bb, ob + (d + k), none⟩ ∧ e - k ≤ cb) :
    WRel g base m0 bs bb ob w (.slice Ab (e - k) cb) (w5.setCell ⟨g, 72, none⟩ (.slice (some ⟨g2, 0, none⟩) 0 c2)) := by
  have hT : m0 ++ bs.take (d + k) = T ++ (bs.drop d).take k := by rw [HT, List.take_add, List.append_assoc]
  rw [HR] at HRl
  obtain ⟨h1, h2, h3⟩ := dig_full T ((bs.drop d).take k) HRl
  refine ⟨d + k, e - k, Ab, cb, some ⟨g2, 0, none⟩, c2, by omega, rfl, hAb, ⟨?_, ?_⟩, ?_, below_set Hl5 hgb _ _, ?_, by simp [World.setCell]; exact Hsz5⟩
  · rw [hT, h1, h2, h3, ← Hst, ← HR]
    have := Hb5.set_ 72 (.slice (some ⟨g2, 0, none⟩) 0 c2)
    rwa [hCells_set_rest (sOf_size _)] at this
  · rw [hT, h2]
    exact own_zero (Ho5.set_ _ _ (Ho5.ne_blk Hb5 (by decide)))
  · rintro a ha; injection ha with ha; subst ha; exact HA
  · intro j hj
    rw [World.cell?_setCell_other w5 ⟨g, 72, none⟩ ⟨bb, ob + j, none⟩ _ (by intro he; injection he with h1; exact hbg h1.symm)]
    exact Hbc5 j hj

theorem wrel_part {g base bb ob d e c2 cb : Nat} {m0 bs T R : List UInt8} {w w3 : World} {Ab A2 : Option Addr}
    (hde : d + e = bs.length) (HT : T = m0 ++ bs.take d) (HR : R = rem T ++ (bs.drop d).take e) (HRl : R.length < 64)
    (Hb3 : Blk w3 g 158 (hCells kw (sOf (fold kw iv (gt T) (T.length / 64))) (.slice A2 R.length c2) ((m0.length + bs.length : Nat) : Int)))
    (Ho3 : OwnB w3 base (.slice A2 R.length c2) R)
    (Hbc3 : ∀ j, j < bs.length → w3.cell? ⟨bb, ob + j, none⟩ = some (.int .u8 (I8 (gt bs j))))
    (Hl3 : Below base w w3) (Hsz3 : w.heap.size ≤ w3.heap.size) (HA : ∀ a, A2 = some a → a.block ≠ bb) :
    WRel g base m0 bs bb ob w (.slice Ab 0 cb) w3 := by
  have hT : m0 ++ bs.take (d + e) = T ++ (bs.drop d).take e := by rw [HT, List.take_add, List.append_assoc]
  rw [HR] at HRl
  obtain ⟨h1, h2, h3⟩ := dig_part T ((bs.drop d).take e) HRl
  refine ⟨d + e, 0, Ab, cb, A2, c2, by omega, rfl, by omega, ⟨?_, ?_⟩, HA, Hl3, Hbc3, Hsz3⟩
  · rw [hT, h1, h2, h3, ← HR]; exact Hb3
  · rw [hT, h2, ← HR]; exact Ho3

set_option maxRecDepth 100000 in
set_option maxHeartbeats 2000000 in
theorem write_any (g base : Nat) (m0 bs : List UInt8) (A0 Ab0 : Option Addr) (cap0 bb ob cb : Nat) (w : World)
    (hd : Dig w g base m0 m0.length A0 cap0)
    (hb : ∀ j, j < bs.length → w.cell? ⟨bb, ob + j, none⟩ = some (.int .u8 (I8 (gt bs j)))) (hcb : 0 < bs.length → Ab0 = some ⟨bb, ob, none⟩ ∧ bs.length ≤ cb) (hbg : bb ≠ g) (hA0 : ∀ a, A0 = some a → a.block ≠ bb)
    (hbase : base ≤ w.heap.size) (hgb : base ≤ g) (hlen : m0.length + bs.length ≤ 1099511627776) :
    Calls Try.prog 86 #[.pointer (some ⟨g, 0, none⟩), .slice Ab0 bs.length cb] w fun e w' =>
      e = .returned (.tuple #[]) ∧ Below base w w' ∧ ∃ A cap, Dig w' g base (m0 ++ bs) (m0.length + bs.length) A cap := by
  have Hd := Lib.hid hd
  have Hb := Lib.hid hb
  have n0 := (hd.blk.cell 73).trans (hCells_n (sOf_size _))
  have f0 := hd.blk.frozen 73
  clear hd hb
  go_enter Try.func86, Try.ntmps86
  go_wp2_with fail
  refine abs_world ?_
  intro w1 hw1
  have hd1 : Dig w1 g base m0 (m0.length + bs.length) A0 cap0 := by
    rw [hw1]
    refine ⟨?_, ?_⟩
    · have := Hd.out.blk.set_ 73 (.int .i64 ((m0.length : Int) + (bs.length : Int)))
      rwa [hCells_set_n (sOf_size _)] at this
    · exact Hd.out.own.set_ _ _ (Hd.out.own.ne_blk Hd.out.blk (by decide))
  have hl1 : Below base w w1 := by rw [hw1]; exact below_set (Below.refl _ _) hgb _ _
  have hb1 : ∀ j, j < bs.length → w1.cell? ⟨bb, ob + j, none⟩ = some (.int .u8 (I8 (gt bs j))) := fun j hj => by
    rw [hw1, World.cell?_setCell_other w ⟨g, 73, none⟩ ⟨bb, ob + j, none⟩ _ (by intro he; injection he with h1; exact hbg h1.symm)]
    exact Hb.out j hj
  have hs1 : w.heap.size ≤ w1.heap.size := by rw [hw1]; simp [World.setCell]
  clear hw1 n0 f0
  have Hd1 := Lib.hid hd1
  have Hl1 := Lib.hid hl1
  have Hb1 := Lib.hid hb1
  have Hs1 := Lib.hid hs1
  clear hd1 hl1 hb1 hs1
  go_loopw [1] (fun b wr => WRel g base m0 bs bb ob w b wr) (fun b _ => lenOf b)
  case atStart => exact ⟨0, bs.length, _, _, A0, cap0, by omega, rfl, fun h => hcb h, by simpa using Hd1.out, hA0, Hl1.out, Hb1.out, Hs1.out⟩
  case round =>
    obtain ⟨d, e, Ab, cb', A, cap, hde, rfl, hAb, hdg, hAbb, hl, hbc, hsz⟩ := hrel
    have Hdg := Lib.hid hdg
    have Hl := Lib.hid hl
    have Hbc := Lib.hid hbc
    have HAbb := Lib.hid hAbb
    have Hsz := Lib.hid hsz
    clear hdg hl hbc hAbb hsz
    have hT : ∃ T, T = m0 ++ bs.take d := ⟨_, rfl⟩
    obtain ⟨T, hT⟩ := hT
    rw [← hT] at Hdg
    have HT := Lib.hid hT
    by_cases he : 0 < e
    · obtain ⟨rfl, hecb⟩ := hAb he
      have hr64 : (rem T).length < 64 := by rw [rem_length]; omega
      have hx : ∃ r, r = (rem T).length := ⟨_, rfl⟩
      obtain ⟨r, hx⟩ := hx
      have c72 := (Hdg.out.blk.cell 72).trans (hCells_rest (sOf_size _))
      have f72 := Hdg.out.blk.frozen 72
      rw [← hx] at c72 hr64
      have Hx := Lib.hid hx
      clear hx hT hAb
      by_cases h1 : 64 - r ≤ e
      · have hk : ∃ k, k = 64 - r := ⟨_, rfl⟩
        obtain ⟨k, hk⟩ := hk
        have hk' : 64 - (r : Int) = (k : Int) := by omega
        have hke : (k : Int) ≤ (e : Int) := by omega
        have hkc : k ≤ cb' := by omega
        have hk0 : 0 < k := by omega
        have hkr : r + k = 64 := by omega
        have Hkr := Lib.hid hkr
        clear hk hkr h1
        have hown : OwnB wr base (.slice A r cap) (rem T) := by rw [Hx.out]; exact Hdg.out.own
        have Hown := Lib.hid hown
        have Hrd := Lib.hid (reads_at (k := k) Hbc.out (by omega : d + k ≤ bs.length))
        clear hown
        have hne : (.slice A r cap : Value).ownBlock ≠ some g := Hown.out.ne_blk Hdg.out.blk (by decide)
        have Hne := Lib.hid hne
        clear hne
        have hblk : Blk wr g 158 (hCells kw (sOf (fold kw iv (gt T) (T.length / 64))) (.slice A r cap) ((m0.length + bs.length : Nat) : Int)) := by rw [Hx.out]; exact Hdg.out.blk
        have Hblk := Lib.hid hblk
        clear hblk
        have hRl : (rem T ++ (bs.drop d).take k).length = 64 := by
          have := Hx.out
          have := Hkr.out
          rw [List.length_append, List.length_take, List.length_drop]
          omega
        have hR : ∃ R, R = rem T ++ (bs.drop d).take k := ⟨_, rfl⟩
        obtain ⟨R, hR⟩ := hR
        rw [← hR] at hRl
        have HR := Lib.hid hR
        have HRl := Lib.hid hRl
        clear hR hRl
        go_wp2_with fail
        go_region_law (refine step_app rfl (.tmp 32) (.tmp 35) rfl base (.slice A r cap) (rem T) (by rfl) (Hown.out.drewN 1) _ _ _ _ k (by simp; omega) (by rfl) (Hrd.out.drewN 1) (by have := Hx.out; omega) (by have := Hsz.out; simp; omega) ?_; intro v1 w2 ho2 hg2 hat2; rw [← HR.out] at ho2; obtain ⟨A2, c2, hv2, hA2⟩ := ho2.form; rw [HRl.out] at hv2; subst hv2; have hb2 := (Hblk.out.drewN 1).grown hg2 (Ne.symm Hne.out); have c72' := (hb2.cell 72).trans (hCells_rest (sOf_size _)); have f72' := hb2.frozen 72; have Hb2 := Lib.hid hb2; have Hg2 := Lib.hid hg2; have Ho2 := Lib.hid ho2; have Hat2 := Lib.hid hat2; have HA2 := Lib.hid hA2; clear hb2 hg2 ho2 hat2 hA2)
        clear c72 f72 c72' f72'
        refine abs_then ?_
        intro w3 hw3
        have hb3 : Blk w3 g 158 (hCells kw (sOf (fold kw iv (gt T) (T.length / 64))) (.slice A2 64 c2) ((m0.length + bs.length : Nat) : Int)) := by
          rw [hw3, ← hCells_set_rest (sOf_size _)]; exact Hb2.out.set_ _ _
        have hne2 : (.slice A2 64 c2 : Value).ownBlock ≠ some g := Ho2.out.ne_blk Hb2.out (by decide)
        have ho3 : OwnB w3 base (.slice A2 64 c2) R := by rw [hw3]; exact Ho2.out.set_ _ _ hne2
        have hbb2 : ∀ j, j < bs.length → w2.cell? ⟨bb, ob + j, none⟩ = some (.int .u8 (I8 (gt bs j))) := fun j hj => by
          exact Hg2.out.cell (Hbc.out j hj) (own_ne HAbb.out)
        have hbc3 : ∀ j, j < bs.length → w3.cell? ⟨bb, ob + j, none⟩ = some (.int .u8 (I8 (gt bs j))) := fun j hj => by
          rw [hw3, World.cell?_setCell_other w2 ⟨g, 72, none⟩ ⟨bb, ob + j, none⟩ _ (by intro he; injection he with h1; exact hbg h1.symm)]
          exact hbb2 j hj
        have hl2 : Below base w w2 := below_app (below_drewN Hl.out 1) (Hown.out.drewN 1) Hg2.out (Nat.le_refl _) (by have := Hsz.out; simp; omega)
        have hl3 : Below base w w3 := by rw [hw3]; exact below_set hl2 hgb _ _
        have hsz3 : w.heap.size ≤ w3.heap.size := by rw [hw3]; have := Hsz.out; have := Hg2.out.size; simp [World.setCell] at *; omega
        have hA3 : ∀ a, A2 = some a → a.block ≠ bb := own_step HAbb.out (World.block_lt_of_cell? wr _ (Hbc.out d (by omega))) Hat2.out
        have hf : ∃ g2, A2 = some ⟨g2, 0, none⟩ := by
          obtain ⟨A', c', hv, hA'⟩ := ho3.form
          rw [HRl.out] at hv
          injection hv with h1 _ _
          cases A2 with
          | none =>
            rcases ho3.2 with ⟨_, h0⟩ | ⟨g', cap', cur, hv', _⟩
            · rw [HRl.out] at h0; omega
            · injection hv' with h2; cases h2
          | some a =>
            obtain ⟨g', hg', _⟩ := hA' a h1.symm
            exact ⟨g', by rw [hg']⟩
        obtain ⟨g2, rfl⟩ := hf
        have hrc : ∀ j, j < 64 → w3.cell? ⟨g2, 0 + j, none⟩ = some (.int .u8 (I8 (gt R j))) := fun j hj => by
          rw [Nat.zero_add]
          have := World.ownsRow.cells (g := g2) ho3 rfl j (.int .u8 (I8 (gt R j))) (by
            rw [bv_at]; unfold gt; rw [List.getD_eq_getElem?_getD, List.getElem?_eq_getElem (by rw [HRl.out]; exact hj)]; rfl)
          have hadd : (⟨g2, 0, none⟩ : Addr).add j = ⟨g2, j, none⟩ := by unfold Addr.add; split <;> simp_all
          rwa [hadd] at this
        have hc64 : 64 ≤ c2 := by
          rcases ho3.2 with ⟨hv, _⟩ | ⟨g', cap', cur, hv', _, _, hnc, _⟩
          · injection hv with h1; cases h1
          · injection hv' with _ _ h3; rw [h3]; have := HRl.out; omega
        have hkk : ∀ j, j < 64 → w3.cell? ⟨g, 0 + j, none⟩ = some (.int .u32 (I32 (kw j))) := fun j hj => by
          rw [Nat.zero_add]; exact (hb3.cell j).trans (hCells_k (sOf_size _) hj)
        clear hw3 hbb2 hl2 hne2
        have hst : ∃ st, st = fold kw iv (gt T) (T.length / 64) := ⟨_, rfl⟩
        obtain ⟨st, hst⟩ := hst
        rw [← hst] at hb3
        have s0 := (hb3.cell (64 + 0)).trans (hCells_s (sOf_size _) (by omega))
        have s1 := (hb3.cell (64 + 1)).trans (hCells_s (sOf_size _) (by omega))
        have s2 := (hb3.cell (64 + 2)).trans (hCells_s (sOf_size _) (by omega))
        have s3 := (hb3.cell (64 + 3)).trans (hCells_s (sOf_size _) (by omega))
        have s4 := (hb3.cell (64 + 4)).trans (hCells_s (sOf_size _) (by omega))
        have s5 := (hb3.cell (64 + 5)).trans (hCells_s (sOf_size _) (by omega))
        have s6 := (hb3.cell (64 + 6)).trans (hCells_s (sOf_size _) (by omega))
        have s7 := (hb3.cell (64 + 7)).trans (hCells_s (sOf_size _) (by omega))
        simp only [sOf, List.getElem?_toArray, List.getElem?_cons_zero, List.getElem?_cons_succ, Nat.reduceAdd] at s0 s1 s2 s3 s4 s5 s6 s7
        have c72 := (hb3.cell 72).trans (hCells_rest (sOf_size _))
        have Hb3 := Lib.hid hb3
        have Ho3 := Lib.hid ho3
        have Hbc3 := Lib.hid hbc3
        have Hl3 := Lib.hid hl3
        have Hsz3 := Lib.hid hsz3
        have HA3 := Lib.hid hA3
        have Hrc := Lib.hid hrc
        have Hkk := Lib.hid hkk
        have Hst := Lib.hid hst
        clear hb3 ho3 hbc3 hl3 hsz3 hA3 hrc hkk hst
        rcases Nat.lt_or_eq_of_le hkc with hck' | hck'
        · have hck2 := hck'
          go_wp2_with fail
          go_region_law (go_simp; go_at_call 97; refine (mix_any g 0 kw st g2 0 c2 (gt R) (World.drew w3) Hkk.out Hrc.out hc64).mono ?_; rintro e4 w4 ⟨rfl, hl4⟩; unfold agg8; clear s0 s1 s2 s3 s4 s5 s6 s7; have hb4 := (Hb3.out.drewN 1).below hl4 Hb3.out.lt; have s0 := (hb4.cell (64 + 0)).trans (hCells_s (sOf_size _) (by omega)); have q0 := hb4.frozen (64 + 0); have s1 := (hb4.cell (64 + 1)).trans (hCells_s (sOf_size _) (by omega)); have q1 := hb4.frozen (64 + 1); have s2 := (hb4.cell (64 + 2)).trans (hCells_s (sOf_size _) (by omega)); have q2 := hb4.frozen (64 + 2); have s3 := (hb4.cell (64 + 3)).trans (hCells_s (sOf_size _) (by omega)); have q3 := hb4.frozen (64 + 3); have s4 := (hb4.cell (64 + 4)).trans (hCells_s (sOf_size _) (by omega)); have q4 := hb4.frozen (64 + 4); have s5 := (hb4.cell (64 + 5)).trans (hCells_s (sOf_size _) (by omega)); have q5 := hb4.frozen (64 + 5); have s6 := (hb4.cell (64 + 6)).trans (hCells_s (sOf_size _) (by omega)); have q6 := hb4.frozen (64 + 6); have s7 := (hb4.cell (64 + 7)).trans (hCells_s (sOf_size _) (by omega)); have q7 := hb4.frozen (64 + 7); simp only [sOf, List.getElem?_toArray, List.getElem?_cons_zero, List.getElem?_cons_succ, Nat.reduceAdd] at s0 s1 s2 s3 s4 s5 s6 s7 q0 q1 q2 q3 q4 q5 q6 q7; have Hb4 := Lib.hid hb4; have Hl4 := Lib.hid hl4; clear hb4 hl4)
          all_goals
            refine abs_then ?_
            intro w5 hw5
            have hb5 : Blk w5 g 158 (hCells kw (sOf (mixS kw st (gt R))) (.slice (some ⟨g2, 0, none⟩) 64 c2) ((m0.length + bs.length : Nat) : Int)) := by
              rw [hw5]; unfold sOf; rw [← hCells_set8]; exact (((((((Hb4.out.set_ 64 _).set_ 65 _).set_ 66 _).set_ 67 _).set_ 68 _).set_ 69 _).set_ 70 _).set_ 71 _
            have hl4' : Below base w3 w4 := (below_drewN (Below.refl _ _) 1).trans (Hl4.out.mono (by have := Hsz3.out; simp; omega))
            have hl5 : Below base w w5 := by
              rw [hw5]; exact below_set (below_set (below_set (below_set (below_set (below_set (below_set (below_set (Hl3.out.trans hl4') hgb _ _) hgb _ _) hgb _ _) hgb _ _) hgb _ _) hgb _ _) hgb _ _) hgb _ _
            have hne4 : (.slice (some ⟨g2, 0, none⟩) 64 c2 : Value).ownBlock ≠ some g := Ho3.out.ne_blk Hb3.out (by decide)
            have ho4 : OwnB w4 base (.slice (some ⟨g2, 0, none⟩) 64 c2) R := (Ho3.out.drewN 1).below_size Hl4.out
            have ho5 : OwnB w5 base (.slice (some ⟨g2, 0, none⟩) 64 c2) R := by
              rw [hw5]; exact (((((((ho4.set_ _ _ hne4).set_ _ _ hne4).set_ _ _ hne4).set_ _ _ hne4).set_ _ _ hne4).set_ _ _ hne4).set_ _ _ hne4).set_ _ _ hne4
            have hbc5 : ∀ j, j < bs.length → w5.cell? ⟨bb, ob + j, none⟩ = some (.int .u8 (I8 (gt bs j))) := fun j hj => by
              have h4 : w4.cell? ⟨bb, ob + j, none⟩ = some (.int .u8 (I8 (gt bs j))) := (Hl4.out.cell (p := ⟨bb, ob + j, none⟩) (World.block_lt_of_cell? w3 _ (Hbc3.out j hj))).trans (Hbc3.out j hj)
              rw [hw5]
              rw [cell_set_ne hbg, cell_set_ne hbg, cell_set_ne hbg, cell_set_ne hbg, cell_set_ne hbg, cell_set_ne hbg, cell_set_ne hbg, cell_set_ne hbg]
              exact h4
            have hsz5 : w.heap.size ≤ w5.heap.size := by rw [hw5]; have := Hsz3.out; have := Hl4.out.size; simp [World.setCell] at *; omega
            clear hw5 hl4' hne4 ho4 s0 s1 s2 s3 s4 s5 s6 s7 q0 q1 q2 q3 q4 q5 q6 q7
            have c72 := (hb5.cell 72).trans (hCells_rest (sOf_size _))
            have f72 := hb5.frozen 72
            have Hb5 := Lib.hid hb5
            have Ho5 := Lib.hid ho5
            have Hbc5 := Lib.hid hbc5
            have Hl5 := Lib.hid hl5
            have Hsz5 := Lib.hid hsz5
            clear hb5 ho5 hbc5 hl5 hsz5
            go_wp2
            first
              | refine ⟨wrel_full hde (by omega) HT.out HR.out HRl.out Hst.out Hb5.out Ho5.out Hbc5.out Hl5.out Hsz5.out (HA3.out _ rfl) hbg hgb (fun _ => ⟨by rw [Nat.add_assoc], by omega⟩), ?_⟩
              | refine ⟨by have hz := wrel_full (Ab := some ⟨bb, ob + d, none⟩) (cb := 0) hde (by omega) HT.out HR.out HRl.out Hst.out Hb5.out Ho5.out Hbc5.out Hl5.out Hsz5.out (HA3.out _ rfl) hbg hgb (fun h => absurd h (by omega)); rwa [show e - k = 0 by omega] at hz, ?_⟩
            first
              | (show e - k < e; omega)
              | (show 0 < e; omega)
        · subst hck'
          go_wp2_with fail
          go_region_law (go_simp; go_at_call 97; refine (mix_any g 0 kw st g2 0 c2 (gt R) (World.drew w3) Hkk.out Hrc.out hc64).mono ?_; rintro e4 w4 ⟨rfl, hl4⟩; unfold agg8; clear s0 s1 s2 s3 s4 s5 s6 s7; have hb4 := (Hb3.out.drewN 1).below hl4 Hb3.out.lt; have s0 := (hb4.cell (64 + 0)).trans (hCells_s (sOf_size _) (by omega)); have q0 := hb4.frozen (64 + 0); have s1 := (hb4.cell (64 + 1)).trans (hCells_s (sOf_size _) (by omega)); have q1 := hb4.frozen (64 + 1); have s2 := (hb4.cell (64 + 2)).trans (hCells_s (sOf_size _) (by omega)); have q2 := hb4.frozen (64 + 2); have s3 := (hb4.cell (64 + 3)).trans (hCells_s (sOf_size _) (by omega)); have q3 := hb4.frozen (64 + 3); have s4 := (hb4.cell (64 + 4)).trans (hCells_s (sOf_size _) (by omega)); have q4 := hb4.frozen (64 + 4); have s5 := (hb4.cell (64 + 5)).trans (hCells_s (sOf_size _) (by omega)); have q5 := hb4.frozen (64 + 5); have s6 := (hb4.cell (64 + 6)).trans (hCells_s (sOf_size _) (by omega)); have q6 := hb4.frozen (64 + 6); have s7 := (hb4.cell (64 + 7)).trans (hCells_s (sOf_size _) (by omega)); have q7 := hb4.frozen (64 + 7); simp only [sOf, List.getElem?_toArray, List.getElem?_cons_zero, List.getElem?_cons_succ, Nat.reduceAdd] at s0 s1 s2 s3 s4 s5 s6 s7 q0 q1 q2 q3 q4 q5 q6 q7; have Hb4 := Lib.hid hb4; have Hl4 := Lib.hid hl4; clear hb4 hl4)
          all_goals
            refine abs_then ?_
            intro w5 hw5
            have hb5 : Blk w5 g 158 (hCells kw (sOf (mixS kw st (gt R))) (.slice (some ⟨g2, 0, none⟩) 64 c2) ((m0.length + bs.length : Nat) : Int)) := by
              rw [hw5]; unfold sOf; rw [← hCells_set8]; exact (((((((Hb4.out.set_ 64 _).set_ 65 _).set_ 66 _).set_ 67 _).set_ 68 _).set_ 69 _).set_ 70 _).set_ 71 _
            have hl4' : Below base w3 w4 := (below_drewN (Below.refl _ _) 1).trans (Hl4.out.mono (by have := Hsz3.out; simp; omega))
            have hl5 : Below base w w5 := by
              rw [hw5]; exact below_set (below_set (below_set (below_set (below_set (below_set (below_set (below_set (Hl3.out.trans hl4') hgb _ _) hgb _ _) hgb _ _) hgb _ _) hgb _ _) hgb _ _) hgb _ _) hgb _ _
            have hne4 : (.slice (some ⟨g2, 0, none⟩) 64 c2 : Value).ownBlock ≠ some g := Ho3.out.ne_blk Hb3.out (by decide)
            have ho4 : OwnB w4 base (.slice (some ⟨g2, 0, none⟩) 64 c2) R := (Ho3.out.drewN 1).below_size Hl4.out
            have ho5 : OwnB w5 base (.slice (some ⟨g2, 0, none⟩) 64 c2) R := by
              rw [hw5]; exact (((((((ho4.set_ _ _ hne4).set_ _ _ hne4).set_ _ _ hne4).set_ _ _ hne4).set_ _ _ hne4).set_ _ _ hne4).set_ _ _ hne4).set_ _ _ hne4
            have hbc5 : ∀ j, j < bs.length → w5.cell? ⟨bb, ob + j, none⟩ = some (.int .u8 (I8 (gt bs j))) := fun j hj => by
              have h4 : w4.cell? ⟨bb, ob + j, none⟩ = some (.int .u8 (I8 (gt bs j))) := (Hl4.out.cell (p := ⟨bb, ob + j, none⟩) (World.block_lt_of_cell? w3 _ (Hbc3.out j hj))).trans (Hbc3.out j hj)
              rw [hw5]
              rw [cell_set_ne hbg, cell_set_ne hbg, cell_set_ne hbg, cell_set_ne hbg, cell_set_ne hbg, cell_set_ne hbg, cell_set_ne hbg, cell_set_ne hbg]
              exact h4
            have hsz5 : w.heap.size ≤ w5.heap.size := by rw [hw5]; have := Hsz3.out; have := Hl4.out.size; simp [World.setCell] at *; omega
            clear hw5 hl4' hne4 ho4 s0 s1 s2 s3 s4 s5 s6 s7 q0 q1 q2 q3 q4 q5 q6 q7
            have c72 := (hb5.cell 72).trans (hCells_rest (sOf_size _))
            have f72 := hb5.frozen 72
            have Hb5 := Lib.hid hb5
            have Ho5 := Lib.hid ho5
            have Hbc5 := Lib.hid hbc5
            have Hl5 := Lib.hid hl5
            have Hsz5 := Lib.hid hsz5
            clear hb5 ho5 hbc5 hl5 hsz5
            go_wp2
            first
              | refine ⟨wrel_full hde (by omega) HT.out HR.out HRl.out Hst.out Hb5.out Ho5.out Hbc5.out Hl5.out Hsz5.out (HA3.out _ rfl) hbg hgb (fun _ => ⟨by rw [Nat.add_assoc], by omega⟩), ?_⟩
              | refine ⟨by have hz := wrel_full (Ab := some ⟨bb, ob + d, none⟩) (cb := 0) hde (by omega) HT.out HR.out HRl.out Hst.out Hb5.out Ho5.out Hbc5.out Hl5.out Hsz5.out (HA3.out _ rfl) hbg hgb (fun h => absurd h (by omega)); rwa [show e - k = 0 by omega] at hz, ?_⟩
            first
              | (show e - k < e; omega)
              | (show 0 < e; omega)
      · have hmin : (e : Int) < 64 - (r : Int) := by omega
        have hmin2 : ¬ (64 - (r : Int) ≤ (e : Int)) := by omega
        have hre : r + e < 64 := by omega
        have hown : OwnB wr base (.slice A r cap) (rem T) := by rw [Hx.out]; exact Hdg.out.own
        have Hown := Lib.hid hown
        have Hrd := Lib.hid (reads_at (k := e) Hbc.out (by omega : d + e ≤ bs.length))
        clear hown
        have hne : (.slice A r cap : Value).ownBlock ≠ some g := Hown.out.ne_blk Hdg.out.blk (by decide)
        have Hne := Lib.hid hne
        clear hne
        have hblk : Blk wr g 158 (hCells kw (sOf (fold kw iv (gt T) (T.length / 64))) (.slice A r cap) ((m0.length + bs.length : Nat) : Int)) := by rw [Hx.out]; exact Hdg.out.blk
        have Hblk := Lib.hid hblk
        clear hblk
        have hRl : (rem T ++ (bs.drop d).take e).length = r + e := by
          have := Hx.out
          rw [List.length_append, List.length_take, List.length_drop]
          omega
        have hR : ∃ R, R = rem T ++ (bs.drop d).take e := ⟨_, rfl⟩
        obtain ⟨R, hR⟩ := hR
        rw [← hR] at hRl
        have HR := Lib.hid hR
        have HRl := Lib.hid hRl
        clear hR hRl
        go_wp2_with fail
        go_region_law (refine step_app rfl (.tmp 32) (.tmp 35) rfl base (.slice A r cap) (rem T) (by rfl) (Hown.out.drewN 1) _ _ _ _ e (by simp; omega) (by rfl) (Hrd.out.drewN 1) (by have := Hx.out; omega) (by have := Hsz.out; simp; omega) ?_; intro v1 w2 ho2 hg2 hat2; rw [← HR.out] at ho2; obtain ⟨A2, c2, hv2, hA2⟩ := ho2.form; subst hv2; have hb2 := (Hblk.out.drewN 1).grown hg2 (Ne.symm Hne.out); have c72' := (hb2.cell 72).trans (hCells_rest (sOf_size _)); have f72' := hb2.frozen 72; have Hb2 := Lib.hid hb2; have Hg2 := Lib.hid hg2; have Ho2 := Lib.hid ho2; have Hat2 := Lib.hid hat2; have HA2 := Lib.hid hA2; clear hb2 hg2 ho2 hat2 hA2)
        clear c72 f72 c72' f72'
        refine abs_then ?_
        intro w3 hw3
        have hb3 : Blk w3 g 158 (hCells kw (sOf (fold kw iv (gt T) (T.length / 64))) (.slice A2 R.length c2) ((m0.length + bs.length : Nat) : Int)) := by
          rw [hw3, ← hCells_set_rest (sOf_size _)]; exact Hb2.out.set_ _ _
        have hne2 : (.slice A2 R.length c2 : Value).ownBlock ≠ some g := Ho2.out.ne_blk Hb2.out (by decide)
        have ho3 : OwnB w3 base (.slice A2 R.length c2) R := by rw [hw3]; exact Ho2.out.set_ _ _ hne2
        have hbb2 : ∀ j, j < bs.length → w2.cell? ⟨bb, ob + j, none⟩ = some (.int .u8 (I8 (gt bs j))) := fun j hj => by
          exact Hg2.out.cell (Hbc.out j hj) (own_ne HAbb.out)
        have hbc3 : ∀ j, j < bs.length → w3.cell? ⟨bb, ob + j, none⟩ = some (.int .u8 (I8 (gt bs j))) := fun j hj => by
          rw [hw3, World.cell?_setCell_other w2 ⟨g, 72, none⟩ ⟨bb, ob + j, none⟩ _ (by intro he; injection he with h1; exact hbg h1.symm)]
          exact hbb2 j hj
        have hl2 : Below base w w2 := below_app (below_drewN Hl.out 1) (Hown.out.drewN 1) Hg2.out (Nat.le_refl _) (by have := Hsz.out; simp; omega)
        have hl3 : Below base w w3 := by rw [hw3]; exact below_set hl2 hgb _ _
        have hsz3 : w.heap.size ≤ w3.heap.size := by rw [hw3]; have := Hsz.out; have := Hg2.out.size; simp [World.setCell] at *; omega
        have hA3 : ∀ a, A2 = some a → a.block ≠ bb := own_step HAbb.out (World.block_lt_of_cell? wr _ (Hbc.out d (by omega))) Hat2.out
        have Hb3 := Lib.hid hb3
        have Ho3 := Lib.hid ho3
        have Hbc3 := Lib.hid hbc3
        have Hl3 := Lib.hid hl3
        have Hsz3 := Lib.hid hsz3
        have HA3 := Lib.hid hA3
        have c72 := (hb3.cell 72).trans (hCells_rest (sOf_size _))
        clear hw3 hbb2 hl2 hne2 hb3 ho3 hbc3 hl3 hsz3 hA3
        have hne64 : (((R.length : Nat) : Int) == 64) = false := by
          have := HRl.out
          have h' : ¬ ((R.length : Int) = 64) := by omega
          simpa using h'
        go_wp2_with fail
        all_goals
          refine ⟨wrel_part hde HT.out HR.out (by have := HRl.out; omega) Hb3.out Ho3.out Hbc3.out Hl3.out Hsz3.out HA3.out, ?_⟩
          show 0 < e
          exact he
    · have he0 : e = 0 := by omega
      subst he0
      go_wp2_with fail
      go_end0
      refine ⟨rfl, Hl.out, A, cap, ?_⟩
      have h := Hdg.out
      rwa [HT.out, List.take_of_length_le (by omega)] at h

end Go.Proofs.Ytgkhdpplmdkkaaa

namespace Go.Proofs.Ytgkhdpplmdkkaaa
open Go.RowKit Go.Lib

def wb (x : UInt32) : List UInt8 := [UInt8.ofNat (x.toNat / 16777216), UInt8.ofNat (x.toNat / 65536), UInt8.ofNat (x.toNat / 256), UInt8.ofNat x.toNat]
def outB (s : St) : Nat → List UInt8
  | 0 => []
  | j + 1 => outB s j ++ wb (s.at j)
theorem outB_length (s : St) (j : Nat) : (outB s j).length = 4 * j := by
  induction j with
  | zero => rfl
  | succ j ih => simp [outB, ih, wb]; omega
/-- the digest's state and its bytes -/
def digS (T : List UInt8) : St := fold kw iv (gt (T ++ padL T.length)) ((T ++ padL T.length).length / 64)
def dig (T : List UInt8) : List UInt8 := outB (digS T) 8
theorem dig_length (T : List UInt8) : (dig T).length = 32 := outB_length _ 8

theorem abs_in {n : Nat} {Q : Exit → Act → World → Prop} {e : Exit} {a : Act} {w : World} (h : ∀ w1, w1 = w → Exit.inBlock n Q e a w1) : Exit.inBlock n Q e a w := h w rfl

theorem u32_byte (x : UInt32) (d : Nat) : I32 x / (d : Int) % 256 = I8 (UInt8.ofNat (x.toNat / d)) := by
  rw [← I8_mod, Int.natCast_emod, Int.natCast_ediv]; rfl
theorem u32_byte0 (x : UInt32) : I32 x % 256 = I8 (UInt8.ofNat x.toNat) := by
  rw [← I8_mod, Int.natCast_emod]; rfl

theorem wb_cells (X : UInt32) : (#[.int .u8 (I32 X / 16777216 % 256), .int .u8 (I32 X / 65536 % 256), .int .u8 (I32 X / 256 % 256), .int .u8 (I32 X % 256)] : Array Value) = (bv (wb X)).toArray := by
  have h1 : I32 X / 16777216 % 256 = _ := u32_byte X 16777216
  have h2 : I32 X / 65536 % 256 = _ := u32_byte X 65536
  have h3 : I32 X / 256 % 256 = _ := u32_byte X 256
  rw [h1, h2, h3, u32_byte0]
  rfl

/-- eight words stored in a row -/
def set8 (w : World) (g o : Nat) (s : St) : World :=
  (((((((w.setCell ⟨g, o, none⟩ (.int .u32 (I32 s.a))).setCell ⟨g, o + 1, none⟩ (.int .u32 (I32 s.b))).setCell ⟨g, o + 2, none⟩ (.int .u32 (I32 s.c))).setCell ⟨g, o + 3, none⟩ (.int .u32 (I32 s.d))).setCell ⟨g, o + 4, none⟩ (.int .u32 (I32 s.e))).setCell ⟨g, o + 5, none⟩ (.int .u32 (I32 s.f))).setCell ⟨g, o + 6, none⟩ (.int .u32 (I32 s.g))).setCell ⟨g, o + 7, none⟩ (.int .u32 (I32 s.h))
theorem Blk.set8_same {w : World} {g : Nat} {t : TypeId} {s : St} (h : Blk w g t (sOf s)) (s2 : St) : Blk (set8 w g 0 s2) g t (sOf s2) := by
  have := (((((((h.set_ 0 (.int .u32 (I32 s2.a))).set_ 1 (.int .u32 (I32 s2.b))).set_ 2 (.int .u32 (I32 s2.c))).set_ 3 (.int .u32 (I32 s2.d))).set_ 4 (.int .u32 (I32 s2.e))).set_ 5 (.int .u32 (I32 s2.f))).set_ 6 (.int .u32 (I32 s2.g))).set_ 7 (.int .u32 (I32 s2.h))
  have hz : ((((((((sOf s).setIfInBounds 0 (.int .u32 (I32 s2.a))).setIfInBounds 1 (.int .u32 (I32 s2.b))).setIfInBounds 2 (.int .u32 (I32 s2.c))).setIfInBounds 3 (.int .u32 (I32 s2.d))).setIfInBounds 4 (.int .u32 (I32 s2.e))).setIfInBounds 5 (.int .u32 (I32 s2.f))).setIfInBounds 6 (.int .u32 (I32 s2.g))).setIfInBounds 7 (.int .u32 (I32 s2.h)) = sOf s2 := by simp [sOf]
  rw [hz] at this
  exact this
theorem Blk.set8_far {w : World} {g g4 o : Nat} {t : TypeId} {cs : Array Value} (h : Blk w g t cs) (hg : g ≠ g4) (s2 : St) : Blk (set8 w g4 o s2) g t cs :=
  (((((((h.far hg _).far hg _).far hg _).far hg _).far hg _).far hg _).far hg _).far hg _
theorem OwnB.set8 {w : World} {base : Nat} {v : Value} {l : List UInt8} {g o : Nat} (h : OwnB w base v l) (hg : v.ownBlock ≠ some g) (s2 : St) : OwnB (set8 w g o s2) base v l :=
  (((((((h.set_ _ _ hg).set_ _ _ hg).set_ _ _ hg).set_ _ _ hg).set_ _ _ hg).set_ _ _ hg).set_ _ _ hg).set_ _ _ hg
theorem below_set8 {B : Nat} {a w : World} (h : Below B a w) {g : Nat} (hg : B ≤ g) (o : Nat) (s2 : St) : Below B a (set8 w g o s2) :=
  below_set (below_set (below_set (below_set (below_set (below_set (below_set (below_set h hg _ _) hg _ _) hg _ _) hg _ _) hg _ _) hg _ _) hg _ _) hg _ _

set_option maxRecDepth 100000 in
/-- string(b) of a slice that lies owned -/
theorem OwnB.string {w : World} {base : Nat} {v : Value} {l : List UInt8} (h : OwnB w base v l) : (convert 27 9 v).run Try.prog w = .ok (.string ⟨l.toArray⟩) w := by
  obtain ⟨A, cap, rfl, hA⟩ := h.form
  cases A with
  | none =>
    rcases h.2 with ⟨_, h0⟩ | ⟨g, cap', cur, hv, _⟩
    · have : l = [] := List.eq_nil_of_length_eq_zero h0
      subst this
      exact run_convert_nil_bytes w _ _ 5 _ (by kernel_rfl) (by kernel_rfl) (by kernel_rfl)
    · injection hv with h2; cases h2
  | some a =>
    refine run_convert_bytes_back w _ _ 5 a cap l (by kernel_rfl) (by kernel_rfl) (by kernel_rfl) fun j hj => ?_
    obtain ⟨g, rfl, _⟩ := hA a rfl
    show _ = some (Value.int .u8 (I8 _))
    exact World.ownsRow.cells (g := g) h rfl j _ (by rw [bv_at, List.getElem?_eq_getElem hj]; rfl)

set_option maxRecDepth 100000 in
set_option maxHeartbeats 30000000 in
theorem hsum_any (g base : Nat) (T : List UInt8) (A : Option Addr) (cap : Nat) (w : World) (hd : Dig w g base T T.length A cap) (hT : T.length ≤ 1099511627776) :
    Calls Try.prog 88 #[.pointer (some ⟨g, 0, none⟩)] w fun e w' => e = .returned (.string ⟨(dig T).toArray⟩) ∧ Below w.heap.size w w' := by
  have Hd := Lib.hid hd
  have c72 := (hd.blk.cell 72).trans (hCells_rest (sOf_size _))
  have c73 := (hd.blk.cell 73).trans (hCells_n (sOf_size _))
  have hr64 : (rem T).length < 64 := by rw [rem_length]; omega
  have Hr64 := Lib.hid hr64
  have hba := hd.blk.alloc (.cells #[] 5)
  have c72a := (hba.cell 72).trans (hCells_rest (sOf_size _))
  have c73a := (hba.cell 73).trans (hCells_n (sOf_size _))
  clear hd hr64 hba
  go_enter Try.func88, Try.ntmps88
  go_wp2_with fail
  go_region_law (first
    | (refine step_app rfl (.tmp 11) (.tmp 15) rfl w.heap.size (.slice (some ⟨w.heap.size, 0, none⟩) 0 0) [] (by rfl) (OwnB.lit _ [] (by simp) (by decide)) _ _ _ (rem T) (rem T).length rfl (by rfl) ((Hd.out.own.reads.drewN 1).alloc (by simp) _) (by have := Hr64.out; simp; omega) (by simp) ?_; intro v1 w2 ho2 hg2 hat2; have hb2 := ((Hd.out.blk.drewN 1).alloc _).grown hg2 (by simp [Value.ownBlock]; have := Hd.out.blk.lt; omega); have c73' := (hb2.cell 73).trans (hCells_n (sOf_size _)); have Hb2 := Lib.hid hb2; have Hg2 := Lib.hid hg2; have Ho2 := Lib.hid ho2; have Hat2 := Lib.hid hat2; clear hb2 hg2 ho2 hat2)
    | (go_simp; go_at_call 99; refine (pad_any T.length hT _).mono ?_; rintro e3 w3 ⟨v3, rfl, ho3, hl3⟩; have Ho3 := Lib.hid ho3; have Hl3 := Lib.hid hl3; clear ho3 hl3)
    | (obtain ⟨A3, c3, hv3, _⟩ := Ho3.out.form; subst hv3; refine step_app rfl (.tmp 16) (.tmp 21) rfl w.heap.size v1 ([] ++ rem T) (by rfl) (Ho2.out.below_size Hl3.out) _ A3 c3 (padL T.length) (padL T.length).length rfl (by rfl) Ho3.out.reads (by have := Hr64.out; have := padL_length T.length; have := zc_lt T.length; simp; omega) (by have := Hg2.out.size; have := Hl3.out.size; simp at *; omega) ?_; intro v5 w5 ho5 hg5 hat5; have Ho5 := Lib.hid ho5; have Hg5 := Lib.hid hg5; clear ho5 hg5 hat5))
  all_goals
    refine abs_then ?_
    intro w6 hw6
    have hb3 := Hb2.out.below Hl3.out Hb2.out.lt
    have hb6 : Blk w6 g 158 (hCells kw (sOf (fold kw iv (gt T) (T.length / 64))) (.slice A (rem T).length cap) T.length) := by
      rw [hw6]; exact hb3.grown Hg5.out (Ne.symm (Ho2.out.ne_blk Hb2.out (by decide)))
    have hM : ∃ M, M = rem T ++ padL T.length := ⟨_, rfl⟩
    obtain ⟨M, hM⟩ := hM
    have ho6 : OwnB w6 w.heap.size v5 M := by rw [hw6, hM]; have := Ho5.out; simpa using this
    have hsz3 : w.heap.size ≤ w3.heap.size := by have := Hg2.out.size; have := Hl3.out.size; simp at *; omega
    have hl2 : Below w.heap.size w w2 := below_app (below_drewN' ((Below.refl _ _).alloc (Nat.le_refl _) (.cells #[] 5)) 1) (base := w.heap.size) (v := .slice (some ⟨w.heap.size, 0, none⟩) 0 0) (l := []) (OwnB.drewN (OwnB.lit _ [] (by simp) (by decide)) 1) Hg2.out (Nat.le_refl _) (by simp)
    have hl3 : Below w.heap.size w w3 := hl2.trans (Hl3.out.mono hl2.size)
    have hl6 : Below w.heap.size w w6 := by rw [hw6]; exact below_app hl3 (Ho2.out.below_size Hl3.out) Hg5.out (Nat.le_refl _) hl3.size
    clear hw6 c72 c73 c72a c73a c73'
    have hM64 : M.length % 64 = 0 := by rw [hM, List.length_append, rem_length]; have := padL_whole T.length; omega
    have hM0 : 0 < M.length := by rw [hM, List.length_append, padL_length]; omega
    have hMb : M.length < 200 := by rw [hM, List.length_append, padL_length]; have := Hr64.out; have := zc_lt T.length; omega
    have hf : ∃ g5 c5, v5 = .slice (some ⟨g5, 0, none⟩) M.length c5 ∧ M.length ≤ c5 := by
      rcases ho6.2 with ⟨_, h0⟩ | ⟨g', cap', cur, hv', _, _, hnc, _⟩
      · omega
      · exact ⟨g', cap', hv', hnc⟩
    obtain ⟨g5, c5, rfl, hMc⟩ := hf
    have hg5 : g5 < w6.heap.size := (World.ownsRow.lt ho6 g5 rfl).2
    have hgg : g5 ≠ g := by intro h; subst h; exact ho6.ne_blk hb6 (by decide) rfl
    have hst : ∃ st, st = fold kw iv (gt T) (T.length / 64) := ⟨_, rfl⟩
    obtain ⟨st, hst⟩ := hst
    rw [← hst] at hb6
    have s0 := (hb6.cell (64 + 0)).trans (hCells_s (sOf_size _) (by omega))
    have s1 := (hb6.cell (64 + 1)).trans (hCells_s (sOf_size _) (by omega))
    have s2 := (hb6.cell (64 + 2)).trans (hCells_s (sOf_size _) (by omega))
    have s3 := (hb6.cell (64 + 3)).trans (hCells_s (sOf_size _) (by omega))
    have s4 := (hb6.cell (64 + 4)).trans (hCells_s (sOf_size _) (by omega))
    have s5 := (hb6.cell (64 + 5)).trans (hCells_s (sOf_size _) (by omega))
    have s6 := (hb6.cell (64 + 6)).trans (hCells_s (sOf_size _) (by omega))
    have s7 := (hb6.cell (64 + 7)).trans (hCells_s (sOf_size _) (by omega))
    simp only [sOf, List.getElem?_toArray, List.getElem?_cons_zero, List.getElem?_cons_succ, Nat.reduceAdd] at s0 s1 s2 s3 s4 s5 s6 s7
    have Hb6 := Lib.hid hb6
    have Ho6 := Lib.hid ho6
    have Hl6 := Lib.hid hl6
    have HM := Lib.hid hM
    have Hst := Lib.hid hst
    have HM64 := Lib.hid hM64
    have HMb := Lib.hid hMb
    clear hb6 ho6 hl6 hM hst hM64 hMb hb3 hsz3 hl2 hl3
    go_wp2_with fail
    refine abs_world ?_
    intro w7 hw7
    have hg4 : ∃ g4, g4 = w6.heap.size := ⟨_, rfl⟩
    obtain ⟨g4, hg4⟩ := hg4
    rw [← hg4]
    have hst7 : Blk w7 g4 156 (sOf st) := by rw [hw7, hg4]; exact Blk.new w6 _ _
    have hb7 : Blk w7 g 158 (hCells kw (sOf st) (.slice A (rem T).length cap) T.length) := by rw [hw7]; exact Hb6.out.alloc _
    have ho7 : OwnB w7 w.heap.size (.slice (some ⟨g5, 0, none⟩) M.length c5) M := by rw [hw7]; exact Ho6.out.alloc _
    have hl7 : Below w.heap.size w w7 := by rw [hw7]; exact Hl6.out.alloc Hl6.out.size _
    have hg54 : g5 ≠ g4 := by omega
    have hgg4 : g ≠ g4 := by have := Hb6.out.lt; omega
    have hw4 : w.heap.size ≤ g4 := by rw [hg4]; exact Hl6.out.size
    clear hw7 s0 s1 s2 s3 s4 s5 s6 s7
    have Hst7 := Lib.hid hst7
    have Hb7 := Lib.hid hb7
    have Ho7 := Lib.hid ho7
    have Hl7 := Lib.hid hl7
    clear hst7 hb7 ho7 hl7 hg4
    go_loopw [5] (fun i wr => ∃ q : Nat, i = .int .i64 ((64 * q : Nat) : Int) ∧ 64 * q ≤ M.length ∧ Blk wr g4 156 (sOf (fold kw iv (gt (T ++ padL T.length)) (T.length / 64 + q))) ∧ Blk wr g 158 (hCells kw (sOf st) (.slice A (rem T).length cap) T.length) ∧
        OwnB wr w.heap.size (.slice (some ⟨g5, 0, none⟩) M.length c5) M ∧ Below w.heap.size w wr) (fun i _ => M.length - (intOf i).toNat)
    case atStart =>
      refine ⟨0, rfl, by omega, ?_, Hb7.out, Ho7.out, Hl7.out⟩
      have := Hst7.out
      rw [Hst.out] at this
      rw [Nat.add_zero, fold_congr (T.length / 64) (fun _ _ => rfl) (b' := gt T) (fun j hj => gt_app T (padL T.length) j (by omega))]
      exact this
    case round =>
      obtain ⟨q, rfl, hq, hs4, hb, ho, hl⟩ := hrel
      have hi : ∃ i, i = 64 * q := ⟨_, rfl⟩
      obtain ⟨i, hi⟩ := hi
      rw [← hi]
      rw [← hi] at hq
      have hF : ∃ F, F = fold kw iv (gt (T ++ padL T.length)) (T.length / 64 + q) := ⟨_, rfl⟩
      obtain ⟨F, hF⟩ := hF
      rw [← hF] at hs4
      have HF := Lib.hid hF
      have Hi := Lib.hid hi
      clear hF hi
      by_cases him : i < M.length
      · have him64 : i + 64 ≤ M.length := by have := Hi.out; have := HM64.out; omega
        have himc : i + 64 ≤ c5 := by omega
        have hic : i < c5 := by omega
        have hib : i < 200 := by have := HMb.out; omega
        have hcb : 64 ≤ c5 - i := by omega
        have hw64 : IntKind.i64.wrap ((i : Int) + 64) = (i : Int) + 64 := by rw [IntKind.wrap_i64]; omega
        have ht64 : ((i : Int) + 64).toNat = i + 64 := by omega
        have hle64 : (i : Int) + 64 ≤ (c5 : Int) := by omega
        have hge64 : (0 : Int) ≤ (i : Int) + 64 := by omega
        have hci : ¬ c5 = i := by omega
        have s0 := hs4.cell 0
        have s1 := hs4.cell 1
        have s2 := hs4.cell 2
        have s3 := hs4.cell 3
        have s4 := hs4.cell 4
        have s5 := hs4.cell 5
        have s6 := hs4.cell 6
        have s7 := hs4.cell 7
        simp only [sOf, List.getElem?_toArray, List.getElem?_cons_zero, List.getElem?_cons_succ] at s0 s1 s2 s3 s4 s5 s6 s7
        have hkk : ∀ t, t < 64 → wr.cell? ⟨g, 0 + t, none⟩ = some (.int .u32 (I32 (kw t))) := fun j hj => by
          rw [Nat.zero_add]; exact (hb.cell j).trans (hCells_k (sOf_size _) hj)
        have hrc : ∀ j, j < 64 → wr.cell? ⟨g5, i + j, none⟩ = some (.int .u8 (I8 (gt M (i + j)))) := fun j hj => by
          have := World.ownsRow.cells (g := g5) ho rfl (i + j) (.int .u8 (I8 (gt M (i + j)))) (by
            rw [bv_at]; unfold gt; rw [List.getD_eq_getElem?_getD, List.getElem?_eq_getElem (by omega)]; rfl)
          have hadd : (⟨g5, 0, none⟩ : Addr).add (i + j) = ⟨g5, i + j, none⟩ := by unfold Addr.add; split <;> simp_all
          rwa [hadd] at this
        have Hkk := Lib.hid hkk
        have Hrc := Lib.hid hrc
        have Hs4 := Lib.hid hs4
        have Hb := Lib.hid hb
        have Ho := Lib.hid ho
        have Hl := Lib.hid hl
        clear hkk hrc hs4 hb ho hl
        go_wp2_with fail
        go_region_law (go_simp; go_at_call 97; refine (mix_any g 0 kw F g5 i (c5 - i) (fun j => gt M (i + j)) (World.drew wr) Hkk.out Hrc.out hcb).mono ?_; rintro e8 w8 ⟨rfl, hl8⟩; unfold agg8; clear s0 s1 s2 s3 s4 s5 s6 s7; have hb8 := (Hs4.out.drewN 1).below hl8 Hs4.out.lt; have s0 := hb8.cell 0; have q0 := hb8.frozen 0; have s1 := hb8.cell 1; have q1 := hb8.frozen 1; have s2 := hb8.cell 2; have q2 := hb8.frozen 2; have s3 := hb8.cell 3; have q3 := hb8.frozen 3; have s4 := hb8.cell 4; have q4 := hb8.frozen 4; have s5 := hb8.cell 5; have q5 := hb8.frozen 5; have s6 := hb8.cell 6; have q6 := hb8.frozen 6; have s7 := hb8.cell 7; have q7 := hb8.frozen 7; simp only [sOf, List.getElem?_toArray, List.getElem?_cons_zero, List.getElem?_cons_succ] at s0 s1 s2 s3 s4 s5 s6 s7; have Hb8 := Lib.hid hb8; have Hl8 := Lib.hid hl8; clear hb8 hl8)
        all_goals
          refine abs_in ?_
          intro w9 hw9
          have hx : ∃ S9, S9 = mixS kw F (fun j => gt M (i + j)) := ⟨_, rfl⟩
          obtain ⟨S9, hx⟩ := hx
          rw [← hx] at hw9
          have hw9' : w9 = set8 w8 g4 0 S9 := hw9
          clear hw9
          have hb9 : Blk w9 g4 156 (sOf S9) := by rw [hw9']; exact Hb8.out.set8_same S9
          have hbg9 : Blk w9 g 158 (hCells kw (sOf st) (.slice A (rem T).length cap) T.length) := by
            rw [hw9']; exact ((Hb.out.drewN 1).below Hl8.out Hb.out.lt).set8_far hgg4 _
          have hne4 : (.slice (some ⟨g5, 0, none⟩) M.length c5 : Value).ownBlock ≠ some g4 := by simp [Value.ownBlock]; exact hg54
          have ho9 : OwnB w9 w.heap.size (.slice (some ⟨g5, 0, none⟩) M.length c5) M := by
            rw [hw9']; exact ((Ho.out.drewN 1).below_size Hl8.out).set8 hne4 _
          have hl9 : Below w.heap.size w w9 := by
            rw [hw9']; exact below_set8 ((below_drewN' Hl.out 1).trans (Hl8.out.mono Hl.out.size)) hw4 _ _
          clear hw9' hne4 s0 s1 s2 s3 s4 s5 s6 s7 q0 q1 q2 q3 q4 q5 q6 q7
          have hF1 : S9 = fold kw iv (gt (T ++ padL T.length)) (T.length / 64 + (q + 1)) := by
            show _ = mixS kw (fold kw iv (gt (T ++ padL T.length)) (T.length / 64 + q)) _
            rw [← HF.out, hx]
            refine mixS_congr (fun _ _ => rfl) fun j hj => ?_
            rw [HM.out, rem_at]
            congr 1
            have h1 := Hi.out
            show 64 * (T.length / 64) + (i + j) = 64 * (T.length / 64 + q) + j
            omega
          rw [hF1] at hb9
          have Hb9 := Lib.hid hb9
          have Hbg9 := Lib.hid hbg9
          have Ho9 := Lib.hid ho9
          have Hl9 := Lib.hid hl9
          clear hb9 hbg9 ho9 hl9 hF1 hx
          go_wp2_with fail
          refine ⟨⟨q + 1, ?_, by have := Hi.out; omega, Hb9.out, Hbg9.out, Ho9.out, Hl9.out⟩, ?_⟩
          · have := Hi.out
            congr 1
            omega
          · simp [intOf]
            omega
      · have hiM : i = M.length := by omega
        have hFd : F = digS T := by
          rw [HF.out]
          unfold digS
          congr 1
          have h1 := Hi.out
          rw [hiM, HM.out, List.length_append, rem_length] at h1
          rw [List.length_append]
          omega
        have s0 := hs4.cell 0
        have s1 := hs4.cell 1
        have s2 := hs4.cell 2
        have s3 := hs4.cell 3
        have s4 := hs4.cell 4
        have s5 := hs4.cell 5
        have s6 := hs4.cell 6
        have s7 := hs4.cell 7
        simp only [sOf, List.getElem?_toArray, List.getElem?_cons_zero, List.getElem?_cons_succ] at s0 s1 s2 s3 s4 s5 s6 s7
        have Hl := Lib.hid hl
        have HFd := Lib.hid hFd
        clear hs4 hb ho hl hFd hiM
        go_wp2_with fail
        go_loopw [6, 44] (fun b i wr => ∃ (j : Nat) (A : Option Addr) (c : Nat), i = .int .i64 j ∧ j ≤ 8 ∧ b = .slice A (4 * j) c ∧ OwnB wr w.heap.size (.slice A (4 * j) c) (outB F j) ∧ Below w.heap.size w wr) (fun _ i _ => 8 - (intOf i).toNat)
        case atStart => exact ⟨0, none, 0, rfl, by omega, rfl, OwnB.nil _ _, Hl.out⟩
        case round =>
          obtain ⟨j, A, c, rfl, hj, rfl, ho3, hl3⟩ := hrel
          have Ho3 := Lib.hid ho3
          have Hl3 := Lib.hid hl3
          clear ho3 hl3
          by_cases h8 : j < 8
          · have hx := fun W => run_index8 F j h8 W
            have hX : ∃ X, X = F.at j := ⟨_, rfl⟩
            obtain ⟨X, hX⟩ := hX
            rw [← hX] at hx
            have HX := Lib.hid hX
            clear hX
            have hc := wb_cells X
            have Hc := Lib.hid hc
            clear hc
            go_wp2_with (at_builtin; refine wpList_app rfl (.tmp 47) (.tmp 59) rfl w.heap.size (.slice A (4 * j) c) _ rfl (Ho3.out.alloc _) _ _ _ (wb X) 4 rfl rfl (reads_new _ _ _ _ (by rw [Hc.out])) (by rw [outB_length]; omega) (Nat.le_trans Hl3.out.size (by simp)) ?_; intro v1 w2 ho2 hg2 hat2)
            obtain ⟨A2, c2, rfl, _⟩ := ho2.form
            have hrep : outB F j ++ wb X = outB F (j + 1) := by rw [HX.out]; rfl
            rw [hrep, outB_length] at ho2
            rw [hrep, outB_length]
            go_roundw
            case rel => exact ⟨j + 1, A2, c2, by go_num, by omega, rfl, ho2, below_app (Hl3.out.alloc Hl3.out.size _) (Ho3.out.alloc _) hg2 (Nat.le_refl _) (Nat.le_trans Hl3.out.size (by simp))⟩
            case measure => simp [intOf]; omega
          · obtain rfl : j = 8 := by omega
            have hs := Ho3.out.string
            rw [HFd.out] at hs
            go_wp2
            go_ret
            exact ⟨rfl, Hl3.out⟩

end Go.Proofs.Ytgkhdpplmdkkaaa

namespace Go.Proofs.Ytgkhdpplmdkkaaa
open Go.RowKit Go.Lib

@[go_sem] theorem size_mk (l : List UInt8) : (ByteArray.mk l.toArray).size = l.length := by simp [ByteArray.size]

/-- the capacity that []byte(s) has, and the world behind it -/
def bcap (w : World) (l : List UInt8) : Nat := grownCap w (ByteArray.mk l.toArray).size 0 5
def bw (w : World) (l : List UInt8) : World :=
  w.drew.alloc (.cells (bytesRow ⟨l.toArray⟩ (bcap w l)) 5 ((bytesRow ⟨l.toArray⟩ (bcap w l)).size, (bytesRow ⟨l.toArray⟩ (bcap w l)).size + 1))
set_option maxRecDepth 100000 in
@[go_sem] theorem bw_conv (w : World) (l : List UInt8) : (convert 9 27 (.string ⟨l.toArray⟩)).run Try.prog w = .ok (.slice (some ⟨w.heap.size, 0, none⟩) l.length (bcap w l)) (bw w l) := by
  rw [run_bytes_of_string w _ _ 5 ⟨l.toArray⟩ (by kernel_rfl) (by kernel_rfl) (by kernel_rfl), size_mk]
  rfl
theorem bcap_le (w : World) (l : List UInt8) : l.length ≤ bcap w l := by
  have := grownCap_ge w (ByteArray.mk l.toArray).size 0 5
  rw [size_mk] at this
  unfold bcap
  rw [size_mk]
  exact this
theorem bw_size (w : World) (l : List UInt8) : (bw w l).heap.size = w.heap.size + 1 := by
  unfold bw; simp
theorem bw_below (w : World) (l : List UInt8) : Below w.heap.size w (bw w l) :=
  (below_drewN' (Below.refl _ _) 1).alloc (Nat.le_refl _) _
theorem bw_cell (w : World) (l : List UInt8) (j : Nat) (u : UInt8) (h : l[j]? = some u) : (bw w l).cell? ⟨w.heap.size, j, none⟩ = some (.int .u8 (I8 u)) := by
  have hh : (bw w l).heap[w.heap.size]? = some (.cells (bytesRow ⟨l.toArray⟩ (bcap w l)) 5 ((bytesRow ⟨l.toArray⟩ (bcap w l)).size, (bytesRow ⟨l.toArray⟩ (bcap w l)).size + 1)) := heap_alloc_new w.drew _
  rw [cell_of_row _ _ j _ _ _ hh]
  unfold bytesRow
  have hj : j < l.length := (List.getElem?_eq_some_iff.1 h).1
  rw [Array.getElem?_append_left (by simpa using hj)]
  simp [h]
  rfl
theorem bw_reads (w : World) (l : List UInt8) : Reads (bw w l) (w.heap.size + 1) 1 (some ⟨w.heap.size, 0, none⟩) l.length (bv l) := by
  refine ⟨by simp [bv], fun _ => ⟨_, rfl, by simp, fun j u hu => ?_⟩⟩
  have hadd : (⟨w.heap.size, 0, none⟩ : Addr).add j = ⟨w.heap.size, j, none⟩ := by unfold Addr.add; split <;> simp_all
  rw [hadd]
  rw [bv_at] at hu
  cases hl : l[j]? with
  | none => rw [hl] at hu; cases hu
  | some b => rw [hl] at hu; injection hu with hu; subst hu; exact bw_cell w l j b hl

theorem str_add (x y : List UInt8) (h : x.length + y.length ≤ 1099511627776) (w : World) : (Op.stringOp .add ⟨x.toArray⟩ ⟨y.toArray⟩).run Try.prog w = .ok (.string ⟨(x ++ y).toArray⟩) w := by
  have hr := run_string_add_sum (P := Try.prog) (w := w) ⟨x.toArray⟩ ⟨y.toArray⟩ (by rw [size_mk, size_mk]; omega)
  refine hr.trans ?_
  all_goals first | rfl | (congr 2; apply ByteArray.ext; simp)

/-- copy of a string that fits into a row of its own -/
theorem wpList_copy_str {w : World} {ops : Array Oper} {rest : List Oper} {o : Oper} {a : Act} {Q : Exit → Act → World → Prop} (hgd : o.guard = none) (d s : Operand)
    (ho : o.op = .call { callee := .builtin .copy, args := #[d, s], argTypes := #[27, 9] })
    (g dLen dCap : Nat) (l : List UInt8) (cur : Array Value) (t : TypeId) (hd : a.eval d = .slice (some ⟨g, 0, none⟩) dLen dCap) (hs : a.eval s = .string ⟨l.toArray⟩) (hg : Blk w g t cur) (hle : l.length ≤ dLen) (hfit : l.length ≤ cur.size)
    (h : wpList Try.prog ops Q rest (a.put o.dst (.int .i64 l.length)) (w.setRow g ((bv l) ++ cur.toList.drop l.length).toArray)) : wpList Try.prog ops Q (o :: rest) a w := by
  refine wpList_plain hgd fun K hK => ?_
  obtain ⟨i0, hi0, hz0, hz1, hz2⟩ := info_parts info8
  have hr := run_copy_row_string (P := Try.prog) w 27 9 o.type 5 g 0 dLen dCap ⟨l.toArray⟩ cur t Try.underlying27 (by rw [hi0]; simp [hz1]) hg (by rw [size_mk]; exact hle) (by rw [size_mk]; omega)
  unfold Oper.wp execOp
  simp only [ho, resolve, invoke, builtin, Sem.run_bind, Sem.run_pure, Result.andThen_ok, List.map_toArray, List.map_cons, List.map_nil, hd, hs, hr]
  refine hK _ _ ?_
  simpa [goInt, bv, byteCells, I8, Function.comp_def, size_mk] using h

theorem strCells_bv (l : List UInt8) : strCells ⟨l.toArray⟩ = bv l := by simp [strCells, bv, I8]
/-- append(b, s...), s a string, onto a row of the call's own -/
theorem wpList_app_str {w : World} {ops : Array Oper} {rest : List Oper} {o : Oper} {a : Act} {Q : Exit → Act → World → Prop} (hgd : o.guard = none) (s x : Operand)
    (ho : o.op = .call { callee := .builtin .append, args := #[s, x], argTypes := #[27, 9] })
    (base : Nat) (v : Value) (l : List UInt8) (hs : a.eval s = v) (hown : OwnB w base v l) (l2 : List UInt8) (hx : a.eval x = .string ⟨l2.toArray⟩)
    (hlen : l.length + l2.length ≤ 140737488355328) (hbase : base ≤ w.heap.size)
    (h : ∀ v' w', OwnB w' base v' (l ++ l2) → w.grownBy w' v.ownBlock → wpList Try.prog ops Q rest (a.put o.dst v') w') : wpList Try.prog ops Q (o :: rest) a w := by
  obtain ⟨i0, hi0, hz0, hz1, hz2⟩ := info_parts info8
  refine wpList_append_own_string w hgd s x 27 9 ho base 5 i0 Try.underlying27 (by kernel_rfl) hi0 hz0 hz1 hz2 v l.length (bv l) hs hown ⟨l2.toArray⟩ hx (by rw [size_mk]; unfold maxLen; omega) (by rw [size_mk]; omega) hbase ?_
  intro v' w' h1 h2 _
  rw [size_mk, strCells_bv] at h1
  exact h v' w' (by unfold OwnB; rw [List.length_append, bv_append]; exact h1) h2

end Go.Proofs.Ytgkhdpplmdkkaaa

namespace Go.Proofs.Ytgkhdpplmdkkaaa
open Go.RowKit Go.Lib

set_option maxRecDepth 100000 in
set_option maxHeartbeats 2000000 in
theorem ssum_any (bs : List UInt8) (A : Option Addr) (bb ob cb : Nat) (w : World) (hb : ∀ j, j < bs.length → w.cell? ⟨bb, ob + j, none⟩ = some (.int .u8 (I8 (gt bs j)))) (hcb : 0 < bs.length → A = some ⟨bb, ob, none⟩ ∧ bs.length ≤ cb)
    (hbb : bb < w.heap.size) (hlen : bs.length ≤ 1099511627776) :
    Calls Try.prog 98 #[.slice A bs.length cb] w fun e w' => e = .returned (.string ⟨(dig bs).toArray⟩) ∧ Below w.heap.size w w' := by
  have Hb := Lib.hid hb
  clear hb
  go_enter Try.func98, Try.ntmps98
  go_wp2_with fail
  refine (newsha_any _).mono ?_
  rintro e w1 ⟨g, rfl, hblk, hl, hg⟩
  have hd : Dig w1 g w.heap.size [] 0 none 0 := ⟨by rw [wArr_iv] at hblk; exact hblk, OwnB.nil _ _⟩
  have hb1 : ∀ j, j < bs.length → w1.cell? ⟨bb, ob + j, none⟩ = some (.int .u8 (I8 (gt bs j))) := fun j hj => (hl.cell (p := ⟨bb, ob + j, none⟩) hbb).trans (Hb.out j hj)
  have hbg : bb ≠ g := by omega
  have Hd := Lib.hid hd
  have Hl := Lib.hid hl
  have Hb1 := Lib.hid hb1
  clear hblk hd hl hb1
  go_wp2_with fail
  refine (write_any g w.heap.size [] bs none A 0 bb ob cb w1 Hd.out Hb1.out hcb hbg (by simp) Hl.out.size hg (by simpa using hlen)).mono ?_
  rintro e w2 ⟨rfl, hl2, A2, c2, hd2⟩
  have hd2' : Dig w2 g w.heap.size bs bs.length A2 c2 := by simpa using hd2
  have Hd2 := Lib.hid hd2'
  have Hl2 := Lib.hid hl2
  clear hd2 hl2 hd2'
  go_wp2_with fail
  refine (hsum_any g w.heap.size bs A2 c2 w2 Hd2.out hlen).mono ?_
  rintro e w3 ⟨rfl, hl3⟩
  have Hl3 := Lib.hid hl3
  clear hl3
  go_wp2
  go_ret
  exact ⟨rfl, (Hl.out.trans Hl2.out).trans (Hl3.out.mono (Hl.out.trans Hl2.out).size)⟩

end Go.Proofs.Ytgkhdpplmdkkaaa
