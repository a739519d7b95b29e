/- Rows of bytes of the call's own: append, and what it leaves. -/
import Derived.Test.YtgkhdpplmdkkaaaWords
import Derived.Test.YtgkhdpplmdkkaaaBits
namespace Go.Proofs.Ytgkhdpplmdkkaaa
open Go.RowKit

/-- bytes as cells -/
def bv (l : List UInt8) : List Value := l.map fun b => .int .u8 (I8 b)
theorem bv_length (l : List UInt8) : (bv l).length = l.length := by simp [bv]
theorem bv_append (l m : List UInt8) : bv (l ++ m) = bv l ++ bv m := by simp [bv]
theorem bv_at (l : List UInt8) (j : Nat) : (bv l)[j]? = (l[j]?).map fun b => .int .u8 (I8 b) := by simp [bv]
theorem bv_one (l : List UInt8) : ∀ u ∈ bv l, u.oneCell' = true := by
  intro u hu
  obtain ⟨b, _, rfl⟩ := List.mem_map.1 hu
  rfl

/-- the value v is a row of the call's own that holds the bytes l -/
def OwnB (w : World) (base : Nat) (v : Value) (l : List UInt8) : Prop := w.ownsRow base 5 1 v l.length (bv l)

section
variable {w w' : World} {base g : Nat} {v : Value} {l : List UInt8}
theorem OwnB.nil (w : World) (base : Nat) : OwnB w base (.slice none 0 0) [] := World.ownsRow_nil w base _ 1
theorem OwnB.form (h : OwnB w base v l) : ∃ A cap, v = .slice A l.length cap ∧ ∀ a, A = some a → ∃ g, a = ⟨g, 0, none⟩ ∧ base ≤ g ∧ g < w.heap.size := by
  rcases h.2 with ⟨rfl, hx⟩ | ⟨g, cap, cur, hv, hg, hh, hnc, hm, hs, ht⟩
  · have : l = [] := by
      cases l with
      | nil => rfl
      | cons a l => simp at hx
    subst this
    exact ⟨none, 0, rfl, fun a ha => by cases ha⟩
  · refine ⟨some ⟨g, 0, none⟩, cap, hv, fun a ha => ⟨g, by injection ha with ha; exact ha.symm, hg, ?_⟩⟩
    exact (World.ownsRow.lt h g (by rw [hv]; rfl)).2
theorem OwnB.alloc (h : OwnB w base v l) (o : Obj) : OwnB (w.alloc o) base v l := World.ownsRow.alloc h o
theorem OwnB.drewN (h : OwnB w base v l) (n : Nat) : OwnB (w.drewN n) base v l := h
theorem OwnB.below {B : Nat} (h : OwnB w base v l) (hb : Below B w w') (hv : ∀ k, v.ownBlock = some k → k < B) : OwnB w' base v l := by
  refine ⟨h.1, ?_⟩
  rcases h.2 with h2 | ⟨g, cap, cur, hv', hg, hh, r⟩
  · exact Or.inl h2
  · exact Or.inr ⟨g, cap, cur, hv', hg, by rw [hb.block g (hv g (by rw [hv']; rfl))]; exact hh, r⟩
theorem OwnB.below_size (h : OwnB w base v l) (hb : Below w.heap.size w w') : OwnB w' base v l := h.below hb fun k hk => (World.ownsRow.lt h k hk).2
theorem OwnB.set_ (h : OwnB w base v l) {g : Nat} (o : Nat) (u : Value) (hg : v.ownBlock ≠ some g) : OwnB (w.setCell ⟨g, o, none⟩ u) base v l := by
  refine ⟨h.1, ?_⟩
  rcases h.2 with h2 | ⟨g', cap, cur, hv', hg', hh, r⟩
  · exact Or.inl h2
  · refine Or.inr ⟨g', cap, cur, hv', hg', ?_, r⟩
    rw [Below.heap_setCell w ⟨g, o, none⟩ u g' (by intro e; apply hg; rw [hv']; simp [Value.ownBlock]; exact e)]
    exact hh
theorem OwnB.ne_blk {t : TypeId} {cs : Array Value} (h : OwnB w base v l) (hb : Blk w g t cs) (ht : 5 ≠ t) : v.ownBlock ≠ some g := by
  rcases h.2 with ⟨rfl, _⟩ | ⟨g', cap, cur, rfl, _, hh, _⟩
  · simp [Value.ownBlock]
  · intro he
    have : g' = g := by simpa [Value.ownBlock] using he
    subst this
    unfold Blk at hb
    rw [hh] at hb
    injection hb with hb
    injection hb with _ h2
    exact ht h2
theorem OwnB.base_le {base' : Nat} (h : OwnB w base v l) (hb : base' ≤ base) : OwnB w base' v l := by
  refine ⟨h.1, ?_⟩
  rcases h.2 with h2 | ⟨g', cap, cur, hv', hg', r⟩
  · exact Or.inl h2
  · exact Or.inr ⟨g', cap, cur, hv', by omega, r⟩
theorem OwnB.reads {A : Option Addr} {c : Nat} (h : OwnB w base (.slice A l.length c) l) : Reads w w.heap.size 1 A l.length (bv l) := Reads.of_own h
theorem OwnB.lit (w : World) (l : List UInt8) (hb : base ≤ w.heap.size) (hl : l.length ≤ maxLen) : OwnB (w.alloc (.cells (bv l).toArray 5)) base (.slice (some ⟨w.heap.size, 0, none⟩) l.length l.length) l := by
  have := World.ownsRow_lit (base := base) (e := 5) (size := 1) w (bv l).toArray l.length hb hl (by simp [bv])
  simpa [OwnB] using this
end

theorem below_app {w0 w w' : World} {B base : Nat} {v : Value} {l : List UInt8} (hl : Below B w0 w) (ho : OwnB w base v l) (hg : w.grownBy w' v.ownBlock) (hB : B ≤ base) (hs : B ≤ w.heap.size) : Below B w0 w' :=
  hl.grown hg hs fun k hk => Nat.le_trans hB (World.ownsRow.lt ho k hk).1
theorem info8 : (Try.prog.info? 5).map (fun i => (i.zero, i.size, i.bytes)) = some (some (.int .u8 0), 1, 1) := by kernel_rfl

section
variable {w : World}
/-- append(s, x...) of bytes onto a row of the call's own -/
theorem wpList_app {ops : Array Oper} {rest : List Oper} {o : Oper} {a : Act} {Q : Exit → Act → World → Prop} (hgd : o.guard = none) (s x : Operand)
    (ho : o.op = .call { callee := .builtin .append, args := #[s, x], argTypes := #[27, 27] })
    (base : Nat) (v : Value) (l : List UInt8) (hs : a.eval s = v) (hown : OwnB w base v l)
    (B : Nat) (A : Option Addr) (c : Nat) (l2 : List UInt8) (m : Nat) (hm : m = l2.length) (hx : a.eval x = .slice A m c) (hr : Reads w B 1 A m (bv l2))
    (hlen : l.length + m ≤ 140737488355328) (hbase : base ≤ w.heap.size)
    (h : ∀ v' w', OwnB w' base v' (l ++ l2) → w.grownBy w' v.ownBlock → (v'.ownBlock = v.ownBlock ∨ v'.ownBlock = some w.heap.size) → wpList Try.prog ops Q rest (a.put o.dst v') w') : wpList Try.prog ops Q (o :: rest) a w := by
  subst hm
  obtain ⟨i0, hi0, hz0, hz1, hz2⟩ := info_parts info8
  refine wpList_append_any w hgd s x 27 ho base 5 i0 _ 1 1 Try.underlying27 hi0 hz0 hz1 hz2 rfl (by decide) v l.length (bv l) hs hown B A l2.length c (bv l2) hx hr (bv_one l2) (by unfold maxLen; omega) (by omega) hbase ?_
  intro v' w' h1 h2 h3
  exact h v' w' (by unfold OwnB; rw [List.length_append, bv_append]; exact h1) h2 h3
/-- a literal's bytes, as they lie in the newest block -/
theorem reads_new (w : World) (t : TypeId) (cs : Array Value) (l : List UInt8) (h : cs = (bv l).toArray) : Reads (w.alloc (.cells cs t)) (w.heap.size + 1) 1 (some ⟨w.heap.size, 0, none⟩) l.length (bv l) := by
  subst h
  refine ⟨by simp [bv], fun _ => ⟨_, rfl, by simp, fun j u hu => ?_⟩⟩
  have hadd : (⟨w.heap.size, 0, none⟩ : Addr).add j = ⟨w.heap.size, j, none⟩ := by unfold Addr.add; split <;> simp_all
  rw [hadd, World.cell?_alloc_mark w _ t (0, 0) j]
  simpa using hu
end

end Go.Proofs.Ytgkhdpplmdkkaaa
