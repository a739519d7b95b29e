/- Strings told by their bytes: []byte(s), copy of a string, append of a string, the sum of two. -/
import Derived.Test.YtgkhdpplmdkkaaaBytes
import Derived.Laws.IdiomStrings
import Derived.Laws.Concat
import Derived.Lib.BufferWrite
namespace Go.Proofs.Ytgkhdpplmdkkaaa
open Go.RowKit Go.Lib

@[go_sem] theorem size_mk (l : List UInt8) : (ByteArray.mk l.toArray).size = l.length := by simp [ByteArray.size]

/-- the capacity that []byte(s) has, and the world behind it -/
def bcap (w : World) (l : List UInt8) : Nat := grownCap w (ByteArray.mk l.toArray).size 0 5
def bw (w : World) (l : List UInt8) : World :=
  w.drew.alloc (.cells (bytesRow ⟨l.toArray⟩ (bcap w l)) 5 ((bytesRow ⟨l.toArray⟩ (bcap w l)).size, (bytesRow ⟨l.toArray⟩ (bcap w l)).size + 1))
set_option maxRecDepth 100000 in
@[go_sem] theorem bw_conv (w : World) (l : List UInt8) : (convert 9 27 (.string ⟨l.toArray⟩)).run Try.prog w = .ok (.slice (some ⟨w.heap.size, 0, none⟩) l.length (bcap w l)) (bw w l) := by
  rw [run_bytes_of_string w _ _ 5 ⟨l.toArray⟩ (by kernel_rfl) (by kernel_rfl) (by kernel_rfl), size_mk]
  rfl
theorem bcap_le (w : World) (l : List UInt8) : l.length ≤ bcap w l := by
  have := grownCap_ge w (ByteArray.mk l.toArray).size 0 5
  rw [size_mk] at this
  unfold bcap
  rw [size_mk]
  exact this
theorem bw_size (w : World) (l : List UInt8) : (bw w l).heap.size = w.heap.size + 1 := by
  unfold bw; simp
theorem bw_below (w : World) (l : List UInt8) : Below w.heap.size w (bw w l) :=
  (below_drewN' (Below.refl _ _) 1).alloc (Nat.le_refl _) _
theorem bw_cell (w : World) (l : List UInt8) (j : Nat) (u : UInt8) (h : l[j]? = some u) : (bw w l).cell? ⟨w.heap.size, j, none⟩ = some (.int .u8 (I8 u)) := by
  have hh : (bw w l).heap[w.heap.size]? = some (.cells (bytesRow ⟨l.toArray⟩ (bcap w l)) 5 ((bytesRow ⟨l.toArray⟩ (bcap w l)).size, (bytesRow ⟨l.toArray⟩ (bcap w l)).size + 1)) := heap_alloc_new w.drew _
  rw [cell_of_row _ _ j _ _ _ hh]
  unfold bytesRow
  have hj : j < l.length := (List.getElem?_eq_some_iff.1 h).1
  rw [Array.getElem?_append_left (by simpa using hj)]
  simp [h]
  rfl
theorem bw_reads (w : World) (l : List UInt8) : Reads (bw w l) (w.heap.size + 1) 1 (some ⟨w.heap.size, 0, none⟩) l.length (bv l) := by
  refine ⟨by simp [bv], fun _ => ⟨_, rfl, by simp, fun j u hu => ?_⟩⟩
  have hadd : (⟨w.heap.size, 0, none⟩ : Addr).add j = ⟨w.heap.size, j, none⟩ := by unfold Addr.add; split <;> simp_all
  rw [hadd]
  rw [bv_at] at hu
  cases hl : l[j]? with
  | none => rw [hl] at hu; cases hu
  | some b => rw [hl] at hu; injection hu with hu; subst hu; exact bw_cell w l j b hl

theorem str_add (x y : List UInt8) (h : x.length + y.length ≤ 1099511627776) (w : World) : (Op.stringOp .add ⟨x.toArray⟩ ⟨y.toArray⟩).run Try.prog w = .ok (.string ⟨(x ++ y).toArray⟩) w := by
  have hr := run_string_add_sum (P := Try.prog) (w := w) ⟨x.toArray⟩ ⟨y.toArray⟩ (by rw [size_mk, size_mk]; omega)
  refine hr.trans ?_
  all_goals first | rfl | (congr 2; apply ByteArray.ext; simp)

/-- copy of a string that fits into a row of its own -/
theorem wpList_copy_str {w : World} {ops : Array Oper} {rest : List Oper} {o : Oper} {a : Act} {Q : Exit → Act → World → Prop} (hgd : o.guard = none) (d s : Operand)
    (ho : o.op = .call { callee := .builtin .copy, args := #[d, s], argTypes := #[27, 9] })
    (g dLen dCap : Nat) (l : List UInt8) (cur : Array Value) (t : TypeId) (hd : a.eval d = .slice (some ⟨g, 0, none⟩) dLen dCap) (hs : a.eval s = .string ⟨l.toArray⟩) (hg : Blk w g t cur) (hle : l.length ≤ dLen) (hfit : l.length ≤ cur.size)
    (h : wpList Try.prog ops Q rest (a.put o.dst (.int .i64 l.length)) (w.setRow g ((bv l) ++ cur.toList.drop l.length).toArray)) : wpList Try.prog ops Q (o :: rest) a w := by
  refine wpList_plain hgd fun K hK => ?_
  obtain ⟨i0, hi0, hz0, hz1, hz2⟩ := info_parts info8
  have hr := run_copy_row_string (P := Try.prog) w 27 9 o.type 5 g 0 dLen dCap ⟨l.toArray⟩ cur t Try.underlying27 (by rw [hi0]; simp [hz1]) hg (by rw [size_mk]; exact hle) (by rw [size_mk]; omega)
  unfold Oper.wp execOp
  simp only [ho, resolve, invoke, builtin, Sem.run_bind, Sem.run_pure, Result.andThen_ok, List.map_toArray, List.map_cons, List.map_nil, hd, hs, hr]
  refine hK _ _ ?_
  simpa [goInt, bv, byteCells, I8, Function.comp_def, size_mk] using h

theorem strCells_bv (l : List UInt8) : strCells ⟨l.toArray⟩ = bv l := by simp [strCells, bv, I8]
/-- append(b, s...), s a string, onto a row of the call's own -/
theorem wpList_app_str {w : World} {ops : Array Oper} {rest : List Oper} {o : Oper} {a : Act} {Q : Exit → Act → World → Prop} (hgd : o.guard = none) (s x : Operand)
    (ho : o.op = .call { callee := .builtin .append, args := #[s, x], argTypes := #[27, 9] })
    (base : Nat) (v : Value) (l : List UInt8) (hs : a.eval s = v) (hown : OwnB w base v l) (l2 : List UInt8) (hx : a.eval x = .string ⟨l2.toArray⟩)
    (hlen : l.length + l2.length ≤ 140737488355328) (hbase : base ≤ w.heap.size)
    (h : ∀ v' w', OwnB w' base v' (l ++ l2) → w.grownBy w' v.ownBlock → wpList Try.prog ops Q rest (a.put o.dst v') w') : wpList Try.prog ops Q (o :: rest) a w := by
  obtain ⟨i0, hi0, hz0, hz1, hz2⟩ := info_parts info8
  refine wpList_append_own_string w hgd s x 27 9 ho base 5 i0 Try.underlying27 (by kernel_rfl) hi0 hz0 hz1 hz2 v l.length (bv l) hs hown ⟨l2.toArray⟩ hx (by rw [size_mk]; unfold maxLen; omega) (by rw [size_mk]; omega) hbase ?_
  intro v' w' h1 h2 _
  rw [size_mk, strCells_bv] at h1
  exact h v' w' (by unfold OwnB; rw [List.length_append, bv_append]; exact h1) h2

end Go.Proofs.Ytgkhdpplmdkkaaa
