/- append onto a row that a text was turned into: it bears a mark behind its last cell. -/
import Derived.Test.YtoankokkdmbjmaaDoorJb
namespace Go.Proofs.YtoankokkdmbjmaaDoor
open Go.RowKit Go.Lib

/-- the value v is a row of the call's own, marked behind its last cell or not, that holds the bytes l -/
def OwnM (w : World) (base : Nat) (v : Value) (l : List UInt8) : Prop :=
  ∃ g cap cur fz, v = .slice (some ⟨g, 0, none⟩) l.length cap ∧ base ≤ g ∧ w.heap[g]? = some (.cells cur 5 fz) ∧ (fz.2 = 0 ∨ cap ≤ fz.1) ∧ l.length ≤ cap ∧ cap ≤ maxLen ∧ cur.size = cap ∧ cur.toList.take l.length = bv l

theorem run_storeCells_atM (P : Program) (g o : Nat) (t : TypeId) (fz : Nat × Nat) : ∀ (vs : List Value) (i : Nat) (cur : Array Value) (w : World), w.heap[g]? = some (.cells cur t fz) → (fz.2 = 0 ∨ cur.size ≤ fz.1) → o + i + vs.length ≤ cur.size → (∀ v ∈ vs, v.oneCell' = true) →
    (storeCells ⟨g, o, none⟩ vs i).run P w = .ok () (w.setRow g (cur.toList.take (o + i) ++ vs ++ cur.toList.drop (o + i + vs.length)).toArray)
  | [], i, cur, w, hg, _, _, _ => by
    simp only [storeCells, List.append_nil, List.length_nil, Nat.add_zero, List.take_append_drop, Array.toArray_toList]
    rw [setRow_self w g cur t fz hg]
    rfl
  | v :: rest, i, cur, w, hg, hfz, hl, h1 => by
    have hi : o + i < cur.size := by simp at hl; omega
    have hadd : (⟨g, o, none⟩ : Addr).add i = ⟨g, o + i, none⟩ := by unfold Addr.add; split <;> simp_all
    have hcell : w.cell? ⟨g, o + i, none⟩ = some cur[o + i] := by simp [World.cell?, hg, hi]
    have hfro : w.frozen? ⟨g, o + i, none⟩ = false := by
      obtain ⟨lo, hi'⟩ := fz
      simp only at hfz
      simp only [World.frozen?, hg, Bool.and_eq_false_iff, decide_eq_false_iff_not]
      omega
    have hst : (store ((⟨g, o, none⟩ : Addr).add i) v).run P w = .ok () (w.setRow g (cur.setIfInBounds (o + i) v)) := by
      rw [hadd, run_store P w _ v _ (h1 v (by simp)), hcell]
      simp [hfro, setCell_eq_setRow w g (o + i) cur t fz v hg]
    have ih := run_storeCells_atM P g o t fz rest (i + 1) (cur.setIfInBounds (o + i) v) (w.setRow g (cur.setIfInBounds (o + i) v)) (setRow_heap w g cur _ t _ hg) (by simpa using hfz) (by simp at hl ⊢; omega) (fun x hx => h1 x (by simp [hx]))
    simp only [storeCells, Sem.run_bind, hst, Result.andThen_ok, ih, setRow_setRow]
    congr 3
    have e := list_seg_step cur.toList (o + i) v rest (by simp at hl ⊢; omega)
    simpa [Array.toList_setIfInBounds, Nat.add_assoc] using e

section
variable {w w' : World} {base : Nat} {v : Value} {l l2 : List UInt8}
theorem OwnM.lt (h : OwnM w base v l) : ∀ k, v.ownBlock = some k → base ≤ k ∧ k < w.heap.size := by
  rintro k hk
  obtain ⟨g, cap, cur, fz, rfl, hb, hg, _⟩ := h
  have : g = k := by simpa [Value.ownBlock] using hk
  subst this
  exact ⟨hb, (Array.getElem?_eq_some_iff.1 hg).1⟩
theorem OwnM.alloc (h : OwnM w base v l) (o : Obj) : OwnM (w.alloc o) base v l := by
  obtain ⟨g, cap, cur, fz, hv, hb, hg, r⟩ := h
  exact ⟨g, cap, cur, fz, hv, hb, (Below.heap_alloc w o g (Array.getElem?_eq_some_iff.1 hg).1).trans hg, r⟩
theorem OwnM.form (h : OwnM w base v l) : ∃ g cap, v = .slice (some ⟨g, 0, none⟩) l.length cap := by
  obtain ⟨g, cap, cur, fz, hv, _⟩ := h
  exact ⟨g, cap, hv⟩
theorem OwnM.cells (h : OwnM w base v l) {g : Nat} (hg : v.ownBlock = some g) : ∀ j u, (bv l)[j]? = some u → w.cell? ((⟨g, 0, none⟩ : Addr).add j) = some u := by
  intro j u hu
  obtain ⟨g', cap, cur, fz, rfl, hb, hgg, _, _, _, _, htake⟩ := h
  have : g' = g := by simpa [Value.ownBlock] using hg
  subst this
  have hadd : (⟨g', 0, none⟩ : Addr).add j = ⟨g', j, none⟩ := by unfold Addr.add; split <;> simp_all
  rw [hadd, cell_of_row w g' j cur _ fz hgg]
  rw [← htake, List.getElem?_take] at hu
  split at hu
  · simpa using hu
  · cases hu
theorem OwnM.bw (w : World) (l : List UInt8) (hl : l.length ≤ 1099511627776) : OwnM (bw w l) w.heap.size (.slice (some ⟨w.heap.size, 0, none⟩) l.length (bcap w l)) l := by
  have hc := bcap_le w l
  have hs : (bytesRow ⟨l.toArray⟩ (bcap w l)).size = bcap w l := by
    unfold bytesRow; rw [size_mk]; simp; omega
  refine ⟨w.heap.size, bcap w l, _, _, rfl, Nat.le_refl _, heap_alloc_new w.drew _, .inr ?_, hc, ?_, hs, ?_⟩
  · show _ ≤ (bytesRow ⟨l.toArray⟩ (bcap w l)).size
    rw [hs]; exact Nat.le_refl _
  · have := grownCap_le_maxLen w (ByteArray.mk l.toArray).size 0 5 (by rw [size_mk]; unfold maxLen; omega)
    unfold bcap; exact this
  · unfold bytesRow
    rw [Array.toList_append, List.take_append_of_le_length (by simp), List.take_of_length_le (by simp)]
    simp [bv]
    intro a _; rfl
set_option maxRecDepth 100000 in
theorem OwnM.string (h : OwnM w base v l) : (convert 36 9 v).run Tryd.prog w = .ok (.string ⟨l.toArray⟩) w := by
  obtain ⟨g, cap, rfl⟩ := h.form
  exact run_convert_bytes_back w _ _ 5 ⟨g, 0, none⟩ cap l (by kernel_rfl) (by kernel_rfl) (by kernel_rfl) fun j hj => h.cells (g := g) rfl j _ (by rw [bv_at, List.getElem?_eq_getElem hj]; rfl)

/-- what the growing arm leaves -/
theorem OwnM.grown (base : Nat) (hbase : base ≤ w.heap.size) (c : Nat) (hc : (l ++ l2).length ≤ c) (hm : c ≤ maxLen) (cs : Array Value) (hcs : cs.size = c) (ht : cs.toList.take (l ++ l2).length = bv (l ++ l2)) :
    OwnM (w.drew.alloc (.cells cs 5)) base (.slice (some ⟨w.heap.size, 0, none⟩) (l ++ l2).length c) (l ++ l2) :=
  ⟨w.heap.size, c, cs, (0, 0), rfl, hbase, heap_alloc_new w.drew _, .inl rfl, hc, hm, hcs, ht⟩

theorem run_appM (hown : OwnM w base v l) (ty : TypeId) (ad : Addr) (c : Nat) (hnews : ∀ j u, (bv l2)[j]? = some u → w.cell? (ad.add j) = some u)
    (hlen : l.length + l2.length ≤ 140737488355328) (hbase : base ≤ w.heap.size) :
    ∃ v' w', (Builtin.append_ #[36, 36] ty #[v, .slice (some ad) l2.length c]).run Tryd.prog w = .ok v' w' ∧ OwnM w' base v' (l ++ l2) ∧ w.grownBy w' v.ownBlock := by
  obtain ⟨i0, hi0, hz0, hz1, hz2⟩ := info_parts info8
  have hm := hown
  obtain ⟨g, cap, cur, fz, rfl, hbg, hg, hfz, hnc, hcm, hcs, htake⟩ := hown
  have hl : (bv l2).length = l2.length * i0.size := by rw [bv_length, hz1, Nat.mul_one]
  have hla : (l ++ l2).length = l.length + l2.length := List.length_append
  by_cases hroom : l.length + l2.length ≤ cap
  · have hf := run_firstCells_some (P := Tryd.prog) w 1 l2.length ad l2.length c (bv l2) (by rw [bv_length, Nat.mul_one]) hnews
    have hst := run_storeCells_atM Tryd.prog g l.length 5 fz (bv l2) 0 cur w hg (by rw [hcs]; exact hfz) (by rw [bv_length]; omega) (bv_one l2)
    simp only [Nat.add_zero, bv_length] at hst
    have hr : (Builtin.append_ #[36, 36] ty #[.slice (some ⟨g, 0, none⟩) l.length cap, .slice (some ad) l2.length c]).run Tryd.prog w =
        .ok (.slice (some ⟨g, 0, none⟩) (l.length + l2.length) cap) (w.setRow g (cur.toList.take l.length ++ bv l2 ++ cur.toList.drop (l.length + l2.length)).toArray) := by
      simp [Builtin.append_, run_underlying Tryd.underlying36, sizeOf, typeInfo, hi0, hz1, Builtin.lenOf, hroom, hf, Addr.add_lit, hst]
    refine ⟨_, _, hr, ⟨g, cap, _, fz, by rw [hla], hbg, setRow_heap w g cur _ _ _ hg, hfz, by rw [hla]; exact hroom, hcm, ?_, ?_⟩, ⟨rfl, rfl, rfl, by simp, fun k _ hk => setRow_other w g k _ (fun e => hk (by simp [Value.ownBlock, e]))⟩⟩
    · simp only [List.size_toArray, List.length_append, List.length_take, List.length_drop, Array.length_toList, bv_length]
      omega
    · rw [htake, bv_append]
      refine List.take_left' ?_
      rw [List.length_append, bv_length, bv_length, hla]
  · have holds := hm.cells (g := g) rfl
    have hr := run_append_grow (P := Tryd.prog) w 36 ty 5 i0 _ Tryd.underlying36 hi0 hz0 ⟨g, 0, none⟩ l.length cap (bv l) (by rw [bv_length, hz1, Nat.mul_one]) holds ad l2.length c (bv l2) hl hnews (by omega) (by omega) (by rw [hz2]; exact growslice_fits (by omega) (by omega))
    have hge := grownCap_ge w (l.length + l2.length) cap 5
    have hcm2 : grownCap w (l.length + l2.length) cap 5 ≤ maxLen := grownCap_le_maxLen w (l.length + l2.length) cap 5 (by unfold maxLen; omega)
    rw [← hla] at hr hge hcm2
    refine ⟨_, _, hr, OwnM.grown base hbase _ hge hcm2 _ ?_ ?_, ⟨rfl, rfl, rfl, by simp, fun k hk _ => heap_alloc_old w.drew _ hk⟩⟩
    · have hz3 : (Value.int IntKind.u8 0).cells.size = 1 := rfl
      simp only [Array.size_append, List.size_toArray, size_zeroCells, hz3, bv_length]
      omega
    · simp only [Array.toList_append, List.append_assoc]
      rw [← List.append_assoc, bv_append]
      refine List.take_left' ?_
      rw [List.length_append, bv_length, bv_length, hla]

theorem run_appM_str (hown : OwnM w base v l) (ty : TypeId) (hlen : l.length + l2.length ≤ 140737488355328) (hbase : base ≤ w.heap.size) :
    ∃ v' w', (Builtin.append_ #[36, 9] ty #[v, .string ⟨l2.toArray⟩]).run Tryd.prog w = .ok v' w' ∧ OwnM w' base v' (l ++ l2) ∧ w.grownBy w' v.ownBlock := by
  obtain ⟨i0, hi0, hz0, hz1, hz2⟩ := info_parts info8
  have hm := hown
  obtain ⟨g, cap, cur, fz, rfl, hbg, hg, hfz, hnc, hcm, hcs, htake⟩ := hown
  have hla : (l ++ l2).length = l.length + l2.length := List.length_append
  have hu : Tryd.prog.underlying 9 = some .string := by kernel_rfl
  by_cases hroom : l.length + l2.length ≤ cap
  · have hf := run_firstCells_string (P := Tryd.prog) w 1 ⟨l2.toArray⟩
    rw [strCells_bv, size_mk] at hf
    have hst := run_storeCells_atM Tryd.prog g l.length 5 fz (bv l2) 0 cur w hg (by rw [hcs]; exact hfz) (by rw [bv_length]; omega) (bv_one l2)
    simp only [Nat.add_zero, bv_length] at hst
    have hr : (Builtin.append_ #[36, 9] ty #[.slice (some ⟨g, 0, none⟩) l.length cap, .string ⟨l2.toArray⟩]).run Tryd.prog w =
        .ok (.slice (some ⟨g, 0, none⟩) (l.length + l2.length) cap) (w.setRow g (cur.toList.take l.length ++ bv l2 ++ cur.toList.drop (l.length + l2.length)).toArray) := by
      simp [Builtin.append_, run_underlying Tryd.underlying36, run_underlying hu, sizeOf, typeInfo, hi0, hz1, Builtin.lenOf, size_mk, hroom, hf, Addr.add_lit, hst]
    refine ⟨_, _, hr, ⟨g, cap, _, fz, by rw [hla], hbg, setRow_heap w g cur _ _ _ hg, hfz, by rw [hla]; exact hroom, hcm, ?_, ?_⟩, ⟨rfl, rfl, rfl, by simp, fun k _ hk => setRow_other w g k _ (fun e => hk (by simp [Value.ownBlock, e]))⟩⟩
    · simp only [List.size_toArray, List.length_append, List.length_take, List.length_drop, Array.length_toList, bv_length]
      omega
    · rw [htake, bv_append]
      refine List.take_left' ?_
      rw [List.length_append, bv_length, bv_length, hla]
  · have holds := hm.cells (g := g) rfl
    have hr := run_append_grow_string (P := Tryd.prog) w 36 9 ty 5 i0 _ Tryd.underlying36 hu hi0 hz0 ⟨g, 0, none⟩ l.length cap (bv l) (by rw [bv_length, hz1, Nat.mul_one]) holds ⟨l2.toArray⟩ (by rw [size_mk]; omega) (by rw [size_mk]; omega) (by rw [hz2, size_mk]; exact growslice_fits (by omega) (by omega))
    rw [size_mk, strCells_bv] at hr
    have hge := grownCap_ge w (l.length + l2.length) cap 5
    have hcm2 : grownCap w (l.length + l2.length) cap 5 ≤ maxLen := grownCap_le_maxLen w (l.length + l2.length) cap 5 (by unfold maxLen; omega)
    rw [← hla] at hr hge hcm2
    refine ⟨_, _, hr, OwnM.grown base hbase _ hge hcm2 _ ?_ ?_, ⟨rfl, rfl, rfl, by simp, fun k hk _ => heap_alloc_old w.drew _ hk⟩⟩
    · have hz3 : (Value.int IntKind.u8 0).cells.size = 1 := rfl
      simp only [Array.size_append, List.size_toArray, size_zeroCells, hz3, bv_length]
      omega
    · simp only [Array.toList_append, List.append_assoc]
      rw [← List.append_assoc, bv_append]
      refine List.take_left' ?_
      rw [List.length_append, bv_length, bv_length, hla]

theorem wpList_appM {ops : Array Oper} {rest : List Oper} {o : Oper} {a : Act} {Q : Exit → Act → World → Prop} (hgd : o.guard = none) (s x : Operand)
    (ho : o.op = .call { callee := .builtin .append, args := #[s, x], argTypes := #[36, 36] })
    (base : Nat) (v : Value) (l : List UInt8) (hs : a.eval s = v) (hown : OwnM w base v l) (l2 : List UInt8) (m : Nat) (hm : m = l2.length) (ad : Addr) (c : Nat) (hx : a.eval x = .slice (some ad) m c) (hnews : ∀ j u, (bv l2)[j]? = some u → w.cell? (ad.add j) = some u)
    (hlen : l.length + l2.length ≤ 140737488355328) (hbase : base ≤ w.heap.size)
    (h : ∀ v' w', OwnM w' base v' (l ++ l2) → w.grownBy w' v.ownBlock → wpList Tryd.prog ops Q rest (a.put o.dst v') w') : wpList Tryd.prog ops Q (o :: rest) a w := by
  subst hm
  refine wpList_plain hgd fun K hK => ?_
  obtain ⟨v', w', hr, h2, h3⟩ := run_appM hown o.type ad c hnews hlen hbase
  unfold Oper.wp execOp
  simp only [ho, resolve, invoke, builtin, Sem.run_bind, Sem.run_pure, Result.andThen_ok, List.map_toArray, List.map_cons, List.map_nil, hs, hx, hr]
  exact hK _ _ (h v' w' h2 h3)
theorem wpList_appM_str {ops : Array Oper} {rest : List Oper} {o : Oper} {a : Act} {Q : Exit → Act → World → Prop} (hgd : o.guard = none) (s x : Operand)
    (ho : o.op = .call { callee := .builtin .append, args := #[s, x], argTypes := #[36, 9] })
    (base : Nat) (v : Value) (l : List UInt8) (hs : a.eval s = v) (hown : OwnM w base v l) (l2 : List UInt8) (hx : a.eval x = .string ⟨l2.toArray⟩)
    (hlen : l.length + l2.length ≤ 140737488355328) (hbase : base ≤ w.heap.size)
    (h : ∀ v' w', OwnM w' base v' (l ++ l2) → w.grownBy w' v.ownBlock → wpList Tryd.prog ops Q rest (a.put o.dst v') w') : wpList Tryd.prog ops Q (o :: rest) a w := by
  refine wpList_plain hgd fun K hK => ?_
  obtain ⟨v', w', hr, h2, h3⟩ := run_appM_str hown o.type hlen hbase
  unfold Oper.wp execOp
  simp only [ho, resolve, invoke, builtin, Sem.run_bind, Sem.run_pure, Result.andThen_ok, List.map_toArray, List.map_cons, List.map_nil, hs, hx, hr]
  exact hK _ _ (h v' w' h2 h3)
theorem below_appM {w0 : World} {B : Nat} (hl : Below B w0 w) (ho : OwnM w base v l) (hg : w.grownBy w' v.ownBlock) (hB : B ≤ base) (hs : B ≤ w.heap.size) : Below B w0 w' :=
  hl.grown hg hs fun k hk => Nat.le_trans hB (ho.lt k hk).1
end

end Go.Proofs.YtoankokkdmbjmaaDoor
