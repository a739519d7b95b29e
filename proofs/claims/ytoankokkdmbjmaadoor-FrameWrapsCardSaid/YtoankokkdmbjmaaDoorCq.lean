/- The walk of cipher's quarter on a state in memory. -/
import Derived.Test.YtoankokkdmbjmaaDoorCw
import Derived.Test.YtoankokkdmbjmaaDoorJa
import Derived.Deep.RegionHeld3
namespace Go.Proofs.YtoankokkdmbjmaaDoor
open Go.RowKit Go.Lib

theorem Only.alloc {g : Nat} {a w : World} (h : Only g a w) (o : Obj) : Only g a (w.alloc o) :=
  ⟨h.os, h.tape, h.output, by have := h.size; simp; omega, fun k hk hg => (Below.heap_alloc w o k (Nat.lt_of_lt_of_le hk h.size)).trans (h.block k hk hg)⟩
theorem Only.low {g : Nat} {a w w' : World} (h : Only g a w) (hl : Below w.heap.size w w') : Only g a w' :=
  ⟨hl.os.trans h.os, hl.tape.trans h.tape, hl.output.trans h.output, Nat.le_trans h.size hl.size, fun k hk hg => (hl.block k (Nat.lt_of_lt_of_le hk h.size)).trans (h.block k hk hg)⟩

theorem Only.high {g g2 : Nat} {a w : World} (h : Only g a w) (hg : a.heap.size ≤ g2) (o : Nat) (u : Value) : Only g a (w.setCell ⟨g2, o, none⟩ u) :=
  ⟨h.os, h.tape, h.output, by have := h.size; simp [World.setCell]; omega, fun k hk hkg => (Below.heap_setCell w ⟨g2, o, none⟩ u k (by show k ≠ g2; omega)).trans (h.block k hk hkg)⟩

theorem cell_ne {zz g : Nat} (h : zz ≠ g) {w : World} {o o2 : Nat} {u : Value} : (w.setCell ⟨g, o, none⟩ u).cell? ⟨zz, o2, none⟩ = w.cell? ⟨zz, o2, none⟩ :=
  World.cell?_setCell_other w ⟨g, o, none⟩ ⟨zz, o2, none⟩ u (by intro he; injection he with h1; exact h h1.symm)
theorem cell_drew {w : World} {p : Addr} : w.drew.cell? p = w.cell? p := rfl
theorem abs_q {F : Exit → Act → World → Prop} {e : Exit} {a : Act} {w : World} (h : ∀ w1, w1 = w → F e a w1) : F e a w := h w rfl
theorem S4 {w : World} {g : Nat} {t : TypeId} {s : Nat → UInt32} {i j k l : Nat} (h : Blk w g t (lit16 s)) (hi : i < 16) (hj : j < 16) (hk : k < 16) (hl : l < 16) :
    w.cell? ⟨g, i, none⟩ = some (.int .u32 (I32 (s i))) ∧ w.cell? ⟨g, j, none⟩ = some (.int .u32 (I32 (s j))) ∧ w.cell? ⟨g, k, none⟩ = some (.int .u32 (I32 (s k))) ∧ w.cell? ⟨g, l, none⟩ = some (.int .u32 (I32 (s l))) :=
  ⟨(h.cell i).trans (lit16_at s i hi), (h.cell j).trans (lit16_at s j hj), (h.cell k).trans (lit16_at s k hk), (h.cell l).trans (lit16_at s l hl)⟩

set_option maxRecDepth 100000 in
set_option maxHeartbeats 4000000 in
theorem qat_any (g : Nat) (s : Nat → UInt32) (i j k l : Nat) (w : World) (hb : Blk w g 144 (lit16 s)) (hi : i < 16) (hj : j < 16) (hk : k < 16) (hl : l < 16)
    (hij : i ≠ j) (hik : i ≠ k) (hil : i ≠ l) (hjk : j ≠ k) (hjl : j ≠ l) (hkl : k ≠ l) :
    Calls Tryd.prog 139 #[.pointer (some ⟨g, 0, none⟩), .int .i64 i, .int .i64 j, .int .i64 k, .int .i64 l] w fun e w' => e = .returned (.tuple #[]) ∧ Blk w' g 144 (lit16 (qat s i j k l)) ∧ Only g w w' := by
  have hlt := hb.lt
  have c0 := (hb.cell i).trans (lit16_at s i hi)
  have c1 := (hb.cell j).trans (lit16_at s j hj)
  have c2 := (hb.cell k).trans (lit16_at s k hk)
  have c3 := (hb.cell l).trans (lit16_at s l hl)
  have Hb := Lib.hid hb
  clear hb
  have hji := Ne.symm hij
  have hki := Ne.symm hik
  have hli := Ne.symm hil
  have hkj := Ne.symm hjk
  have hlj := Ne.symm hjl
  have hlk := Ne.symm hkl
  have hi' : (i : Int) < 16 := by omega
  have hj' : (j : Int) < 16 := by omega
  have hk' : (k : Int) < 16 := by omega
  have hl' : (l : Int) < 16 := by omega
  go_enter Tryd.func139, Tryd.ntmps139
  go_wp2_with fail
  have hZ := Blk.new w 172 #[.int .u32 0, .int .u32 0, .int .u32 0, .int .u32 0]
  have ha := Hb.out.alloc (.cells #[.int .u32 0, .int .u32 0, .int .u32 0, .int .u32 0] 172)
  have a0 := (ha.cell i).trans (lit16_at s i hi)
  have a1 := (ha.cell j).trans (lit16_at s j hj)
  have a2 := (ha.cell k).trans (lit16_at s k hk)
  have a3 := (ha.cell l).trans (lit16_at s l hl)
  have HZ := Lib.hid hZ
  have hgw : g ≠ w.heap.size := by omega
  clear hZ ha
  go_region_held3 (fun w' => w'.cell? ⟨g, i, none⟩ = some (.int .u32 (I32 (s i))) ∧ w'.cell? ⟨g, j, none⟩ = some (.int .u32 (I32 (s j))) ∧ w'.cell? ⟨g, k, none⟩ = some (.int .u32 (I32 (s k))) ∧ w'.cell? ⟨g, l, none⟩ = some (.int .u32 (I32 (s l))))
    (first | with_reducible exact S4 Hb.out hi hj hk hl | with_reducible exact S4 Hb.out.drew hi hj hk hl | with_reducible exact S4 (Hb.out.alloc _) hi hj hk hl | with_reducible exact S4 (Hb.out.alloc _).drew hi hj hk hl | with_reducible exact S4 Hb1.out hi hj hk hl | with_reducible exact S4 (Hb1.out.alloc _) hi hj hk hl | with_reducible exact S4 ((((Hb1.out.far (p := ⟨w.heap.size, 0, none⟩) hgw _).far (p := ⟨w.heap.size, 1, none⟩) hgw _).far (p := ⟨w.heap.size, 2, none⟩) hgw _).far (p := ⟨w.heap.size, 3, none⟩) hgw _) hi hj hk hl | fail)
    (first | (go_at_call 150; refine (quarter_any ⟨s i, s j, s k, s l⟩ _).mono ?_; rintro e1 w1 ⟨rfl, hl1⟩; unfold agg4; have hb1 : Blk w1 g 144 (lit16 s) := (by first | exact (Hb.out.drewN 1).below hl1 hlt | exact ((Hb.out.alloc _).drewN 1).below hl1 (by simp; omega)); have hO1 : Only g w w1 := (by first | exact ((Only.refl g w).drewN 1).low hl1 | exact (((Only.refl g w).alloc _).drewN 1).low hl1); (try (have hz1 : Blk w1 w.heap.size 172 #[.int .u32 0, .int .u32 0, .int .u32 0, .int .u32 0] := (HZ.out.drewN 1).below hl1 (by simp); have z0 := hz1.cell 0; have z1 := hz1.cell 1; have z2 := hz1.cell 2; have z3 := hz1.cell 3; have y0 := hz1.frozen 0; have y1 := hz1.frozen 1; have y2 := hz1.frozen 2; have y3 := hz1.frozen 3; simp only [List.getElem?_toArray, List.getElem?_cons_zero, List.getElem?_cons_succ] at z0 z1 z2 z3; have Hz1 := Lib.hid hz1; clear hz1)); have d0 := (hb1.cell i).trans (lit16_at s i hi); have d1 := (hb1.cell j).trans (lit16_at s j hj); have d2 := (hb1.cell k).trans (lit16_at s k hk); have d3 := (hb1.cell l).trans (lit16_at s l hl); have Hb1 := Lib.hid hb1; have HO1 := Lib.hid hO1; clear hl1 hb1 hO1))
  · refine abs_then ?_
    intro w2 hw2
    obtain ⟨q, hq⟩ : ∃ q, q = qr ⟨s i, s j, s k, s l⟩ := ⟨_, rfl⟩
    rw [← hq] at hw2
    have hb2 : Blk w2 g 144 (lit16 s) := by
      rw [hw2]; exact Hb1.out.alloc _
    have hO2 : Only g w w2 := by
      rw [hw2]; exact HO1.out.alloc _
    have hz2 : Blk w2 w1.heap.size 172 (q4Arr q) := by
      rw [hw2]; exact Blk.new _ _ _
    have hzg : w1.heap.size ≠ g := by have := Hb1.out.lt; omega
    clear hw2
    obtain ⟨zz, hzz⟩ : ∃ zz, zz = w1.heap.size := ⟨_, rfl⟩
    rw [← hzz] at hz2 hzg ⊢
    have Hq := Lib.hid hq
    clear hq hzz a0 a1 a2 a3 c0 c1 c2 c3 d0 d1 d2 d3 
    have z0 := hz2.cell 0
    have z1 := hz2.cell 1
    have z2 := hz2.cell 2
    have z3 := hz2.cell 3
    simp only [q4Arr, List.getElem?_toArray, List.getElem?_cons_zero, List.getElem?_cons_succ] at z0 z1 z2 z3
    have c0 := (hb2.cell i).trans (lit16_at s i hi)
    have c1 := (hb2.cell j).trans (lit16_at s j hj)
    have c2 := (hb2.cell k).trans (lit16_at s k hk)
    have c3 := (hb2.cell l).trans (lit16_at s l hl)
    have f0 := hb2.frozen i
    have f1 := hb2.frozen j
    have f2 := hb2.frozen k
    have f3 := hb2.frozen l
    have Hb2 := Lib.hid hb2
    have HO2 := Lib.hid hO2
    clear hb2 hO2 hz2
    go_wp2_with fail
    go_region_held3 (fun w' => w'.cell? ⟨zz, 0, none⟩ = some (.int .u32 (I32 q.a)) ∧ w'.cell? ⟨zz, 1, none⟩ = some (.int .u32 (I32 q.b)) ∧ w'.cell? ⟨zz, 2, none⟩ = some (.int .u32 (I32 q.c)) ∧ w'.cell? ⟨zz, 3, none⟩ = some (.int .u32 (I32 q.d)))
      (first | exact ⟨z0, z1, z2, z3⟩ | (refine ⟨?_, ?_, ?_, ?_⟩ <;> (simp only [cell_drew, cell_ne hzg]; first | exact z0 | exact z1 | exact z2 | exact z3)) | fail) (fail)
    refine abs_q ?_
    intro w3 hw3
    have hb3 : Blk w3 g 144 (lit16 (qat s i j k l)) := by
      rw [hw3]
      have := ((((Hb2.out.set_ i (.int .u32 (I32 q.a))).set_ j (.int .u32 (I32 q.b))).set_ k (.int .u32 (I32 q.c))).set_ l (.int .u32 (I32 q.d))).drewN 1
      rw [lit16_set, lit16_set, lit16_set, lit16_set, Hq.out] at this
      rw [Hq.out]
      exact this
    have hO3 : Only g w w3 := by
      rw [hw3]; exact ((((HO2.out.set_ i _).set_ j _).set_ k _).set_ l _).drewN 1
    clear hw3
    have Hb3 := Lib.hid hb3
    have HO3 := Lib.hid hO3
    clear hb3 hO3 z0 z1 z2 z3 c0 c1 c2 c3 f0 f1 f2 f3
    go_wp2
    go_end0
    exact ⟨rfl, Hb3.out, HO3.out⟩
  · refine abs_then ?_
    intro w2 hw2
    obtain ⟨q, hq⟩ : ∃ q, q = qr ⟨s i, s j, s k, s l⟩ := ⟨_, rfl⟩
    rw [← hq] at hw2
    have hb2 : Blk w2 g 144 (lit16 s) := by
      rw [hw2]; exact ((((Hb1.out.far (p := ⟨w.heap.size, 0, none⟩) hgw _).far (p := ⟨w.heap.size, 1, none⟩) hgw _).far (p := ⟨w.heap.size, 2, none⟩) hgw _).far (p := ⟨w.heap.size, 3, none⟩) hgw _)
    have hO2 : Only g w w2 := by
      rw [hw2]; exact (((((HO1.out.high (Nat.le_refl _) 0 _).high (Nat.le_refl _) 1 _).high (Nat.le_refl _) 2 _).high (Nat.le_refl _) 3 _))
    have hz2 : Blk w2 w.heap.size 172 (q4Arr q) := by
      rw [hw2]; exact (((Hz1.out.set_ 0 _).set_ 1 _).set_ 2 _).set_ 3 _
    have hzg : w.heap.size ≠ g := by exact Ne.symm hgw
    clear hw2
    obtain ⟨zz, hzz⟩ : ∃ zz, zz = w.heap.size := ⟨_, rfl⟩
    rw [← hzz] at hz2 hzg ⊢
    have Hq := Lib.hid hq
    clear hq hzz a0 a1 a2 a3 c0 c1 c2 c3 d0 d1 d2 d3 z0 z1 z2 z3 y0 y1 y2 y3
    have z0 := hz2.cell 0
    have z1 := hz2.cell 1
    have z2 := hz2.cell 2
    have z3 := hz2.cell 3
    simp only [q4Arr, List.getElem?_toArray, List.getElem?_cons_zero, List.getElem?_cons_succ] at z0 z1 z2 z3
    have c0 := (hb2.cell i).trans (lit16_at s i hi)
    have c1 := (hb2.cell j).trans (lit16_at s j hj)
    have c2 := (hb2.cell k).trans (lit16_at s k hk)
    have c3 := (hb2.cell l).trans (lit16_at s l hl)
    have f0 := hb2.frozen i
    have f1 := hb2.frozen j
    have f2 := hb2.frozen k
    have f3 := hb2.frozen l
    have Hb2 := Lib.hid hb2
    have HO2 := Lib.hid hO2
    clear hb2 hO2 hz2
    go_wp2_with fail
    go_region_held3 (fun w' => w'.cell? ⟨zz, 0, none⟩ = some (.int .u32 (I32 q.a)) ∧ w'.cell? ⟨zz, 1, none⟩ = some (.int .u32 (I32 q.b)) ∧ w'.cell? ⟨zz, 2, none⟩ = some (.int .u32 (I32 q.c)) ∧ w'.cell? ⟨zz, 3, none⟩ = some (.int .u32 (I32 q.d)))
      (first | exact ⟨z0, z1, z2, z3⟩ | (refine ⟨?_, ?_, ?_, ?_⟩ <;> (simp only [cell_drew, cell_ne hzg]; first | exact z0 | exact z1 | exact z2 | exact z3)) | fail) (fail)
    refine abs_q ?_
    intro w3 hw3
    have hb3 : Blk w3 g 144 (lit16 (qat s i j k l)) := by
      rw [hw3]
      have := ((((Hb2.out.set_ i (.int .u32 (I32 q.a))).set_ j (.int .u32 (I32 q.b))).set_ k (.int .u32 (I32 q.c))).set_ l (.int .u32 (I32 q.d))).drewN 1
      rw [lit16_set, lit16_set, lit16_set, lit16_set, Hq.out] at this
      rw [Hq.out]
      exact this
    have hO3 : Only g w w3 := by
      rw [hw3]; exact ((((HO2.out.set_ i _).set_ j _).set_ k _).set_ l _).drewN 1
    clear hw3
    have Hb3 := Lib.hid hb3
    have HO3 := Lib.hid hO3
    clear hb3 hO3 z0 z1 z2 z3 c0 c1 c2 c3 f0 f1 f2 f3
    go_wp2
    go_end0
    exact ⟨rfl, Hb3.out, HO3.out⟩

end Go.Proofs.YtoankokkdmbjmaaDoor
