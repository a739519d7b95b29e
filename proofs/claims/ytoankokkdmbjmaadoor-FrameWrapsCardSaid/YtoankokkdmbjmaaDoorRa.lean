/- The walk of the reference's quarter round on four of sixteen words. -/
import Derived.Test.YtoankokkdmbjmaaDoorCr
import Derived.Laws.Tables
import Derived.Great.BuildSlice
namespace Go.Proofs.YtoankokkdmbjmaaDoor
open Go.RowKit Go.Lib

theorem Blk.set4 {w : World} {g : Nat} {t : TypeId} {s : Nat → UInt32} {i j k l : Nat} {q : Q4} (h : Blk w g t (lit16 s)) (hq : q = qr ⟨s i, s j, s k, s l⟩) :
    Blk ((((w.setCell ⟨g, i, none⟩ (.int .u32 (I32 q.a))).setCell ⟨g, j, none⟩ (.int .u32 (I32 q.b))).setCell ⟨g, k, none⟩ (.int .u32 (I32 q.c))).setCell ⟨g, l, none⟩ (.int .u32 (I32 q.d))) g t (lit16 (qat s i j k l)) := by
  have := (((h.set_ i (.int .u32 (I32 q.a))).set_ j (.int .u32 (I32 q.b))).set_ k (.int .u32 (I32 q.c))).set_ l (.int .u32 (I32 q.d))
  rw [lit16_set, lit16_set, lit16_set, lit16_set, hq] at this
  rw [hq]
  exact this
theorem Blk.far4 {w : World} {g g2 : Nat} {t : TypeId} {cs : Array Value} {i j k l : Nat} {a b c d : Value} (h : Blk w g t cs) (hg : g ≠ g2) :
    Blk ((((w.setCell ⟨g2, i, none⟩ a).setCell ⟨g2, j, none⟩ b).setCell ⟨g2, k, none⟩ c).setCell ⟨g2, l, none⟩ d) g t cs :=
  (((h.far (p := ⟨g2, i, none⟩) hg _).far (p := ⟨g2, j, none⟩) hg _).far (p := ⟨g2, k, none⟩) hg _).far (p := ⟨g2, l, none⟩) hg _
theorem below_set4 {B : Nat} {a w : World} (h : Below B a w) {g : Nat} (hg : B ≤ g) (i j k l : Nat) (p q r s : Value) : Below B a ((((w.setCell ⟨g, i, none⟩ p).setCell ⟨g, j, none⟩ q).setCell ⟨g, k, none⟩ r).setCell ⟨g, l, none⟩ s) :=
  below_set (below_set (below_set (below_set h hg _ _) hg _ _) hg _ _) hg _ _
theorem infoR : (Tryd.prog.info? 143).map (·.size) = some 16 := by kernel_rfl

theorem wpList_store_cell {P : Program} {ops : Array Oper} {rest : List Oper} {o : Oper} {a : Act} {w : World} {Q : Exit → Act → World → Prop} (hgd : o.guard = none) (ty : TypeId) (x y : Operand) (ho : o.op = .store ty x y)
    (g i : Nat) (v u : Value) (hx : a.eval x = .pointer (some ⟨g, i, none⟩)) (hy : a.eval y = v) (h1 : v.oneCell' = true) (hc : w.cell? ⟨g, i, none⟩ = some u) (hf : w.frozen? ⟨g, i, none⟩ = false) (hi : (P.info? ty).map (·.size) = some 1)
    (h : ∀ w1, w1 = w.setCell ⟨g, i, none⟩ v → wpList P ops Q rest (a.put o.dst undef) w1) : wpList P ops Q (o :: rest) a w :=
  wpList_plain hgd fun _ hK => by
    have hc1 : v.cells = #[v] := by cases v <;> first | rfl | cases h1
    have hst : (storeVar ty ⟨g, i, none⟩ v).run P w = .ok () (w.setCell ⟨g, i, none⟩ v) := by
      cases hq : P.info? ty with
      | none => simp [hq] at hi
      | some i0 =>
        have hs : i0.size = 1 := by simpa [hq] using hi
        have hadd : (⟨g, i, none⟩ : Addr).add 0 = ⟨g, i, none⟩ := rfl
        have hr : (store ⟨g, i, none⟩ v).run P w = .ok () (w.setCell ⟨g, i, none⟩ v) := by
          rw [run_store P w _ v _ h1, hc]; simp [hf]
        simp [storeVar, sizeOf, typeInfo, hq, hc1, hs, storeCells, hadd, hr]
    unfold Oper.wp execOp
    simp only [ho, hx, hy, Instr.storeAt, Instr.sureAddr, Sem.run_bind, Sem.run_pure, Result.andThen_ok, hst]
    exact hK _ _ (h _ rfl)
theorem info32 : (Tryd.prog.info? 63).map (·.size) = some 1 := by kernel_rfl

set_option maxRecDepth 100000 in
set_option maxHeartbeats 1500000 in
theorem at_any (s : Nat → UInt32) (i j k l : Nat) (w : World) (hi : i < 16) (hj : j < 16) (hk : k < 16) (hl : l < 16)
    (hij : i ≠ j) (hik : i ≠ k) (hil : i ≠ l) (hjk : j ≠ k) (hjl : j ≠ l) (hkl : k ≠ l) :
    Calls Tryd.prog 113 #[agg16 s, .int .i64 i, .int .i64 j, .int .i64 k, .int .i64 l] w fun e w' => e = .returned (agg16 (qat s i j k l)) ∧ Below w.heap.size w w' := by
  have hji := Ne.symm hij
  have hki := Ne.symm hik
  have hli := Ne.symm hil
  have hkj := Ne.symm hjk
  have hlj := Ne.symm hjl
  have hlk := Ne.symm hkl
  have hi' : (i : Int) < 16 := by omega
  have hj' : (j : Int) < 16 := by omega
  have hk' : (k : Int) < 16 := by omega
  have hl' : (l : Int) < 16 := by omega
  unfold agg16 lit16
  go_enter Tryd.func113, Tryd.ntmps113
  go_wp2_with fail
  refine abs_world ?_
  intro w1 hw1
  have hb : Blk w1 w.heap.size 143 (lit16 s) := by rw [hw1]; exact (Blk.new w _ _).alloc _
  have hr : Blk w1 (w.heap.size + 1) 143 (lit16 fun _ => 0) := by rw [hw1]; exact Blk.new_at _ _ _ _ _ (by simp) rfl
  have hl1 : Below w.heap.size w w1 := by rw [hw1]; exact ((Below.refl _ _).alloc (Nat.le_refl _) _).alloc (by simp) _
  have hsz : w1.heap.size = w.heap.size + 2 := by rw [hw1]; simp
  clear hw1
  obtain ⟨g, hg⟩ : ∃ g, g = w.heap.size := ⟨_, rfl⟩
  rw [← hg] at hb hr hsz ⊢
  have hgl : g < w1.heap.size := hb.lt
  have hZ := Blk.new w1 172 #[.int .u32 0, .int .u32 0, .int .u32 0, .int .u32 0]
  have ha := hb.alloc (.cells #[.int .u32 0, .int .u32 0, .int .u32 0, .int .u32 0] 172)
  have a0 := (ha.cell i).trans (lit16_at s i hi)
  have a1 := (ha.cell j).trans (lit16_at s j hj)
  have a2 := (ha.cell k).trans (lit16_at s k hk)
  have a3 := (ha.cell l).trans (lit16_at s l hl)
  have c0 := (hb.cell i).trans (lit16_at s i hi)
  have c1 := (hb.cell j).trans (lit16_at s j hj)
  have c2 := (hb.cell k).trans (lit16_at s k hk)
  have c3 := (hb.cell l).trans (lit16_at s l hl)
  have Hb := Lib.hid hb
  have Hr := Lib.hid hr
  have Hl1 := Lib.hid hl1
  have HZ := Lib.hid hZ
  have Hsz := Lib.hid hsz
  have Hg := Lib.hid hg
  have hgw : g ≠ w1.heap.size := by omega
  clear hZ ha hb hr hl1 hsz hg
  go_region_held3 (fun w' => w'.cell? ⟨g, i, none⟩ = some (.int .u32 (I32 (s i))) ∧ w'.cell? ⟨g, j, none⟩ = some (.int .u32 (I32 (s j))) ∧ w'.cell? ⟨g, k, none⟩ = some (.int .u32 (I32 (s k))) ∧ w'.cell? ⟨g, l, none⟩ = some (.int .u32 (I32 (s l))))
    (first | with_reducible exact S4 Hb.out hi hj hk hl | with_reducible exact S4 Hb.out.drew hi hj hk hl | with_reducible exact S4 (Hb.out.alloc _) hi hj hk hl | with_reducible exact S4 (Hb.out.alloc _).drew hi hj hk hl | with_reducible exact S4 Hb2.out hi hj hk hl | with_reducible exact S4 (Hb2.out.alloc _) hi hj hk hl | with_reducible exact S4 ((((Hb2.out.far (p := ⟨w1.heap.size, 0, none⟩) hgw _).far (p := ⟨w1.heap.size, 1, none⟩) hgw _).far (p := ⟨w1.heap.size, 2, none⟩) hgw _).far (p := ⟨w1.heap.size, 3, none⟩) hgw _) hi hj hk hl | with_reducible exact S4 (((((Hb2.out.alloc _).far (p := ⟨w2.heap.size, 0, none⟩) hgw2 _).far (p := ⟨w2.heap.size, 1, none⟩) hgw2 _).far (p := ⟨w2.heap.size, 2, none⟩) hgw2 _).far (p := ⟨w2.heap.size, 3, none⟩) hgw2 _) hi hj hk hl | fail)
    (first | (go_at_call 130; refine (rquarter_any ⟨s i, s j, s k, s l⟩ _).mono ?_; rintro e1 w2 ⟨rfl, hl2⟩; unfold agg4; have hb2 : Blk w2 g 143 (lit16 s) := (by first | exact (Hb.out.drewN 1).below hl2 hgl | exact ((Hb.out.alloc _).drewN 1).below hl2 (by simp; omega)); have hr2 : Blk w2 (g + 1) 143 (lit16 fun _ => 0) := (by first | exact (Hr.out.drewN 1).below hl2 Hr.out.lt | exact ((Hr.out.alloc _).drewN 1).below hl2 (by have := Hr.out.lt; simp; omega)); have hk2 : Below w.heap.size w w2 := (by first | exact (below_drewN' Hl1.out 1).trans (hl2.mono Hl1.out.size) | exact (below_drewN' (Hl1.out.alloc Hl1.out.size _) 1).trans (hl2.mono (by have := Hl1.out.size; simp; omega))); have hgw2 : g ≠ w2.heap.size := (by have := hb2.lt; omega); (try (have hz1 : Blk w2 w1.heap.size 172 #[.int .u32 0, .int .u32 0, .int .u32 0, .int .u32 0] := (HZ.out.drewN 1).below hl2 (by simp); have z0 := hz1.cell 0; have z1 := hz1.cell 1; have z2 := hz1.cell 2; have z3 := hz1.cell 3; have y0 := hz1.frozen 0; have y1 := hz1.frozen 1; have y2 := hz1.frozen 2; have y3 := hz1.frozen 3; simp only [List.getElem?_toArray, List.getElem?_cons_zero, List.getElem?_cons_succ] at z0 z1 z2 z3; have Hz1 := Lib.hid hz1; clear hz1)); have d0 := (hb2.cell i).trans (lit16_at s i hi); have d1 := (hb2.cell j).trans (lit16_at s j hj); have d2 := (hb2.cell k).trans (lit16_at s k hk); have d3 := (hb2.cell l).trans (lit16_at s l hl); have Hb2 := Lib.hid hb2; have Hr2 := Lib.hid hr2; have Hk2 := Lib.hid hk2; clear hl2 hb2 hr2 hk2))
  · refine abs_then ?_
    intro w3 hw3
    obtain ⟨q, hq⟩ : ∃ q, q = qr ⟨s i, s j, s k, s l⟩ := ⟨_, rfl⟩
    rw [← hq] at hw3
    have hb3 : Blk w3 g 143 (lit16 s) := by rw [hw3]; exact Hb2.out.alloc _
    have hr3 : Blk w3 (g + 1) 143 (lit16 fun _ => 0) := by rw [hw3]; exact Hr2.out.alloc _
    have hz3 : Blk w3 w2.heap.size 172 (q4Arr q) := by rw [hw3]; exact Blk.new _ _ _
    have hB3 : Below w.heap.size w w3 := by rw [hw3]; exact Hk2.out.alloc Hk2.out.size _
    have hzg : w2.heap.size ≠ g := Ne.symm hgw2
    clear hw3
    obtain ⟨zz, hzz⟩ : ∃ zz, zz = w2.heap.size := ⟨_, rfl⟩
    rw [← hzz] at hz3 hzg ⊢
    have Hq := Lib.hid hq
    clear hq hzz a0 a1 a2 a3 c0 c1 c2 c3 d0 d1 d2 d3 
    have hgz := Ne.symm hzg
    have z3 := hz3.cell 0
    simp only [q4Arr, List.getElem?_toArray, List.getElem?_cons_zero] at z3
    have hi16 : ∀ S : Nat → UInt32, (Tryd.prog.info? 143).map (·.size) = some (lit16 S).size := fun S => by rw [lit16_size]; exact infoR
    have Hi16 := Lib.hid hi16
    have Hb3 := Lib.hid hb3
    have Hr3 := Lib.hid hr3
    have HB3 := Lib.hid hB3
    have Hz3 := Lib.hid hz3
    clear hi16 hb3 hr3 hB3 hz3
    have hS : qat s i j k l = (upd (upd (upd (upd s i q.a) j q.b) k q.c) l q.d) := by rw [Hq.out]; rfl
    have HS := Lib.hid hS
    clear hS
    go_wp2_with (first
      | (refine wpList_store_cell rfl 63 (.tmp 29) (.tmp 28) rfl g i (.int .u32 (I32 q.a)) _ rfl rfl rfl ((Hb3.out.cell i).trans (lit16_at _ i hi)) (Hb3.out.frozen i) info32 ?_; intro w4 hw4; have hb4 : Blk w4 g 143 (lit16 (upd s i q.a)) := (by rw [hw4, ← lit16_set]; exact Hb3.out.set_ i _); have hr4 : Blk w4 (g + 1) 143 (lit16 fun _ => 0) := (by rw [hw4]; exact Hr3.out.far (by show g + 1 ≠ g; omega) _); have hz4 : Blk w4 zz 172 (q4Arr q) := (by rw [hw4]; exact Hz3.out.far hzg _); have hB4 : Below w.heap.size w w4 := (by rw [hw4]; exact below_set HB3.out (Nat.le_of_eq Hg.out.symm) _ _); have z4 := hz4.cell 1; simp only [q4Arr, List.getElem?_toArray, List.getElem?_cons_zero, List.getElem?_cons_succ] at z4; have Hb4 := Lib.hid hb4; have Hr4 := Lib.hid hr4; have Hz4 := Lib.hid hz4; have HB4 := Lib.hid hB4; clear hw4 hb4 hr4 hz4 hB4)
      | (refine wpList_store_cell rfl 63 (.tmp 33) (.tmp 32) rfl g j (.int .u32 (I32 q.b)) _ rfl rfl rfl ((Hb4.out.cell j).trans (lit16_at _ j hj)) (Hb4.out.frozen j) info32 ?_; intro w5 hw5; have hb5 : Blk w5 g 143 (lit16 (upd (upd s i q.a) j q.b)) := (by rw [hw5, ← lit16_set]; exact Hb4.out.set_ j _); have hr5 : Blk w5 (g + 1) 143 (lit16 fun _ => 0) := (by rw [hw5]; exact Hr4.out.far (by show g + 1 ≠ g; omega) _); have hz5 : Blk w5 zz 172 (q4Arr q) := (by rw [hw5]; exact Hz4.out.far hzg _); have hB5 : Below w.heap.size w w5 := (by rw [hw5]; exact below_set HB4.out (Nat.le_of_eq Hg.out.symm) _ _); have z5 := hz5.cell 2; simp only [q4Arr, List.getElem?_toArray, List.getElem?_cons_zero, List.getElem?_cons_succ] at z5; have Hb5 := Lib.hid hb5; have Hr5 := Lib.hid hr5; have Hz5 := Lib.hid hz5; have HB5 := Lib.hid hB5; clear hw5 hb5 hr5 hz5 hB5)
      | (refine wpList_store_cell rfl 63 (.tmp 37) (.tmp 36) rfl g k (.int .u32 (I32 q.c)) _ rfl rfl rfl ((Hb5.out.cell k).trans (lit16_at _ k hk)) (Hb5.out.frozen k) info32 ?_; intro w6 hw6; have hb6 : Blk w6 g 143 (lit16 (upd (upd (upd s i q.a) j q.b) k q.c)) := (by rw [hw6, ← lit16_set]; exact Hb5.out.set_ k _); have hr6 : Blk w6 (g + 1) 143 (lit16 fun _ => 0) := (by rw [hw6]; exact Hr5.out.far (by show g + 1 ≠ g; omega) _); have hz6 : Blk w6 zz 172 (q4Arr q) := (by rw [hw6]; exact Hz5.out.far hzg _); have hB6 : Below w.heap.size w w6 := (by rw [hw6]; exact below_set HB5.out (Nat.le_of_eq Hg.out.symm) _ _); have z6 := hz6.cell 3; simp only [q4Arr, List.getElem?_toArray, List.getElem?_cons_zero, List.getElem?_cons_succ] at z6; have Hb6 := Lib.hid hb6; have Hr6 := Lib.hid hr6; have Hz6 := Lib.hid hz6; have HB6 := Lib.hid hB6; clear hw6 hb6 hr6 hz6 hB6)
      | (refine wpList_store_cell rfl 63 (.tmp 41) (.tmp 40) rfl g l (.int .u32 (I32 q.d)) _ rfl rfl rfl ((Hb6.out.cell l).trans (lit16_at _ l hl)) (Hb6.out.frozen l) info32 ?_; intro w7 hw7; have hb7 : Blk w7 g 143 (lit16 (upd (upd (upd (upd s i q.a) j q.b) k q.c) l q.d)) := (by rw [hw7, ← lit16_set]; exact Hb6.out.set_ l _); have hr7 : Blk w7 (g + 1) 143 (lit16 fun _ => 0) := (by rw [hw7]; exact Hr6.out.far (by show g + 1 ≠ g; omega) _); have hz7 : Blk w7 zz 172 (q4Arr q) := (by rw [hw7]; exact Hz6.out.far hzg _); have hB7 : Below w.heap.size w w7 := (by rw [hw7]; exact below_set HB6.out (Nat.le_of_eq Hg.out.symm) _ _); have Hb7 := Lib.hid hb7; have Hr7 := Lib.hid hr7; have Hz7 := Lib.hid hz7; have HB7 := Lib.hid hB7; clear hw7 hb7 hr7 hz7 hB7)
      | (refine wpList_load_row rfl 143 (.tmp 5) rfl g rfl 143 (lit16 (upd (upd (upd (upd s i q.a) j q.b) k q.c) l q.d)) (0, 0) _ Hb7.out Tryd.underlying143 rfl (Hi16.out _) ?_)
      | (refine wpList_store_row rfl 143 (.tmp 10) (.tmp 42) rfl (g + 1) (lit16 (upd (upd (upd (upd s i q.a) j q.b) k q.c) l q.d)) rfl rfl 143 (lit16 fun _ => 0) Hr7.out (Hi16.out _) (by rw [lit16_size, lit16_size]) (lit16_one _) ?_))
    refine bodyPost_ret (v := .agg (lit16 (upd (upd (upd (upd s i q.a) j q.b) k q.c) l q.d))) (results_cell_row (t := 143) (fr := (0, 0)) rfl _ _ (g + 1) _ _ rfl (setRow_heap _ _ _ _ _ _ Hr7.out) Tryd.underlying143 rfl (Hi16.out _)) rfl ⟨by rw [HS.out]; rfl, ?_⟩
    exact below_setRow HB7.out (by have := Hg.out; omega) _
  · refine abs_then ?_
    intro w3 hw3
    obtain ⟨q, hq⟩ : ∃ q, q = qr ⟨s i, s j, s k, s l⟩ := ⟨_, rfl⟩
    rw [← hq] at hw3
    have hb3 : Blk w3 g 143 (lit16 s) := by rw [hw3]; exact Blk.far4 Hb2.out hgw
    have hr3 : Blk w3 (g + 1) 143 (lit16 fun _ => 0) := by rw [hw3]; exact Blk.far4 Hr2.out (by have := Hsz.out; omega)
    have hz3 : Blk w3 w1.heap.size 172 (q4Arr q) := by rw [hw3]; exact (((Hz1.out.set_ 0 _).set_ 1 _).set_ 2 _).set_ 3 _
    have hB3 : Below w.heap.size w w3 := by rw [hw3]; exact below_set4 Hk2.out Hl1.out.size _ _ _ _ _ _ _ _
    have hzg : w1.heap.size ≠ g := Ne.symm hgw
    clear hw3
    obtain ⟨zz, hzz⟩ : ∃ zz, zz = w1.heap.size := ⟨_, rfl⟩
    rw [← hzz] at hz3 hzg ⊢
    have Hq := Lib.hid hq
    clear hq hzz a0 a1 a2 a3 c0 c1 c2 c3 d0 d1 d2 d3 z0 z1 z2 z3 y0 y1 y2 y3
    have hgz := Ne.symm hzg
    have z3 := hz3.cell 0
    simp only [q4Arr, List.getElem?_toArray, List.getElem?_cons_zero] at z3
    have hi16 : ∀ S : Nat → UInt32, (Tryd.prog.info? 143).map (·.size) = some (lit16 S).size := fun S => by rw [lit16_size]; exact infoR
    have Hi16 := Lib.hid hi16
    have Hb3 := Lib.hid hb3
    have Hr3 := Lib.hid hr3
    have HB3 := Lib.hid hB3
    have Hz3 := Lib.hid hz3
    clear hi16 hb3 hr3 hB3 hz3
    have hS : qat s i j k l = (upd (upd (upd (upd s i q.a) j q.b) k q.c) l q.d) := by rw [Hq.out]; rfl
    have HS := Lib.hid hS
    clear hS
    go_wp2_with (first
      | (refine wpList_store_cell rfl 63 (.tmp 29) (.tmp 28) rfl g i (.int .u32 (I32 q.a)) _ rfl rfl rfl ((Hb3.out.cell i).trans (lit16_at _ i hi)) (Hb3.out.frozen i) info32 ?_; intro w4 hw4; have hb4 : Blk w4 g 143 (lit16 (upd s i q.a)) := (by rw [hw4, ← lit16_set]; exact Hb3.out.set_ i _); have hr4 : Blk w4 (g + 1) 143 (lit16 fun _ => 0) := (by rw [hw4]; exact Hr3.out.far (by show g + 1 ≠ g; omega) _); have hz4 : Blk w4 zz 172 (q4Arr q) := (by rw [hw4]; exact Hz3.out.far hzg _); have hB4 : Below w.heap.size w w4 := (by rw [hw4]; exact below_set HB3.out (Nat.le_of_eq Hg.out.symm) _ _); have z4 := hz4.cell 1; simp only [q4Arr, List.getElem?_toArray, List.getElem?_cons_zero, List.getElem?_cons_succ] at z4; have Hb4 := Lib.hid hb4; have Hr4 := Lib.hid hr4; have Hz4 := Lib.hid hz4; have HB4 := Lib.hid hB4; clear hw4 hb4 hr4 hz4 hB4)
      | (refine wpList_store_cell rfl 63 (.tmp 33) (.tmp 32) rfl g j (.int .u32 (I32 q.b)) _ rfl rfl rfl ((Hb4.out.cell j).trans (lit16_at _ j hj)) (Hb4.out.frozen j) info32 ?_; intro w5 hw5; have hb5 : Blk w5 g 143 (lit16 (upd (upd s i q.a) j q.b)) := (by rw [hw5, ← lit16_set]; exact Hb4.out.set_ j _); have hr5 : Blk w5 (g + 1) 143 (lit16 fun _ => 0) := (by rw [hw5]; exact Hr4.out.far (by show g + 1 ≠ g; omega) _); have hz5 : Blk w5 zz 172 (q4Arr q) := (by rw [hw5]; exact Hz4.out.far hzg _); have hB5 : Below w.heap.size w w5 := (by rw [hw5]; exact below_set HB4.out (Nat.le_of_eq Hg.out.symm) _ _); have z5 := hz5.cell 2; simp only [q4Arr, List.getElem?_toArray, List.getElem?_cons_zero, List.getElem?_cons_succ] at z5; have Hb5 := Lib.hid hb5; have Hr5 := Lib.hid hr5; have Hz5 := Lib.hid hz5; have HB5 := Lib.hid hB5; clear hw5 hb5 hr5 hz5 hB5)
      | (refine wpList_store_cell rfl 63 (.tmp 37) (.tmp 36) rfl g k (.int .u32 (I32 q.c)) _ rfl rfl rfl ((Hb5.out.cell k).trans (lit16_at _ k hk)) (Hb5.out.frozen k) info32 ?_; intro w6 hw6; have hb6 : Blk w6 g 143 (lit16 (upd (upd (upd s i q.a) j q.b) k q.c)) := (by rw [hw6, ← lit16_set]; exact Hb5.out.set_ k _); have hr6 : Blk w6 (g + 1) 143 (lit16 fun _ => 0) := (by rw [hw6]; exact Hr5.out.far (by show g + 1 ≠ g; omega) _); have hz6 : Blk w6 zz 172 (q4Arr q) := (by rw [hw6]; exact Hz5.out.far hzg _); have hB6 : Below w.heap.size w w6 := (by rw [hw6]; exact below_set HB5.out (Nat.le_of_eq Hg.out.symm) _ _); have z6 := hz6.cell 3; simp only [q4Arr, List.getElem?_toArray, List.getElem?_cons_zero, List.getElem?_cons_succ] at z6; have Hb6 := Lib.hid hb6; have Hr6 := Lib.hid hr6; have Hz6 := Lib.hid hz6; have HB6 := Lib.hid hB6; clear hw6 hb6 hr6 hz6 hB6)
      | (refine wpList_store_cell rfl 63 (.tmp 41) (.tmp 40) rfl g l (.int .u32 (I32 q.d)) _ rfl rfl rfl ((Hb6.out.cell l).trans (lit16_at _ l hl)) (Hb6.out.frozen l) info32 ?_; intro w7 hw7; have hb7 : Blk w7 g 143 (lit16 (upd (upd (upd (upd s i q.a) j q.b) k q.c) l q.d)) := (by rw [hw7, ← lit16_set]; exact Hb6.out.set_ l _); have hr7 : Blk w7 (g + 1) 143 (lit16 fun _ => 0) := (by rw [hw7]; exact Hr6.out.far (by show g + 1 ≠ g; omega) _); have hz7 : Blk w7 zz 172 (q4Arr q) := (by rw [hw7]; exact Hz6.out.far hzg _); have hB7 : Below w.heap.size w w7 := (by rw [hw7]; exact below_set HB6.out (Nat.le_of_eq Hg.out.symm) _ _); have Hb7 := Lib.hid hb7; have Hr7 := Lib.hid hr7; have Hz7 := Lib.hid hz7; have HB7 := Lib.hid hB7; clear hw7 hb7 hr7 hz7 hB7)
      | (refine wpList_load_row rfl 143 (.tmp 5) rfl g rfl 143 (lit16 (upd (upd (upd (upd s i q.a) j q.b) k q.c) l q.d)) (0, 0) _ Hb7.out Tryd.underlying143 rfl (Hi16.out _) ?_)
      | (refine wpList_store_row rfl 143 (.tmp 10) (.tmp 42) rfl (g + 1) (lit16 (upd (upd (upd (upd s i q.a) j q.b) k q.c) l q.d)) rfl rfl 143 (lit16 fun _ => 0) Hr7.out (Hi16.out _) (by rw [lit16_size, lit16_size]) (lit16_one _) ?_))
    refine bodyPost_ret (v := .agg (lit16 (upd (upd (upd (upd s i q.a) j q.b) k q.c) l q.d))) (results_cell_row (t := 143) (fr := (0, 0)) rfl _ _ (g + 1) _ _ rfl (setRow_heap _ _ _ _ _ _ Hr7.out) Tryd.underlying143 rfl (Hi16.out _)) rfl ⟨by rw [HS.out]; rfl, ?_⟩
    exact below_setRow HB7.out (by have := Hg.out; omega) _

end Go.Proofs.YtoankokkdmbjmaaDoor
