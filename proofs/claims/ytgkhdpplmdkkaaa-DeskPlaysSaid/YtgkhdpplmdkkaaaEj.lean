/- step of a prove. -/
import Derived.Test.YtgkhdpplmdkkaaaEg
import Derived.Test.YtgkhdpplmdkkaaaHDeskPlaysx2
import Derived.Test.YtgkhdpplmdkkaaaHDeskPlaysx5
import Derived.Test.YtgkhdpplmdkkaaaHDeskPlaysx6
set_option linter.unusedVariables false
set_option linter.unusedSimpArgs false
namespace Go.Proofs.Ytgkhdpplmdkkaaa.Ds
open Go.RowKit Go.Proofs.YtgkhdpplmdkkaaaH.HDeskPlays Go.Proofs.YtgkhdpplmdkkaaaW.PrintWords Go.Proofs.YtgkhdpplmdkkaaaW.PrintLast Go.Proofs.YtgkhdpplmdkkaaaW.PrintMore Go.Proofs.Ytgkhdpplmdkkaaa.Dp

/-- as pp_, the operation wanted or not -/
theorem pw_ {P : Program} {md : Region.Mode} {ops : Array Oper} {Q : Exit → Act → World → Prop} {S : World → Prop} {ds : List Nat} {oi : Oper} {v : Value} {fuel : Nat} {l : Array Bool} {a a' : Act} {w : World} (i : Nat) (N : Option Tmp) (l' : Array Bool)
    (hi : ops[i]? = some oi := by rfl) (hN : oi.dst = N := by rfl) (hc : Go.Proofs.YtgkhdpplmdkkaaaW.PrintLast.anyB md ops l l' i = true := by kernel_rfl) (hQ : ∀ c a w, Q (.panic c) (a.put oi.dst v) w → Q (.panic c) a w := by exact fun _ _ _ h => h)
    (hy : Yields P ops oi v a := by first | exact Or.inl ⟨by rfl, by intro w'; go_simp; with_reducible rfl⟩ | exact Or.inr ⟨by rfl, by rfl⟩) (ha : a.put N v = a' := by simp only [Act.put, sA_, sB_, sC_]; rfl)
    (h : wpAnyLast P md ops Q S ds fuel l' a' w) : wpAnyLast P md ops Q S ds (fuel + 1) l a w := pure_ l' hi hN hc hQ hy ha h
/-- the reference's prove, as a contract -/
def XProve (U : Nat → Ses) (t s : Int) (R : Int × S74) (ans : ByteArray) (ns : List S74) (cx : List ByteArray) : Prop := ∀ (w : World) (xs : Array Value) (col : Nat → Nat) (A3 : Option Addr) (c3 : Nat) (A4 : Option Addr) (c4 : Nat), XI w xs col U → Kd.C k74 w A3 ns.length ns → ns.length ≤ c3 → Kd.C Kd.string w A4 cx.length cx →
  Calls Try.prog 75 #[.agg xs, .int .i64 t, .int .i64 s, .string ans, .slice A3 ns.length c3, .slice A4 cx.length c4] w fun e w' =>
    ∃ ys, e = .returned (.tuple #[.agg ys, .agg #[.string (prvR U t s R).2.f0, .int .i64 (prvR U t s R).2.f1], .int .i64 (prvR U t s R).1]) ∧ Below w.heap.size w w' ∧ XI w' ys (colN col w.heap.size 0) (prvV U t s R)
theorem xprove_shut {U : Nat → Ses} {t s : Int} (h : isP t s → (U (ix t s)).p = false) (R : Int × S74) (ans : ByteArray) (ns : List S74) (cx : List ByteArray) (hl : ns.length = cx.length) : XProve U t s R ans ns cx := by
  intro w xs col A3 c3 A4 c4 hX h3 hc3 h4
  rw [hl]
  by_cases hp : isP t s
  · obtain ⟨A5, n5, A6, n6, h7, _, _⟩ := hX.2.2 _ (ix_lt hp)
    rw [h hp] at h7
    refine (rprove_shut xs t s ans A3 A4 cx.length c3 c4 (7 * ix t s) _ _ _ _ _ _ _ _ _ _ w hp ix_o h7 hX.1 hX.2.1).mono ?_
    rintro e w' ⟨rfl, hb⟩
    rw [prvR, if_pos hp, h hp, if_neg (by decide), prvV, if_pos hp, h hp, if_neg (by decide)]
    exact ⟨xs, rfl, hb, hX.still hb⟩
  · refine (rprove_no xs t s ans A3 A4 cx.length c3 cx.length c4 w (.inl hp) hX.1 hX.2.1).mono ?_
    rintro e w' ⟨rfl, hb⟩
    rw [prvR, if_neg hp, prvV, if_neg hp]
    exact ⟨xs, rfl, hb, hX.still hb⟩
def cnd (t s : Int) (right : Bool) (n : Int) (m : Nat) : Bool := decide (isP t s ∧ right = true ∧ 0 ≤ n ∧ n < (m : Int))
theorem cnd_no {t s : Int} {right : Bool} {n : Int} {m : Nat} (h : ¬ (isP t s ∧ right = true ∧ 0 ≤ n ∧ n < (m : Int))) : cnd t s right n m = false := decide_eq_false h
theorem cnd_yes {t s : Int} {right : Bool} {n : Int} {m : Nat} (h : isP t s ∧ right = true ∧ 0 ≤ n ∧ n < (m : Int)) : cnd t s right n m = true := decide_eq_true h
/-- what lies below the desk -/
def Lo (w : World) (g : Nat) (A : Option Addr) (cx : List ByteArray) : Prop := ∀ W' : World, (∀ k, k < g → W'.heap[k]? = w.heap[k]?) → Kd.C Kd.string W' A cx.length cx
theorem Lo.below {w w' : World} {g : Nat} {A : Option Addr} {cx : List ByteArray} (h : Lo w g A cx) (hb : Below g w w') : Lo w' g A cx := fun W' hk => h W' (fun k hlt => (hk k hlt).trans (hb.block k hlt))
theorem Lo.now {w : World} {g : Nat} {A : Option Addr} {cx : List ByteArray} (h : Lo w g A cx) : Kd.C Kd.string w A cx.length cx := h w (fun _ _ => rfl)
theorem Lo.but {w : World} {g : Nat} {A : Option Addr} {cx : List ByteArray} (h : Lo w g A cx) (hg : g < w.heap.size) : ∀ W', KeepBut w W' g none → Kd.C Kd.string W' A cx.length cx := fun W' hk => h W' (fun k hlt => hk.2 k (Nat.lt_trans hlt hg) (Nat.ne_of_lt hlt) (by simp))
/-- ahead of the machine's prove -/
def Bef (w0 wq w : World) (g : Nat) (cs xs ops : Array Value) (cq : Nat → Nat) (V : Nat → Ses) : Prop := Box w0 w xs ops ∧ Kp cq g w0 w ∧ Below wq.heap.size wq w ∧ DI w g cs cq V
theorem Box.below {w0 w w' : World} {xs ops : Array Value} (h : Box w0 w xs ops) (hb : Below w.heap.size w w') : Box w0 w' xs ops := ⟨h.1.below hb h.1.lt, h.2.1.below hb h.2.1.lt, h.2.2.below hb h.2.2.lt⟩
theorem Bef.below {w0 wq w w' : World} {g : Nat} {cs xs ops : Array Value} {cq : Nat → Nat} {V : Nat → Ses} (h : Bef w0 wq w g cs xs ops cq V) (hb : Below w.heap.size w w') : Bef w0 wq w' g cs xs ops cq V :=
  ⟨h.1.below hb, h.2.1.more hb, h.2.2.1.trans (hb.mono h.2.2.1.size), h.2.2.2.below hb⟩
/-- behind the machine's prove, a block of an id at p -/
def Aft (w0 wq w : World) (g : Nat) (xs ops : Array Value) (cq : Nat → Nat) (V : Nat → Ses) (p : Nat) : Prop := wq.heap.size ≤ p ∧ Blk w p 74 #[.string ⟨#[]⟩, .int .i64 0] ∧ Box w0 w xs ops ∧ Kp cq g w0 w ∧ (∀ k, k < wq.heap.size → cq k = 0 → w.heap[k]? = wq.heap[k]?) ∧ ∃ cs col, DI w g cs col V ∧ col p = 0 ∧ ∀ k, k < wq.heap.size → col k = cq k
theorem bef_out {w0 wq w w' : World} {g : Nat} {cs xs ops : Array Value} {cq : Nat → Nat} {V V' : Nat → Ses} (h : Bef w0 wq w g cs xs ops cq V) (hc : ∀ k, w0.heap.size ≤ k → cq k = 0) (hO : Out w w' g cq V') : Box w0 w' xs ops ∧ Kp cq g w0 w' ∧ ∀ k, k < wq.heap.size → cq k = 0 → w'.heap[k]? = wq.heap[k]? :=
  ⟨⟨hO.blk h.1.1 (hc _ (Nat.le_refl _)), hO.blk h.1.2.1 (hc _ (by omega)), hO.blk h.1.2.2 (hc _ (by omega))⟩, h.2.1.out (fun _ _ h0 => h0) hO, fun k hk h0 => (hO.2.2 k (Nat.lt_of_lt_of_le hk h.2.2.1.size) h0).trans (h.2.2.1.block k hk)⟩
theorem aft_late {w0 wq w w' : World} {g : Nat} {cs xs ops : Array Value} {cq : Nat → Nat} {V V' : Nat → Ses} (h : Bef w0 wq w g cs xs ops cq V) (hc : ∀ k, w0.heap.size ≤ k → cq k = 0) (hO : Out w w' g cq V') : Aft w0 wq (w'.alloc (.cells #[.string ⟨#[]⟩, .int .i64 0] 74)) g xs ops cq V' w'.heap.size := by
  obtain ⟨h1, h2, h3⟩ := bef_out h hc hO
  obtain ⟨cs', col', hD, _, hag⟩ := hO.2.1
  have hb := below_allocW w' (.cells #[.string ⟨#[]⟩, .int .i64 0] 74)
  have hs : wq.heap.size ≤ w'.heap.size := Nat.le_trans h.2.2.1.size hO.1.size
  refine ⟨hs, Blk.new _ _ _, h1.below hb, h2.more hb, fun k hk h0 => (hb.block k (Nat.lt_of_lt_of_le hk hs)).trans (h3 k hk h0), cs', colN col' w'.heap.size 0, hD.still hb, colN_new (Nat.le_refl _), fun k hk => ?_⟩
  rw [colN_old (Nat.lt_of_lt_of_le hk hs)]
  exact hag k (Nat.lt_of_lt_of_le hk h.2.2.1.size)
theorem aft_early {w0 wq w w' : World} {g p : Nat} {cs xs ops : Array Value} {cq : Nat → Nat} {V V' : Nat → Ses} (h : Bef w0 wq w g cs xs ops cq V) (hc : ∀ k, w0.heap.size ≤ k → cq k = 0) (h0 : w0.heap.size ≤ wq.heap.size) (hp : wq.heap.size ≤ p) (hB : Blk w p 74 #[.string ⟨#[]⟩, .int .i64 0]) (hO : Out w w' g cq V') : Aft w0 wq w' g xs ops cq V' p := by
  obtain ⟨h1, h2, h3⟩ := bef_out h hc hO
  obtain ⟨cs', col', hD, _, hag⟩ := hO.2.1
  exact ⟨hp, hO.blk hB (hc _ (by omega)), h1, h2, h3, cs', col', hD, (hag p hB.lt).trans (hc _ (by omega)), fun k hk => hag k (Nat.lt_of_lt_of_le hk h.2.2.1.size)⟩
theorem SesAt.off {w : World} {okS okT : Nat → Prop} {cs : Array Value} {o b : Nat} {x : Ses} {old ys : Array Value} (h : SesAt w okS okT cs o x) (hb : Blk w b 74 old) (hT : ∀ k, okT k → k ≠ b) : SesAt (w.setRow b ys) okS okT cs o x := by
  obtain ⟨A5, n5, A6, n6, h7, hs, ht⟩ := h
  exact ⟨A5, n5, A6, n6, h7, Kd.R_mono (Kd.R_step (Kd.R_types hs hb (by decide)) (fun k h1 _ => setRow_other _ _ _ _ h1.2)) (fun _ h => h.1), Kd.R_step ht (fun k h1 _ => setRow_other _ _ _ _ (hT k h1))⟩
/-- between the two proves: the desk, the reference's desk, the boxes -/
def Nd (cq : Nat → Nat) (w0 w : World) (g : Nat) (xs0 ops xs : Array Value) (V U : Nat → Ses) : Prop := Box w0 w xs0 ops ∧ Kp cq g w0 w ∧ ∃ cs col, DI w g cs col V ∧ XI w xs col U
theorem Box.row {w0 w : World} {xs ops ys : Array Value} {b : Nat} (h : Box w0 w xs ops) (hb : w0.heap.size + 1 + 1 < b) : Box w0 (w.setRow b ys) xs ops := ⟨rowS h.1 (by omega), rowS h.2.1 (by omega), rowS h.2.2 (by omega)⟩
theorem aft_store {w0 wq w : World} {g p : Nat} {xs ops ys : Array Value} {cq : Nat → Nat} {V U : Nat → Ses} (h : Aft w0 wq w g xs ops cq V p) (hx : XI wq xs cq U) (hg : g < w0.heap.size) (hw : w0.heap.size + 1 + 1 < wq.heap.size) : Nd cq w0 (w.setRow p ys) g xs ops xs V U := by
  obtain ⟨hp, hB, hbox, hbl, hsame, cs', col', hD, hcp, hag⟩ := h
  refine ⟨hbox.row (by omega), hbl.row (by omega) _, cs', col', ⟨rowS hD.1 (by omega), hD.2.1, hD.2.2.1, fun j hj => (hD.2.2.2 j hj).off hB (fun k hk e => by rw [e] at hk; omega)⟩, hx.1, hx.2.1, fun j hj => ?_⟩
  refine (hx.2.2 j hj).step (fun k hk hlt => ?_) (fun k h1 hlt => by show col' k = 0; rw [hag k hlt]; exact h1) (fun k h1 hlt => by show col' k = 0; rw [hag k hlt]; exact h1)
  rw [setRow_other _ _ _ _ (show k ≠ p by omega)]
  exact hsame k hlt (by rcases hk with h1 | h1 <;> exact h1)
/-- beside the reference's prove; ob: a block of an id -/
def Q19 (cq : Nat → Nat) (w0 w3 w : World) (g : Nat) (xs0 ops xs : Array Value) (V U : Nat → Ses) (ob : Option Nat) : Prop := Box w0 w xs0 ops ∧ Kp cq g w0 w ∧ Below w3.heap.size w3 w ∧ ∃ cs col, DI w g cs col V ∧ XI w xs col U ∧ ∀ b, ob = some b → col b = 1 ∧ w3.heap.size ≤ b ∧ b < w.heap.size
theorem Q19.below {cq : Nat → Nat} {w0 w3 w w' : World} {g : Nat} {xs0 ops xs : Array Value} {V U : Nat → Ses} {ob : Option Nat} (h : Q19 cq w0 w3 w g xs0 ops xs V U ob) (hb : Below w.heap.size w w') : Q19 cq w0 w3 w' g xs0 ops xs V U ob := by
  obtain ⟨h1, h2, h3, cs, col, hD, hX, ho⟩ := h
  exact ⟨h1.below hb, h2.more hb, h3.trans (hb.mono h3.size), cs, col, hD.below hb, hX.below hb, fun b e => ⟨(ho b e).1, (ho b e).2.1, Nat.lt_of_lt_of_le (ho b e).2.2 hb.size⟩⟩
theorem Q19.new {cq : Nat → Nat} {w0 w3 w : World} {g : Nat} {xs0 ops xs : Array Value} {V U : Nat → Ses} (h : Q19 cq w0 w3 w g xs0 ops xs V U none) (c : Obj) : Q19 cq w0 w3 (w.alloc c) g xs0 ops xs V U (some w.heap.size) := by
  obtain ⟨h1, h2, h3, cs, col, hD, hX, _⟩ := h
  have hb := below_allocW w c
  refine ⟨h1.below hb, h2.more hb, h3.trans (hb.mono h3.size), cs, colN col w.heap.size 1, (hD.recol (Nat.le_refl _)).below hb, (hX.recol (Nat.le_refl _)).below hb, ?_⟩
  rintro b e
  injection e with e
  subst e
  exact ⟨by unfold colN; rw [if_neg (by omega)], h3.size, by simp⟩
theorem Q19.call {cq : Nat → Nat} {w0 w3 w w' : World} {g : Nat} {xs0 ops ys cs : Array Value} {col : Nat → Nat} {V U' : Nat → Ses} {ob : Option Nat} (h1 : Box w0 w xs0 ops) (h2 : Kp cq g w0 w) (h3 : Below w3.heap.size w3 w) (hD : DI w g cs col V) (ho : ∀ b, ob = some b → col b = 1 ∧ w3.heap.size ≤ b ∧ b < w.heap.size)
    (hb : Below w.heap.size w w') (hX : XI w' ys (colN col w.heap.size 0) U') : Q19 cq w0 w3 w' g xs0 ops ys V U' ob :=
  ⟨h1.below hb, h2.more hb, h3.trans (hb.mono h3.size), cs, colN col w.heap.size 0, hD.still hb, hX, fun b e => ⟨by rw [colN_old (ho b e).2.2]; exact (ho b e).1, (ho b e).2.1, Nat.lt_of_lt_of_le (ho b e).2.2 hb.size⟩⟩
theorem Q19.store {cq : Nat → Nat} {w0 w3 w : World} {g b : Nat} {xs0 ops xs old ys : Array Value} {V U : Nat → Ses} {ob : Option Nat} (h : Q19 cq w0 w3 w g xs0 ops xs V U ob) (hB : Blk w b 90 old) (hb : w3.heap.size ≤ b) (hg : g < w0.heap.size) (hw : w0.heap.size + 1 + 1 < w3.heap.size) : Q19 cq w0 w3 (w.setRow b ys) g xs0 ops xs V U ob := by
  obtain ⟨h1, h2, h3, cs, col, hD, hX, ho⟩ := h
  have hr := below_setRow h3 hb ys
  exact ⟨h1.row (by omega), h2.row (by omega) _, hr, cs, col, ⟨rowS hD.1 (by omega), hD.2.1, hD.2.2.1, fun j hj => (hD.2.2.2 j hj).row hB⟩, ⟨hX.1, hX.2.1, fun j hj => (hX.2.2 j hj).row hB⟩, fun b' e => ⟨(ho b' e).1, (ho b' e).2.1, Nat.lt_of_lt_of_le (ho b' e).2.2 (below_setRow (Below.refl 0 w) (Nat.zero_le b) ys).size⟩⟩
theorem Q19.last {cq : Nat → Nat} {w0 w3 w : World} {g b : Nat} {xs0 ops xs old ys : Array Value} {V U : Nat → Ses} (h : Q19 cq w0 w3 w g xs0 ops xs V U (some b)) (hB : Blk w b 74 old) (hg : g < w0.heap.size) (hw : w0.heap.size + 1 + 1 < w3.heap.size) : Nd cq w0 (w.setRow b ys) g xs0 ops xs V U := by
  obtain ⟨h1, h2, h3, cs, col, hD, hX, ho⟩ := h
  obtain ⟨hc, hb, _⟩ := ho b rfl
  exact ⟨h1.row (by omega), h2.row (by omega) _, cs, col, ⟨rowS hD.1 (by omega), hD.2.1, hD.2.2.1, fun j hj => (hD.2.2.2 j hj).off hB (fun k hk e => by rw [e] at hk; omega)⟩, hX.1, hX.2.1, fun j hj => (hX.2.2 j hj).off hB (fun k hk e => by rw [e] at hk; omega)⟩
/-- what the loads of a step need -/
def SOps (b : Nat) (ops : Array Value) (t s : Int) (v8 : Value) (w' : World) : Prop := Blk w' b 69 ops ∧ w'.cell? ⟨b, 1, none⟩ = some (.int .i64 t) ∧ w'.cell? ⟨b, 2, none⟩ = some (.int .i64 s) ∧ w'.cell? ⟨b, 8, none⟩ = some v8
theorem sops {w' : World} {b : Nat} {ops : Array Value} {t s : Int} {v8 : Value} (h : Blk w' b 69 ops) (h1 : ops[1]? = some (.int .i64 t)) (h2 : ops[2]? = some (.int .i64 s)) (h8 : ops[8]? = some v8) : SOps b ops t s v8 w' := ⟨h, (h.cell 1).trans h1, (h.cell 2).trans h2, (h.cell 8).trans h8⟩
theorem al74 (oi : Oper) (ho : oi.op = .alloc 74) (a : Act) (w : World) : (execOp a.eval oi).run Try.prog w = .ok (.value (.pointer (some ⟨w.heap.size, 0, none⟩))) (w.alloc (.cells #[.string ⟨#[]⟩, .int .i64 0] 74)) := by
  unfold execOp
  simp only [ho]
  go_simp
theorem al90 (oi : Oper) (ho : oi.op = .alloc 90) (a : Act) (w : World) : (execOp a.eval oi).run Try.prog w = .ok (.value (.pointer (some ⟨w.heap.size, 0, none⟩))) (w.alloc (.cells Try.zeroCells90 90)) := by
  unfold execOp
  simp only [ho]
  go_simp
def i74 (x : Int × S74) : Value := .agg #[.string x.2.f0, .int .i64 x.2.f1]

attribute [local go_sem high] eqA74

set_option maxRecDepth 100000 in
set_option maxHeartbeats 4000000 in
theorem step3 {w : World} {g : Nat} {cs xs : Array Value} {col : Nat → Nat} {V U : Nat → Ses} (h : DI w g cs col V) (hx : XI w xs col U) (t s q n : Int) (sum text : ByteArray) (right : Bool) (A8 : Option Addr) (c8 : Nat) (cx : List ByteArray) (cx1 : cx.length ≤ 1000) (ns : List S74) (ki : Nat) (hids : strongroomlaw27_ids.f ki (cx.length : Int) = some ns) (hl : ns.length = cx.length) (hcx : Lo w g A8 cx) (ans : ByteArray)
    (hans : isP t s → right = true → 0 ≤ n → n < (cx.length : Int) → ∃ k, strongroomref27_Proof.f k (U (ix t s)).su (U (ix t s)).no (U (ix t s)).sl (rdOf ByteArray.empty cx n) = some ans) (hans2 : ¬ (isP t s ∧ right = true ∧ 0 ≤ n ∧ n < (cx.length : Int)) → ans = text)
    (pf : ByteArray → ByteArray) (R R2 : Int × S74) (htk : isP t s → (V (ix t s)).tk.length ≤ 8)
    (hp : isP t s → (V (ix t s)).p = true → ∀ x ∈ cx, ∃ k, desk_Proof.f k (V (ix t s)).su (V (ix t s)).no (V (ix t s)).sl x = some (pf x))
    (hmiss : (∀ i, i < cx.length → (pf (cx.getD i ⟨#[]⟩)).toList ≠ ans.toList) → R = (11, z74))
    (hhit : isP t s → ∀ m, m < cx.length → (pf (cx.getD m ⟨#[]⟩)).toList = ans.toList → (∀ i, i < m → (pf (cx.getD i ⟨#[]⟩)).toList ≠ ans.toList) → R = if (V (ix t s)).tk.length = 8 then (5, z74) else (0, ns.getD m z74))
    (hXP : XProve U t s R2 ans ns cx) (hRR : V = U → R = R2) :
    Calls Try.prog 45 #[.pointer (some ⟨g, 0, none⟩), .agg xs, .agg #[.int .i64 3, .int .i64 t, .int .i64 s, .int .i64 q, .int .i64 n, .string sum, .string text, .bool right, .slice A8 cx.length c8]] w fun e w' =>
      StepOut e w w' g col V U (prvV V t s R) (prvV U t s R2) := by
  have ht := three w xs #[.int .i64 3, .int .i64 t, .int .i64 s, .int .i64 q, .int .i64 n, .string sum, .string text, .bool right, .slice A8 cx.length c8]
  have hd := h.still ht.2.2.2
  have hxx := hx.still ht.2.2.2
  have HZ := Lib.hid (And.intro hx.1 hx.2.1)
  have HGW := Lib.hid h.1.lt
  have HT := Lib.hid ht
  have HD := Lib.hid hd
  have HX := Lib.hid hxx
  clear ht hd hxx h hx
  have HIDS := Lib.hid hids
  have HLO := Lib.hid hcx
  have HANS := Lib.hid (And.intro hans hans2)
  have HPR := Lib.hid (And.intro htk (And.intro hp (And.intro hmiss hhit)))
  have HXP := Lib.hid hXP
  have HRR := Lib.hid hRR
  clear hids hcx hans hans2 htk hp hmiss hhit hXP hRR
  go_enter Try.func45, Try.ntmps45
  go_wp2_with fail
  refine (is_any t s _).mono ?_
  rintro e w' ⟨rfl, rfl⟩
  obtain ⟨bq, hbq⟩ : ∃ bq, bq = decide (isP t s) := ⟨_, rfl⟩
  rw [← hbq]
  have HBQ := Lib.hid hbq
  clear hbq
  generalize hwT : ((w.alloc (.cells xs 90)).alloc (.cells #[.int .i64 3, .int .i64 t, .int .i64 s, .int .i64 q, .int .i64 n, .string sum, .string text, .bool right, .slice A8 cx.length c8] 69)).alloc (.cells Try.zeroCells90 90) = wT at HT HD HX
  have hCT := HT.out.2.1
  have o0 := hCT.cell 0
  have o1 := hCT.cell 1
  have o2 := hCT.cell 2
  have o3 := hCT.cell 3
  have o4 := hCT.cell 4
  have o5 := hCT.cell 5
  have o6 := hCT.cell 6
  have o7 := hCT.cell 7
  have o8 := hCT.cell 8
  have HCT := Lib.hid hCT
  have hltT := hCT.lt
  clear hCT hwT
  go_upto_region 16 with (fail)
  go_cut [170] from 153 to 170 (fun v wc => v = .bool (cnd t s right n cx.length) ∧ wc = wT)
  case first =>
    cases bq
    case false =>
      go_wp2_with fail
      go_meet
      case rel => exact ⟨by rw [cnd_no (fun h_ => of_decide_eq_false HBQ.out.symm h_.1)], rfl⟩
    cases right
    case false =>
      go_wp2_with fail
      go_meet
      case rel => exact ⟨by rw [cnd_no (fun h_ => by simp at h_)], rfl⟩
    by_cases h2 : 0 ≤ n
    case neg =>
      go_wp2_with fail
      go_meet
      case rel => exact ⟨by rw [cnd_no (fun h_ => by obtain ⟨_, _, a, b⟩ := h_; omega)], rfl⟩
    by_cases h3 : n < (cx.length : Int)
    case neg =>
      go_wp2_with fail
      go_meet
      case rel => exact ⟨by rw [cnd_no (fun h_ => by obtain ⟨_, _, a, b⟩ := h_; omega)], rfl⟩
    go_wp2_with fail
    go_meet
    case rel => exact ⟨by rw [cnd_yes ⟨of_decide_eq_true HBQ.out.symm, rfl, h2, h3⟩], rfl⟩
  obtain ⟨rfl, hww⟩ := hcut
  have hww' := hww.symm
  clear hww
  subst hww'
  go_upto_if 170 with (fail)
  go_cut [22] from 153 to 187 (fun v wq => v = .string ans ∧ Below wT.heap.size wT wq)
  case first =>
    by_cases hc : isP t s ∧ right = true ∧ 0 ≤ n ∧ n < (cx.length : Int)
    case neg =>
      rw [cnd_no hc]
      have ha := HANS.out.2 hc
      clear hc
      go_wp2_with fail
      go_meet
      case rel => exact ⟨by rw [ha], Below.refl _ _⟩
    rw [cnd_yes hc]
    obtain ⟨hp, rfl, c3, c4⟩ := hc
    obtain ⟨A5, n5, A6, n6, h7, hs, ht⟩ := HX.out.2.2 _ (ix_lt hp)
    obtain ⟨kf, hf⟩ := HANS.out.1 hp rfl c3 c4
    have hlo := HLO.out.below (HT.out.2.2.2.mono (Nat.le_of_lt HGW.out))
    obtain ⟨m, rfl⟩ : ∃ m : Nat, n = m := ⟨n.toNat, by omega⟩
    obtain ⟨ad, rfl, hxc⟩ := Kd.at_string hlo.now (m : Int) (by omega) (by omega)
    simp only [Int.toNat_natCast] at hxc
    generalize rdOf ByteArray.empty cx (m : Int) = xc at hxc hf
    have ho : (t.toNat - 1) * 28 + s.toNat * 7 = 7 * ix t s := ix_o
    have hlo7 : 7 * ix t s + 6 < 224 := by have := ix_lt hp; omega
    generalize hoo : 7 * ix t s = o at ho h7 hlo7
    have hB := HT.out.1
    have q3 := (hB.cell (o + 3)).trans h7.c3
    have q4 := (hB.cell (o + 4)).trans h7.c4
    have q5 := (hB.cell (o + 5)).trans h7.c5
    obtain ⟨g1, g2, g3, g4⟩ := hp
    have v1 : IntKind.i64.wrap (t - 1) = t - 1 := by rw [IntKind.wrap_i64]; go_num
    have v2 : 0 ≤ t - 1 := by omega
    have v3 : t - 1 < 8 := by omega
    have v4 : s < 4 := by omega
    have v5 : (t - 1).toNat * 28 + s.toNat * 7 = o := by omega
    have HF := Lib.hid hf
    have HS5 := Lib.hid hs
    clear hf hs ht h7 hoo hB hlo
    go_upto_region 17 with (fail)
    have hS : (fun w' => w'.cell? ⟨w.heap.size + 1, 1, none⟩ = some (.int .i64 t) ∧ w'.cell? ⟨w.heap.size + 1, 2, none⟩ = some (.int .i64 s) ∧ w'.cell? ⟨w.heap.size + 1, 8, none⟩ = some (.slice (some ad) cx.length c8) ∧ w'.cell? ⟨w.heap.size + 1, 4, none⟩ = some (.int .i64 (m : Int)) ∧ w'.cell? ⟨w.heap.size, o + 3, none⟩ = some (.string (U (ix t s)).su) ∧ w'.cell? ⟨w.heap.size, o + 4, none⟩ = some (.string (U (ix t s)).no) ∧ w'.cell? ⟨w.heap.size, o + 5, none⟩ = some (.slice A5 (U (ix t s)).sl.length n5) ∧ w'.cell? (ad.add m) = some (.string xc)) wT.drew := ⟨o1, o2, o8, o4, q3, q4, q5, hxc⟩
    refine start_ (n := 17) (S := (fun w' => w'.cell? ⟨w.heap.size + 1, 1, none⟩ = some (.int .i64 t) ∧ w'.cell? ⟨w.heap.size + 1, 2, none⟩ = some (.int .i64 s) ∧ w'.cell? ⟨w.heap.size + 1, 8, none⟩ = some (.slice (some ad) cx.length c8) ∧ w'.cell? ⟨w.heap.size + 1, 4, none⟩ = some (.int .i64 (m : Int)) ∧ w'.cell? ⟨w.heap.size, o + 3, none⟩ = some (.string (U (ix t s)).su) ∧ w'.cell? ⟨w.heap.size, o + 4, none⟩ = some (.string (U (ix t s)).no) ∧ w'.cell? ⟨w.heap.size, o + 5, none⟩ = some (.slice A5 (U (ix t s)).sl.length n5) ∧ w'.cell? (ad.add m) = some (.string xc))) (ds := []) (Ra_ [0, 17]) (by kernel_rfl) rfl rfl hS (fun hHeld => ?_)
    refine pp_ 0 (some 171) (Ra_ [1, 16]) (h := ?_)
    refine take_ (i := 1) (N := some 172) (Ra_ [2, 15]) rfl rfl (by kernel_rfl) (fun _ _ _ h => h) (Or.inl ⟨by rfl, by rintro w' ⟨s1, s2, s8, s4, z3, z4, z5, hx⟩; go_simp; with_reducible rfl⟩) hHeld (by simp only [Act.put, sA_, sB_, sC_]; rfl) ?_
    refine pp_ 2 (some 173) (Ra_ [3, 14]) (h := ?_)
    refine pp_ 3 (some 174) (Ra_ [4, 13]) (h := ?_)
    refine take_ (i := 4) (N := some 175) (Ra_ [5, 12]) rfl rfl (by kernel_rfl) (fun _ _ _ h => h) (Or.inl ⟨by rfl, by rintro w' ⟨s1, s2, s8, s4, z3, z4, z5, hx⟩; go_simp; with_reducible rfl⟩) hHeld (by simp only [Act.put, sA_, sB_, sC_]; rfl) ?_
    refine pp_ 5 (some 176) (Ra_ [6, 11]) (h := ?_)
    refine pp_ 6 (some 177) (Ra_ [7, 10]) (h := ?_)
    refine pp_ 7 (some 178) (Ra_ [8, 9]) (h := ?_)
    refine take_ (i := 8) (N := some 179) (Ra_ [9, 8]) rfl rfl (by kernel_rfl) (fun _ _ _ h => h) (Or.inl ⟨by rfl, by rintro w' ⟨s1, s2, s8, s4, z3, z4, z5, hx⟩; go_simp; with_reducible rfl⟩) hHeld (by simp only [Act.put, sA_, sB_, sC_]; rfl) ?_
    refine pp_ 9 (some 180) (Ra_ [10, 7]) (h := ?_)
    refine take_ (i := 10) (N := some 181) (Ra_ [11, 6]) rfl rfl (by kernel_rfl) (fun _ _ _ h => h) (Or.inl ⟨by rfl, by rintro w' ⟨s1, s2, s8, s4, z3, z4, z5, hx⟩; go_simp; with_reducible rfl⟩) hHeld (by simp only [Act.put, sA_, sB_, sC_]; rfl) ?_
    refine pp_ 11 (some 182) (Ra_ [12, 5]) (h := ?_)
    refine take_ (i := 12) (N := some 183) (Ra_ [13, 4]) rfl rfl (by kernel_rfl) (fun _ _ _ h => h) (Or.inl ⟨by rfl, by rintro w' ⟨s1, s2, s8, s4, z3, z4, z5, hx⟩; go_simp; with_reducible rfl⟩) hHeld (by simp only [Act.put, sA_, sB_, sC_]; rfl) ?_
    refine pp_ 13 (some 184) (Ra_ [14, 3]) (h := ?_)
    refine take_ (i := 14) (N := some 185) (Ra_ [15, 2]) rfl rfl (by kernel_rfl) (fun _ _ _ h => h) (Or.inl ⟨by rfl, by rintro w' ⟨s1, s2, s8, s4, z3, z4, z5, hx⟩; go_simp; with_reducible rfl⟩) hHeld (by simp only [Act.put, sA_, sB_, sC_]; rfl) ?_
    refine one_ (i := 15) (N := some 186) (Ra_ [16, 1]) rfl rfl (by kernel_rfl) (by decide) (fun K hK => ?_)
    refine goes_ Try.func24 (by kernel_rfl) rfl #[.agg #[.string (U (ix t s)).su, .string (U (ix t s)).no, .slice A5 (U (ix t s)).sl.length n5], .string xc] (by rfl) rfl rfl (by (try simp only [List.map_toArray, List.map_cons, List.map_nil]); first | done | rfl) ?_
    refine (strongroomref27_Proof.calls kf _ _ A5 n5 _ xc ans _ (Kd.R_reads' (Kd.R_drew HS5.out)).2.2 (Kd.R_reads' HS5.out).2.1 HF.out).mono ?_
    rintro e w6 ⟨rfl, hb6⟩
    refine ⟨_, rfl, ?_⟩
    have HB6 := Lib.hid hb6
    have hT6 : (fun w' => w'.cell? ⟨w.heap.size + 1, 1, none⟩ = some (.int .i64 t) ∧ w'.cell? ⟨w.heap.size + 1, 2, none⟩ = some (.int .i64 s) ∧ w'.cell? ⟨w.heap.size + 1, 8, none⟩ = some (.slice (some ad) cx.length c8) ∧ w'.cell? ⟨w.heap.size + 1, 4, none⟩ = some (.int .i64 (m : Int)) ∧ w'.cell? ⟨w.heap.size, o + 3, none⟩ = some (.string (U (ix t s)).su) ∧ w'.cell? ⟨w.heap.size, o + 4, none⟩ = some (.string (U (ix t s)).no) ∧ w'.cell? ⟨w.heap.size, o + 5, none⟩ = some (.slice A5 (U (ix t s)).sl.length n5) ∧ w'.cell? (ad.add m) = some (.string xc)) w6 := by
      obtain ⟨s1, s2, s8, s4, z3, z4, z5, hx⟩ := hHeld
      exact ⟨(hb6.cell (World.block_lt_of_cell? _ _ s1)).trans s1, (hb6.cell (World.block_lt_of_cell? _ _ s2)).trans s2, (hb6.cell (World.block_lt_of_cell? _ _ s8)).trans s8, (hb6.cell (World.block_lt_of_cell? _ _ s4)).trans s4, (hb6.cell (World.block_lt_of_cell? _ _ z3)).trans z3, (hb6.cell (World.block_lt_of_cell? _ _ z4)).trans z4, (hb6.cell (World.block_lt_of_cell? _ _ z5)).trans z5, (hb6.cell (World.block_lt_of_cell? _ _ hx)).trans hx⟩
    refine hK.out _ _ hT6 (fun hHeld => ?_)
    refine pp_ 16 (some 22) (Ra_ [17]) (h := ?_)
    refine done_ (by kernel_rfl) ?_
    go_wp2_with fail
    go_meet
    case rel => exact ⟨rfl, (show Below wT.heap.size wT wT.drew from (Below.refl _ _).drew).trans HB6.out⟩
  obtain ⟨rfl, hbc⟩ := hcut
  rename World => wq
  have hc0 : ∀ k, w.heap.size ≤ k → colN col w.heap.size 0 k = 0 := fun k hk => colN_new hk
  have hcc : ∀ k, k < w.heap.size → col k = 0 → colN col w.heap.size 0 k = 0 := fun k hk h0 => by rw [colN_old hk]; exact h0
  have HCC := Lib.hid hcc
  clear hcc
  generalize colN col w.heap.size 0 = cq at HD HX hc0 HCC
  have hMq : Bef w wq wq g cs xs #[.int .i64 3, .int .i64 t, .int .i64 s, .int .i64 q, .int .i64 n, .string sum, .string text, .bool right, .slice A8 cx.length c8] cq V := ⟨⟨HT.out.1.below hbc HT.out.1.lt, HT.out.2.1.below hbc HT.out.2.1.lt, HT.out.2.2.1.below hbc HT.out.2.2.1.lt⟩, (Kp.of HT.out.2.2.2 HGW.out).more hbc, Below.refl _ _, HD.out.below hbc⟩
  have hXq := HX.out.below hbc
  have hszq : w.heap.size + 1 + 1 < wq.heap.size := hMq.1.2.2.lt
  obtain ⟨pr, hpr⟩ : ∃ pr, prvR V t s R = pr := ⟨_, rfl⟩
  obtain ⟨pr2, hpr2⟩ : ∃ pr2, prvR U t s R2 = pr2 := ⟨_, rfl⟩
  have hee : V = U → pr = pr2 := fun e => by rw [← hpr, ← hpr2, ← HRR.out e, e]
  have HL := Lib.hid hl
  clear hl
  have hProve : ∀ (wc : World) (A3 : Option Addr) (c3 : Nat), Bef w wq wc g cs xs #[.int .i64 3, .int .i64 t, .int .i64 s, .int .i64 q, .int .i64 n, .string sum, .string text, .bool right, .slice A8 cx.length c8] cq V → Kd.R k74 74 wc w.heap.size (fun _ => True) (.slice A3 ns.length c3) ns →
      Calls Try.prog 38 #[.pointer (some ⟨g, 0, none⟩), .int .i64 t, .int .i64 s, .string ans, .slice A3 ns.length c3, .slice A8 cx.length c8] wc fun e w' => e = .returned (.tuple #[i74 pr, .int .i64 pr.1]) ∧ Out wc w' g cq (prvV V t s R) := by
    intro wc A3 c3 hM hR
    rw [← hpr]
    refine d_prove hM.2.2.2 t s ans cx A8 c8 ns A3 c3 pf R ((HLO.out.below hM.2.1.1).but hM.2.2.2.1.lt) (fun W' row hk hrow => ?_) HL.out cx1 HPR.out.1 HPR.out.2.1 HPR.out.2.2.1 HPR.out.2.2.2
    refine (Kd.R_reads' (Kd.R_step (Kd.R_bound hR) (w1 := W') (fun k h1 hlt => hk.2 k hlt (fun e => ?_) (fun e => ?_)))).2.2
    · have h2 := h1.2.1
      have h3 := HGW.out
      omega
    · have h2 := hrow k e.symm
      rw [hc0 k h1.2.1] at h2
      omega
  have hXR : ∀ (w3 wc : World) (A3 : Option Addr) (c3 : Nat) (ob : Option Nat), Q19 cq w w3 wc g xs #[.int .i64 3, .int .i64 t, .int .i64 s, .int .i64 q, .int .i64 n, .string sum, .string text, .bool right, .slice A8 cx.length c8] xs (prvV V t s R) U ob → Kd.R k74 74 wc 0 (fun _ => True) (.slice A3 ns.length c3) ns →
      Calls Try.prog 75 #[.agg xs, .int .i64 t, .int .i64 s, .string ans, .slice A3 ns.length c3, .slice A8 cx.length c8] wc fun e w' => ∃ ys, e = .returned (.tuple #[.agg ys, i74 pr2, .int .i64 pr2.1]) ∧ Below wc.heap.size wc w' ∧ Q19 cq w w3 w' g xs #[.int .i64 3, .int .i64 t, .int .i64 s, .int .i64 q, .int .i64 n, .string sum, .string text, .bool right, .slice A8 cx.length c8] ys (prvV V t s R) (prvV U t s R2) ob := by
    intro w3 wc A3 c3 ob hQ hR
    rw [← hpr2]
    obtain ⟨h1, h2, h3, cs', col', hD', hX', ho⟩ := hQ
    have hr := Kd.R_reads' hR
    refine (HXP.out wc xs col' A3 c3 A8 c8 hX' hr.2.2 hr.2.1 (HLO.out.below h2.1).now).mono ?_
    rintro e w' ⟨ys, rfl, hb, hx⟩
    exact ⟨ys, rfl, hb, Q19.call h1 h2 h3 hD' ho hb hx⟩
  have HPV := Lib.hid hProve
  have HXR := Lib.hid hXR
  have HMq := Lib.hid hMq
  have HXq := Lib.hid hXq
  have HPE := Lib.hid (And.intro hpr hpr2)
  have HEE := Lib.hid hee
  have HC0 := Lib.hid hc0
  clear hProve hXR hMq hXq hpr hpr2 hee hc0 hbc HX HD HT HCT
  go_wp2_with fail
  have hMd := HMq.out.below (Below.refl wq.heap.size wq).drew
  refine start_ (n := 19) (S := SOps (w.heap.size + 1) #[.int .i64 3, .int .i64 t, .int .i64 s, .int .i64 q, .int .i64 n, .string sum, .string text, .bool right, .slice A8 cx.length c8] t s (.slice A8 cx.length c8)) (ds := []) (Ra_ [0, 19]) (by kernel_rfl) rfl rfl (sops hMd.1.2.1 rfl rfl rfl) (fun hHeld => ?_)
  refine pp_ 0 (some 188) (Ra_ [1, 18]) (h := ?_)
  refine pp_ 1 (some 189) (Ra_ [2, 17]) (h := ?_)
  refine take_ (i := 2) (N := some 190) (Ra_ [3, 16]) rfl rfl (by kernel_rfl) (fun _ _ _ h => h) (Or.inl ⟨by rfl, by rintro w' ⟨_, s0, s1, s2⟩; go_simp; with_reducible rfl⟩) hHeld (by simp only [Act.put, sA_, sB_, sC_]; rfl) ?_
  refine pp_ 3 (some 191) (Ra_ [4, 15]) (h := ?_)
  refine take_ (i := 4) (N := some 192) (Ra_ [5, 14]) rfl rfl (by kernel_rfl) (fun _ _ _ h => h) (Or.inl ⟨by rfl, by rintro w' ⟨_, s0, s1, s2⟩; go_simp; with_reducible rfl⟩) hHeld (by simp only [Act.put, sA_, sB_, sC_]; rfl) ?_
  refine pp_ 5 (some 193) (Ra_ [6, 13]) (h := ?_)
  refine pp_ 6 (some 194) (Ra_ [7, 12]) (h := ?_)
  refine take_ (i := 7) (N := some 195) (Ra_ [8, 11]) rfl rfl (by kernel_rfl) (fun _ _ _ h => h) (Or.inl ⟨by rfl, by rintro w' ⟨_, s0, s1, s2⟩; go_simp; with_reducible rfl⟩) hHeld (by simp only [Act.put, sA_, sB_, sC_]; rfl) ?_
  refine pp_ 8 (some 196) (Ra_ [9, 10]) (h := ?_)
  refine pp_ 10 (some 198) (Ra_ [9, 1, 1, 8]) (h := ?_)
  refine take_ (i := 11) (N := some 199) (Ra_ [9, 1, 2, 7]) rfl rfl (by kernel_rfl) (fun _ _ _ h => h) (Or.inl ⟨by rfl, by rintro w' ⟨_, s0, s1, s2⟩; go_simp; with_reducible rfl⟩) hHeld (by simp only [Act.put, sA_, sB_, sC_]; rfl) ?_
  refine join_ (σ := Nat × Option Addr × Nat) 2 (Ra_ [17, 2]) (fun x => [(197, .slice x.2.1 ns.length x.2.2), (200, .tuple #[i74 pr, .int .i64 pr.1]), (187, .tuple #[i74 pr, .int .i64 pr.1]), (201, i74 pr), (202, .int .i64 pr.1), (23, .pointer (some ⟨x.1, 0, none⟩))]) (fun x w' => Aft w wq w' g xs #[.int .i64 3, .int .i64 t, .int .i64 s, .int .i64 q, .int .i64 n, .string sum, .string text, .bool right, .slice A8 cx.length c8] cq (prvV V t s R) x.1) ?_ ?_
  rotate_left
  · intro hCont
    refine two_ (i := 9) (j := 16) (Ni := some 197) (Nj := some 23) (Ra_ [12, 7]) (Ra_ [9, 1, 2, 4, 1, 2]) rfl rfl rfl rfl (by kernel_rfl) (by decide) (by decide) (fun K hK => ?_) (fun K hK => ?_)
    · skip
      refine goes_ Try.func39 (by kernel_rfl) rfl #[.int .i64 (cx.length : Int)] (by rfl) rfl rfl (by (try simp only [List.map_toArray, List.map_cons, List.map_nil]); first | done | rfl) ?_
      refine (strongroomlaw27_ids.calls ki _ ns _ HIDS.out).mono ?_
      rintro e w11 ⟨v3, rfl, hr11, hb11⟩
      obtain ⟨A3, c3, rfl⟩ := Kd.R_slice hr11
      refine ⟨_, rfl, ?_⟩
      have hM11 := hMd.below hb11
      have hR11 := Kd.R_lower hr11 (base' := w.heap.size) (Nat.le_trans (show w.heap.size ≤ wq.heap.size by omega) hMd.2.2.1.size)
      refine hK.out _ _ (sops hM11.1.2.1 rfl rfl rfl) (fun hHeld => ?_)
      refine two_ (i := 12) (j := 16) (Ni := some 200) (Nj := some 23) (Ra_ [13, 6]) (Ra_ [12, 4, 1, 2]) rfl rfl rfl rfl (by kernel_rfl) (by decide) (by decide) (fun K hK => ?_) (fun K hK => ?_)
      · skip
        refine goes_ Try.func38 (by kernel_rfl) rfl #[.pointer (some ⟨g, 0, none⟩), .int .i64 t, .int .i64 s, .string ans, .slice A3 ns.length c3, .slice A8 cx.length c8] (by rfl) rfl rfl (by (try simp only [List.map_toArray, List.map_cons, List.map_nil]); first | done | rfl) ?_
        refine (HPV.out _ A3 c3 hM11 hR11).mono ?_
        rintro e w12 ⟨rfl, hO12⟩
        refine ⟨_, rfl, ?_⟩
        refine hK.out _ _ (sops (hO12.blk hM11.1.2.1 (HC0.out _ (by omega))) rfl rfl rfl) (fun hHeld => ?_)
        refine pp_ 13 (some 187) (Ra_ [14, 5]) (h := ?_)
        refine pp_ 14 (some 201) (Ra_ [15, 4]) (h := ?_)
        refine pp_ 15 (some 202) (Ra_ [16, 3]) (h := ?_)
        refine one_ (i := 16) (N := some 23) (Ra_ [17, 2]) rfl rfl (by kernel_rfl) (by decide) (fun K hK => ?_)
        refine value_ (by rfl) rfl (al74 _ rfl _ _) ?_
        have hA := aft_late hM11 HC0.out hO12
        refine hK.out _ _ (sops hA.2.2.1.2.1 rfl rfl rfl) (fun hHeld => ?_)
        exact norm_ (by first | (simp only [putAll, Act.put, sA_, sB_, sC_]; done) | (simp only [putAll, Act.put, sA_, sB_, sC_]; rfl)) (hCont (_, A3, c3) _ hA)
      · skip
        refine value_ (by rfl) rfl (al74 _ rfl _ _) ?_
        have hM12 := hM11.below (below_allocW w11 (.cells #[.string ⟨#[]⟩, .int .i64 0] 74))
        have hP12 : Blk (w11.alloc (.cells #[.string ⟨#[]⟩, .int .i64 0] 74)) w11.heap.size 74 #[.string ⟨#[]⟩, .int .i64 0] := Blk.new _ _ _
        have hp : wq.heap.size ≤ w11.heap.size := hM11.2.2.1.size
        have hR12 := Kd.R_below hR11 (below_allocW w11 (.cells #[.string ⟨#[]⟩, .int .i64 0] 74))
        refine hK.out _ _ (sops hM12.1.2.1 rfl rfl rfl) (fun hHeld => ?_)
        refine one_ (i := 12) (N := some 200) (Ra_ [13, 3, 1, 2]) rfl rfl (by kernel_rfl) (by decide) (fun K hK => ?_)
        refine goes_ Try.func38 (by kernel_rfl) rfl #[.pointer (some ⟨g, 0, none⟩), .int .i64 t, .int .i64 s, .string ans, .slice A3 ns.length c3, .slice A8 cx.length c8] (by rfl) rfl rfl (by (try simp only [List.map_toArray, List.map_cons, List.map_nil]); first | done | rfl) ?_
        refine (HPV.out _ A3 c3 hM12 hR12).mono ?_
        rintro e w13 ⟨rfl, hO13⟩
        refine ⟨_, rfl, ?_⟩
        have hA := aft_early hM12 HC0.out (by omega) hp hP12 hO13
        refine hK.out _ _ (sops hA.2.2.1.2.1 rfl rfl rfl) (fun hHeld => ?_)
        refine pp_ 13 (some 187) (Ra_ [14, 2, 1, 2]) (h := ?_)
        refine pp_ 14 (some 201) (Ra_ [15, 1, 1, 2]) (h := ?_)
        refine pp_ 15 (some 202) (Ra_ [17, 2]) (h := ?_)
        exact norm_ (by first | (simp only [putAll, Act.put, sA_, sB_, sC_]; done) | (simp only [putAll, Act.put, sA_, sB_, sC_]; rfl)) (hCont (_, A3, c3) _ hA)
    · skip
      refine value_ (by rfl) rfl (al74 _ rfl _ _) ?_
      have hM11 := hMd.below (below_allocW wq.drew (.cells #[.string ⟨#[]⟩, .int .i64 0] 74))
      have hP11 : Blk (wq.drew.alloc (.cells #[.string ⟨#[]⟩, .int .i64 0] 74)) wq.drew.heap.size 74 #[.string ⟨#[]⟩, .int .i64 0] := Blk.new _ _ _
      have hp : wq.heap.size ≤ wq.drew.heap.size := hMd.2.2.1.size
      refine hK.out _ _ (sops hM11.1.2.1 rfl rfl rfl) (fun hHeld => ?_)
      refine one_ (i := 9) (N := some 197) (Ra_ [12, 4, 1, 2]) rfl rfl (by kernel_rfl) (by decide) (fun K hK => ?_)
      refine goes_ Try.func39 (by kernel_rfl) rfl #[.int .i64 (cx.length : Int)] (by rfl) rfl rfl (by (try simp only [List.map_toArray, List.map_cons, List.map_nil]); first | done | rfl) ?_
      refine (strongroomlaw27_ids.calls ki _ ns _ HIDS.out).mono ?_
      rintro e w12 ⟨v3, rfl, hr12, hb12⟩
      obtain ⟨A3, c3, rfl⟩ := Kd.R_slice hr12
      refine ⟨_, rfl, ?_⟩
      have hM12 := hM11.below hb12
      have hR12 := Kd.R_lower hr12 (base' := w.heap.size) (Nat.le_trans (show w.heap.size ≤ wq.heap.size by omega) hM11.2.2.1.size)
      have hP12 := hP11.below hb12 hP11.lt
      refine hK.out _ _ (sops hM12.1.2.1 rfl rfl rfl) (fun hHeld => ?_)
      refine one_ (i := 12) (N := some 200) (Ra_ [13, 3, 1, 2]) rfl rfl (by kernel_rfl) (by decide) (fun K hK => ?_)
      refine goes_ Try.func38 (by kernel_rfl) rfl #[.pointer (some ⟨g, 0, none⟩), .int .i64 t, .int .i64 s, .string ans, .slice A3 ns.length c3, .slice A8 cx.length c8] (by rfl) rfl rfl (by (try simp only [List.map_toArray, List.map_cons, List.map_nil]); first | done | rfl) ?_
      refine (HPV.out _ A3 c3 hM12 hR12).mono ?_
      rintro e w13 ⟨rfl, hO13⟩
      refine ⟨_, rfl, ?_⟩
      have hA := aft_early hM12 HC0.out (by omega) hp hP12 hO13
      refine hK.out _ _ (sops hA.2.2.1.2.1 rfl rfl rfl) (fun hHeld => ?_)
      refine pp_ 13 (some 187) (Ra_ [14, 2, 1, 2]) (h := ?_)
      refine pp_ 14 (some 201) (Ra_ [15, 1, 1, 2]) (h := ?_)
      refine pp_ 15 (some 202) (Ra_ [17, 2]) (h := ?_)
      exact norm_ (by first | (simp only [putAll, Act.put, sA_, sB_, sC_]; done) | (simp only [putAll, Act.put, sA_, sB_, sC_]; rfl)) (hCont (_, A3, c3) _ hA)
  rintro ⟨p, A3, c3⟩ w' hA
  refine norm_ (a' := ?_) ?_ ?_
  rotate_left
  · simp only [putAll, Act.put, sA_, sB_, sC_]
    rfl
  have hgw := HGW.out
  refine one_ (i := 17) (N := none) (Ra_ [18, 1]) rfl rfl (by kernel_rfl) (by decide) (fun K hK => ?_)
  rw [if_pos (by rfl)]
  refine wp_store_row 74 _ _ rfl p #[.string pr.2.f0, .int .i64 pr.2.f1] rfl rfl _ _ hA.2.1 (by kernel_rfl) rfl (by simp [Value.oneCell']) ?_
  have hNd := aft_store (ys := #[.string pr.2.f0, .int .i64 pr.2.f1]) hA HXq.out hgw hszq
  have hPd : Blk (w'.setRow p #[.string pr.2.f0, .int .i64 pr.2.f1]) p 74 #[.string pr.2.f0, .int .i64 pr.2.f1] := blk_row hA.2.1 rfl
  refine hK.out _ _ (sops hNd.1.2.1 rfl rfl rfl) (fun hHeld => ?_)
  refine pp_ 18 (some 24) (Ra_ [19]) (h := ?_)
  refine done_ (by kernel_rfl) ?_
  have hpw : w.heap.size + 1 + 1 < p := by have := hA.1; omega
  clear hA hHeld hK HXq HMq hMd hszq HPV
  go_wp2_with fail
  refine abs_world ?_
  intro w3 hw3
  rw [← hw3] at hNd hPd
  clear hw3
  have HPd := Lib.hid hPd
  obtain ⟨hbox3, hbl3, cs3, col3, hD3, hX3⟩ := hNd
  have hpl : p < w3.heap.size := hPd.lt
  have hsz3 : w.heap.size + 1 + 1 < w3.heap.size := hbox3.2.2.lt
  have HZ3 := Lib.hid (And.intro hX3.1 hX3.2.1)
  have hQ : Q19 cq w w3 w3.drew g xs #[.int .i64 3, .int .i64 t, .int .i64 s, .int .i64 q, .int .i64 n, .string sum, .string text, .bool right, .slice A8 cx.length c8] xs (prvV V t s R) U none := by
    refine Q19.below ?_ (Below.refl w3.heap.size w3).drew
    exact ⟨hbox3, hbl3, Below.refl _ _, cs3, col3, hD3, hX3, fun b e => by cases e⟩
  have HQ := Lib.hid hQ
  clear hbl3 hD3 hX3 hPd
  refine start_ (n := 22) (S := (fun w' => Blk w' w.heap.size 90 xs ∧ SOps (w.heap.size + 1) #[.int .i64 3, .int .i64 t, .int .i64 s, .int .i64 q, .int .i64 n, .string sum, .string text, .bool right, .slice A8 cx.length c8] t s (.slice A8 cx.length c8) w')) (ds := []) (Ra_ [0, 22]) (by kernel_rfl) rfl rfl (⟨hQ.1.1, sops hQ.1.2.1 rfl rfl rfl⟩) (fun hHeld => ?_)
  clear hQ hbox3
  refine take_ (i := 0) (N := some 204) (Ra_ [1, 21]) rfl rfl (by kernel_rfl) (fun _ _ _ h => h) (yields_row rfl _ _ rfl w.heap.size rfl _ xs _ (fun _ h => h.1) Try.underlying90 rfl (by rw [HZ.out.1]; exact info90)) hHeld (by simp only [Act.put, sA_, sB_, sC_]; rfl) ?_
  refine pp_ 1 (some 205) (Ra_ [2, 20]) (h := ?_)
  refine take_ (i := 2) (N := some 206) (Ra_ [3, 19]) rfl rfl (by kernel_rfl) (fun _ _ _ h => h) (Or.inl ⟨by rfl, by rintro w' ⟨_, _, s0, s1, s2⟩; go_simp; with_reducible rfl⟩) hHeld (by simp only [Act.put, sA_, sB_, sC_]; rfl) ?_
  refine pp_ 3 (some 207) (Ra_ [4, 18]) (h := ?_)
  refine take_ (i := 4) (N := some 208) (Ra_ [5, 17]) rfl rfl (by kernel_rfl) (fun _ _ _ h => h) (Or.inl ⟨by rfl, by rintro w' ⟨_, _, s0, s1, s2⟩; go_simp; with_reducible rfl⟩) hHeld (by simp only [Act.put, sA_, sB_, sC_]; rfl) ?_
  refine pp_ 5 (some 209) (Ra_ [6, 16]) (h := ?_)
  refine pp_ 6 (some 210) (Ra_ [7, 15]) (h := ?_)
  refine take_ (i := 7) (N := some 211) (Ra_ [8, 14]) rfl rfl (by kernel_rfl) (fun _ _ _ h => h) (Or.inl ⟨by rfl, by rintro w' ⟨_, _, s0, s1, s2⟩; go_simp; with_reducible rfl⟩) hHeld (by simp only [Act.put, sA_, sB_, sC_]; rfl) ?_
  refine pp_ 8 (some 212) (Ra_ [9, 13]) (h := ?_)
  refine pp_ 10 (some 214) (Ra_ [9, 1, 1, 11]) (h := ?_)
  refine take_ (i := 11) (N := some 215) (Ra_ [9, 1, 2, 10]) rfl rfl (by kernel_rfl) (fun _ _ _ h => h) (Or.inl ⟨by rfl, by rintro w' ⟨_, _, s0, s1, s2⟩; go_simp; with_reducible rfl⟩) hHeld (by simp only [Act.put, sA_, sB_, sC_]; rfl) ?_
  refine join_ (σ := (Option Addr × Nat) × Array Value × Nat × Nat) 3 (Ra_ [19, 3]) (fun x => [(213, .slice x.1.1 ns.length x.1.2), (216, .tuple #[.agg x.2.1, i74 pr2, .int .i64 pr2.1]), (203, .tuple #[.agg x.2.1, i74 pr2, .int .i64 pr2.1]), (217, .agg x.2.1), (218, i74 pr2), (219, .int .i64 pr2.1), (25, .pointer (some ⟨x.2.2.1, 0, none⟩)), (26, .pointer (some ⟨x.2.2.2, 0, none⟩))])
    (fun x w' => Q19 cq w w3 w' g xs #[.int .i64 3, .int .i64 t, .int .i64 s, .int .i64 q, .int .i64 n, .string sum, .string text, .bool right, .slice A8 cx.length c8] x.2.1 (prvV V t s R) (prvV U t s R2) (some x.2.2.2) ∧ w3.heap.size ≤ x.2.2.1 ∧ Blk w' x.2.2.1 90 Try.zeroCells90 ∧ Blk w' x.2.2.2 74 #[.string ⟨#[]⟩, .int .i64 0]) ?_ ?_
  rotate_left
  · intro hCont
    have hQ20 := HQ.out
    refine three_ (i := 9) (j := 17) (k := 18) (Ni := some 213) (Nj := some 25) (Nk := some 26) (Ra_ [12, 10]) (Ra_ [9, 1, 2, 5, 1, 4]) (Ra_ [9, 1, 2, 6, 1, 3]) rfl rfl rfl rfl rfl rfl (by kernel_rfl) (by decide) (by decide) (by decide) (fun K hK => ?_) (fun K hK => ?_) (fun K hK => ?_)
    · skip
      refine goes_ Try.func39 (by kernel_rfl) rfl #[.int .i64 (cx.length : Int)] (by rfl) rfl rfl (by (try simp only [List.map_toArray, List.map_cons, List.map_nil]); first | done | rfl) ?_
      refine (strongroomlaw27_ids.calls ki _ ns _ HIDS.out).mono ?_
      rintro e w21 ⟨v3, rfl, hr21, hb21⟩
      obtain ⟨A3, c3, rfl⟩ := Kd.R_slice hr21
      refine ⟨_, rfl, ?_⟩
      have hQ21 := hQ20.below hb21
      have hR21 := Kd.R_lower hr21 (base' := 0) (Nat.zero_le _)
      refine hK.out _ _ ⟨hQ21.1.1, sops hQ21.1.2.1 rfl rfl rfl⟩ (fun hHeld => ?_)
      refine three_ (i := 12) (j := 17) (k := 18) (Ni := some 216) (Nj := some 25) (Nk := some 26) (Ra_ [13, 9]) (Ra_ [12, 5, 1, 4]) (Ra_ [12, 6, 1, 3]) rfl rfl rfl rfl rfl rfl (by kernel_rfl) (by decide) (by decide) (by decide) (fun K hK => ?_) (fun K hK => ?_) (fun K hK => ?_)
      · skip
        refine goes_ Try.func75 (by kernel_rfl) rfl #[.agg xs, .int .i64 t, .int .i64 s, .string ans, .slice A3 ns.length c3, .slice A8 cx.length c8] (by rfl) rfl rfl (by (try simp only [List.map_toArray, List.map_cons, List.map_nil]); first | done | rfl) ?_
        refine (HXR.out _ _ A3 c3 _ hQ21 hR21).mono ?_
        rintro e w22 ⟨ys, rfl, hb22, hQ22⟩
        refine ⟨_, rfl, ?_⟩
        have hR22 := Kd.R_below hR21 hb22
        refine hK.out _ _ ⟨hQ22.1.1, sops hQ22.1.2.1 rfl rfl rfl⟩ (fun hHeld => ?_)
        refine pp_ 13 (some 203) (Ra_ [14, 8]) (h := ?_)
        refine pp_ 14 (some 217) (Ra_ [15, 7]) (h := ?_)
        refine pp_ 15 (some 218) (Ra_ [16, 6]) (h := ?_)
        refine pp_ 16 (some 219) (Ra_ [17, 5]) (h := ?_)
        refine two_ (i := 17) (j := 18) (Ni := some 25) (Nj := some 26) (Ra_ [18, 4]) (Ra_ [17, 1, 1, 3]) rfl rfl rfl rfl (by kernel_rfl) (by decide) (by decide) (fun K hK => ?_) (fun K hK => ?_)
        · skip
          refine value_ (by rfl) rfl (al90 _ rfl _ _) ?_
          have hQ23 := hQ22.below (below_allocW w22 (.cells Try.zeroCells90 90))
          have hE0 : w3.heap.size ≤ w22.heap.size := hQ22.2.2.1.size
          have hR23 := Kd.R_below hR22 (below_allocW w22 (.cells Try.zeroCells90 90))
          have hE23 : Blk (w22.alloc (.cells Try.zeroCells90 90)) w22.heap.size 90 Try.zeroCells90 := Blk.new _ _ _
          refine hK.out _ _ ⟨hQ23.1.1, sops hQ23.1.2.1 rfl rfl rfl⟩ (fun hHeld => ?_)
          refine one_ (i := 18) (N := some 26) (Ra_ [19, 3]) rfl rfl (by kernel_rfl) (by decide) (fun K hK => ?_)
          refine value_ (by rfl) rfl (al74 _ rfl _ _) ?_
          have hQ24 := hQ23.new (.cells #[.string ⟨#[]⟩, .int .i64 0] 74)
          have hR24 := Kd.R_below hR23 (below_allocW (w22.alloc (.cells Try.zeroCells90 90)) (.cells #[.string ⟨#[]⟩, .int .i64 0] 74))
          have hE24 := hE23.below (below_allocW (w22.alloc (.cells Try.zeroCells90 90)) (.cells #[.string ⟨#[]⟩, .int .i64 0] 74)) hE23.lt
          have hF24 : Blk ((w22.alloc (.cells Try.zeroCells90 90)).alloc (.cells #[.string ⟨#[]⟩, .int .i64 0] 74)) (w22.alloc (.cells Try.zeroCells90 90)).heap.size 74 #[.string ⟨#[]⟩, .int .i64 0] := Blk.new _ _ _
          refine hK.out _ _ ⟨hQ24.1.1, sops hQ24.1.2.1 rfl rfl rfl⟩ (fun hHeld => ?_)
          exact norm_ (by first | (simp only [putAll, Act.put, sA_, sB_, sC_]; done) | (simp only [putAll, Act.put, sA_, sB_, sC_]; rfl)) (hCont ((A3, c3), ys, _, _) _ ⟨hQ24, hE0, hE24, hF24⟩)
        · skip
          refine value_ (by rfl) rfl (al74 _ rfl _ _) ?_
          have hQ23 := hQ22.new (.cells #[.string ⟨#[]⟩, .int .i64 0] 74)
          have hR23 := Kd.R_below hR22 (below_allocW w22 (.cells #[.string ⟨#[]⟩, .int .i64 0] 74))
          have hF23 : Blk (w22.alloc (.cells #[.string ⟨#[]⟩, .int .i64 0] 74)) w22.heap.size 74 #[.string ⟨#[]⟩, .int .i64 0] := Blk.new _ _ _
          refine hK.out _ _ ⟨hQ23.1.1, sops hQ23.1.2.1 rfl rfl rfl⟩ (fun hHeld => ?_)
          refine one_ (i := 17) (N := some 25) (Ra_ [19, 3]) rfl rfl (by kernel_rfl) (by decide) (fun K hK => ?_)
          refine value_ (by rfl) rfl (al90 _ rfl _ _) ?_
          have hQ24 := hQ23.below (below_allocW (w22.alloc (.cells #[.string ⟨#[]⟩, .int .i64 0] 74)) (.cells Try.zeroCells90 90))
          have hE0 : w3.heap.size ≤ (w22.alloc (.cells #[.string ⟨#[]⟩, .int .i64 0] 74)).heap.size := hQ23.2.2.1.size
          have hR24 := Kd.R_below hR23 (below_allocW (w22.alloc (.cells #[.string ⟨#[]⟩, .int .i64 0] 74)) (.cells Try.zeroCells90 90))
          have hF24 := hF23.below (below_allocW (w22.alloc (.cells #[.string ⟨#[]⟩, .int .i64 0] 74)) (.cells Try.zeroCells90 90)) hF23.lt
          have hE24 : Blk ((w22.alloc (.cells #[.string ⟨#[]⟩, .int .i64 0] 74)).alloc (.cells Try.zeroCells90 90)) (w22.alloc (.cells #[.string ⟨#[]⟩, .int .i64 0] 74)).heap.size 90 Try.zeroCells90 := Blk.new _ _ _
          refine hK.out _ _ ⟨hQ24.1.1, sops hQ24.1.2.1 rfl rfl rfl⟩ (fun hHeld => ?_)
          exact norm_ (by first | (simp only [putAll, Act.put, sA_, sB_, sC_]; done) | (simp only [putAll, Act.put, sA_, sB_, sC_]; rfl)) (hCont ((A3, c3), ys, _, _) _ ⟨hQ24, hE0, hE24, hF24⟩)
      · skip
        refine value_ (by rfl) rfl (al90 _ rfl _ _) ?_
        have hQ22 := hQ21.below (below_allocW w21 (.cells Try.zeroCells90 90))
        have hE0 : w3.heap.size ≤ w21.heap.size := hQ21.2.2.1.size
        have hR22 := Kd.R_below hR21 (below_allocW w21 (.cells Try.zeroCells90 90))
        have hE22 : Blk (w21.alloc (.cells Try.zeroCells90 90)) w21.heap.size 90 Try.zeroCells90 := Blk.new _ _ _
        refine hK.out _ _ ⟨hQ22.1.1, sops hQ22.1.2.1 rfl rfl rfl⟩ (fun hHeld => ?_)
        refine two_ (i := 12) (j := 18) (Ni := some 216) (Nj := some 26) (Ra_ [13, 4, 1, 4]) (Ra_ [12, 5, 2, 3]) rfl rfl rfl rfl (by kernel_rfl) (by decide) (by decide) (fun K hK => ?_) (fun K hK => ?_)
        · skip
          refine goes_ Try.func75 (by kernel_rfl) rfl #[.agg xs, .int .i64 t, .int .i64 s, .string ans, .slice A3 ns.length c3, .slice A8 cx.length c8] (by rfl) rfl rfl (by (try simp only [List.map_toArray, List.map_cons, List.map_nil]); first | done | rfl) ?_
          refine (HXR.out _ _ A3 c3 _ hQ22 hR22).mono ?_
          rintro e w23 ⟨ys, rfl, hb23, hQ23⟩
          refine ⟨_, rfl, ?_⟩
          have hR23 := Kd.R_below hR22 hb23
          have hE23 := hE22.below hb23 hE22.lt
          refine hK.out _ _ ⟨hQ23.1.1, sops hQ23.1.2.1 rfl rfl rfl⟩ (fun hHeld => ?_)
          refine pp_ 13 (some 203) (Ra_ [14, 3, 1, 4]) (h := ?_)
          refine pp_ 14 (some 217) (Ra_ [15, 2, 1, 4]) (h := ?_)
          refine pp_ 15 (some 218) (Ra_ [16, 1, 1, 4]) (h := ?_)
          refine pp_ 16 (some 219) (Ra_ [18, 4]) (h := ?_)
          refine one_ (i := 18) (N := some 26) (Ra_ [19, 3]) rfl rfl (by kernel_rfl) (by decide) (fun K hK => ?_)
          refine value_ (by rfl) rfl (al74 _ rfl _ _) ?_
          have hQ24 := hQ23.new (.cells #[.string ⟨#[]⟩, .int .i64 0] 74)
          have hR24 := Kd.R_below hR23 (below_allocW w23 (.cells #[.string ⟨#[]⟩, .int .i64 0] 74))
          have hE24 := hE23.below (below_allocW w23 (.cells #[.string ⟨#[]⟩, .int .i64 0] 74)) hE23.lt
          have hF24 : Blk (w23.alloc (.cells #[.string ⟨#[]⟩, .int .i64 0] 74)) w23.heap.size 74 #[.string ⟨#[]⟩, .int .i64 0] := Blk.new _ _ _
          refine hK.out _ _ ⟨hQ24.1.1, sops hQ24.1.2.1 rfl rfl rfl⟩ (fun hHeld => ?_)
          exact norm_ (by first | (simp only [putAll, Act.put, sA_, sB_, sC_]; done) | (simp only [putAll, Act.put, sA_, sB_, sC_]; rfl)) (hCont ((A3, c3), ys, _, _) _ ⟨hQ24, hE0, hE24, hF24⟩)
        · skip
          refine value_ (by rfl) rfl (al74 _ rfl _ _) ?_
          have hQ23 := hQ22.new (.cells #[.string ⟨#[]⟩, .int .i64 0] 74)
          have hR23 := Kd.R_below hR22 (below_allocW (w21.alloc (.cells Try.zeroCells90 90)) (.cells #[.string ⟨#[]⟩, .int .i64 0] 74))
          have hE23 := hE22.below (below_allocW (w21.alloc (.cells Try.zeroCells90 90)) (.cells #[.string ⟨#[]⟩, .int .i64 0] 74)) hE22.lt
          have hF23 : Blk ((w21.alloc (.cells Try.zeroCells90 90)).alloc (.cells #[.string ⟨#[]⟩, .int .i64 0] 74)) (w21.alloc (.cells Try.zeroCells90 90)).heap.size 74 #[.string ⟨#[]⟩, .int .i64 0] := Blk.new _ _ _
          refine hK.out _ _ ⟨hQ23.1.1, sops hQ23.1.2.1 rfl rfl rfl⟩ (fun hHeld => ?_)
          refine one_ (i := 12) (N := some 216) (Ra_ [13, 4, 2, 3]) rfl rfl (by kernel_rfl) (by decide) (fun K hK => ?_)
          refine goes_ Try.func75 (by kernel_rfl) rfl #[.agg xs, .int .i64 t, .int .i64 s, .string ans, .slice A3 ns.length c3, .slice A8 cx.length c8] (by rfl) rfl rfl (by (try simp only [List.map_toArray, List.map_cons, List.map_nil]); first | done | rfl) ?_
          refine (HXR.out _ _ A3 c3 _ hQ23 hR23).mono ?_
          rintro e w24 ⟨ys, rfl, hb24, hQ24⟩
          refine ⟨_, rfl, ?_⟩
          have hR24 := Kd.R_below hR23 hb24
          have hE24 := hE23.below hb24 hE23.lt
          have hF24 := hF23.below hb24 hF23.lt
          refine hK.out _ _ ⟨hQ24.1.1, sops hQ24.1.2.1 rfl rfl rfl⟩ (fun hHeld => ?_)
          refine pp_ 13 (some 203) (Ra_ [14, 3, 2, 3]) (h := ?_)
          refine pp_ 14 (some 217) (Ra_ [15, 2, 2, 3]) (h := ?_)
          refine pp_ 15 (some 218) (Ra_ [16, 1, 2, 3]) (h := ?_)
          refine pp_ 16 (some 219) (Ra_ [19, 3]) (h := ?_)
          exact norm_ (by first | (simp only [putAll, Act.put, sA_, sB_, sC_]; done) | (simp only [putAll, Act.put, sA_, sB_, sC_]; rfl)) (hCont ((A3, c3), ys, _, _) _ ⟨hQ24, hE0, hE24, hF24⟩)
      · skip
        refine value_ (by rfl) rfl (al74 _ rfl _ _) ?_
        have hQ22 := hQ21.new (.cells #[.string ⟨#[]⟩, .int .i64 0] 74)
        have hR22 := Kd.R_below hR21 (below_allocW w21 (.cells #[.string ⟨#[]⟩, .int .i64 0] 74))
        have hF22 : Blk (w21.alloc (.cells #[.string ⟨#[]⟩, .int .i64 0] 74)) w21.heap.size 74 #[.string ⟨#[]⟩, .int .i64 0] := Blk.new _ _ _
        refine hK.out _ _ ⟨hQ22.1.1, sops hQ22.1.2.1 rfl rfl rfl⟩ (fun hHeld => ?_)
        refine two_ (i := 12) (j := 17) (Ni := some 216) (Nj := some 25) (Ra_ [13, 5, 1, 3]) (Ra_ [12, 5, 2, 3]) rfl rfl rfl rfl (by kernel_rfl) (by decide) (by decide) (fun K hK => ?_) (fun K hK => ?_)
        · skip
          refine goes_ Try.func75 (by kernel_rfl) rfl #[.agg xs, .int .i64 t, .int .i64 s, .string ans, .slice A3 ns.length c3, .slice A8 cx.length c8] (by rfl) rfl rfl (by (try simp only [List.map_toArray, List.map_cons, List.map_nil]); first | done | rfl) ?_
          refine (HXR.out _ _ A3 c3 _ hQ22 hR22).mono ?_
          rintro e w23 ⟨ys, rfl, hb23, hQ23⟩
          refine ⟨_, rfl, ?_⟩
          have hR23 := Kd.R_below hR22 hb23
          have hF23 := hF22.below hb23 hF22.lt
          refine hK.out _ _ ⟨hQ23.1.1, sops hQ23.1.2.1 rfl rfl rfl⟩ (fun hHeld => ?_)
          refine pp_ 13 (some 203) (Ra_ [14, 4, 1, 3]) (h := ?_)
          refine pp_ 14 (some 217) (Ra_ [15, 3, 1, 3]) (h := ?_)
          refine pp_ 15 (some 218) (Ra_ [16, 2, 1, 3]) (h := ?_)
          refine pp_ 16 (some 219) (Ra_ [17, 1, 1, 3]) (h := ?_)
          refine one_ (i := 17) (N := some 25) (Ra_ [19, 3]) rfl rfl (by kernel_rfl) (by decide) (fun K hK => ?_)
          refine value_ (by rfl) rfl (al90 _ rfl _ _) ?_
          have hQ24 := hQ23.below (below_allocW w23 (.cells Try.zeroCells90 90))
          have hE0 : w3.heap.size ≤ w23.heap.size := hQ23.2.2.1.size
          have hR24 := Kd.R_below hR23 (below_allocW w23 (.cells Try.zeroCells90 90))
          have hF24 := hF23.below (below_allocW w23 (.cells Try.zeroCells90 90)) hF23.lt
          have hE24 : Blk (w23.alloc (.cells Try.zeroCells90 90)) w23.heap.size 90 Try.zeroCells90 := Blk.new _ _ _
          refine hK.out _ _ ⟨hQ24.1.1, sops hQ24.1.2.1 rfl rfl rfl⟩ (fun hHeld => ?_)
          exact norm_ (by first | (simp only [putAll, Act.put, sA_, sB_, sC_]; done) | (simp only [putAll, Act.put, sA_, sB_, sC_]; rfl)) (hCont ((A3, c3), ys, _, _) _ ⟨hQ24, hE0, hE24, hF24⟩)
        · skip
          refine value_ (by rfl) rfl (al90 _ rfl _ _) ?_
          have hQ23 := hQ22.below (below_allocW (w21.alloc (.cells #[.string ⟨#[]⟩, .int .i64 0] 74)) (.cells Try.zeroCells90 90))
          have hE0 : w3.heap.size ≤ (w21.alloc (.cells #[.string ⟨#[]⟩, .int .i64 0] 74)).heap.size := hQ22.2.2.1.size
          have hR23 := Kd.R_below hR22 (below_allocW (w21.alloc (.cells #[.string ⟨#[]⟩, .int .i64 0] 74)) (.cells Try.zeroCells90 90))
          have hF23 := hF22.below (below_allocW (w21.alloc (.cells #[.string ⟨#[]⟩, .int .i64 0] 74)) (.cells Try.zeroCells90 90)) hF22.lt
          have hE23 : Blk ((w21.alloc (.cells #[.string ⟨#[]⟩, .int .i64 0] 74)).alloc (.cells Try.zeroCells90 90)) (w21.alloc (.cells #[.string ⟨#[]⟩, .int .i64 0] 74)).heap.size 90 Try.zeroCells90 := Blk.new _ _ _
          refine hK.out _ _ ⟨hQ23.1.1, sops hQ23.1.2.1 rfl rfl rfl⟩ (fun hHeld => ?_)
          refine one_ (i := 12) (N := some 216) (Ra_ [13, 4, 2, 3]) rfl rfl (by kernel_rfl) (by decide) (fun K hK => ?_)
          refine goes_ Try.func75 (by kernel_rfl) rfl #[.agg xs, .int .i64 t, .int .i64 s, .string ans, .slice A3 ns.length c3, .slice A8 cx.length c8] (by rfl) rfl rfl (by (try simp only [List.map_toArray, List.map_cons, List.map_nil]); first | done | rfl) ?_
          refine (HXR.out _ _ A3 c3 _ hQ23 hR23).mono ?_
          rintro e w24 ⟨ys, rfl, hb24, hQ24⟩
          refine ⟨_, rfl, ?_⟩
          have hR24 := Kd.R_below hR23 hb24
          have hE24 := hE23.below hb24 hE23.lt
          have hF24 := hF23.below hb24 hF23.lt
          refine hK.out _ _ ⟨hQ24.1.1, sops hQ24.1.2.1 rfl rfl rfl⟩ (fun hHeld => ?_)
          refine pp_ 13 (some 203) (Ra_ [14, 3, 2, 3]) (h := ?_)
          refine pp_ 14 (some 217) (Ra_ [15, 2, 2, 3]) (h := ?_)
          refine pp_ 15 (some 218) (Ra_ [16, 1, 2, 3]) (h := ?_)
          refine pp_ 16 (some 219) (Ra_ [19, 3]) (h := ?_)
          exact norm_ (by first | (simp only [putAll, Act.put, sA_, sB_, sC_]; done) | (simp only [putAll, Act.put, sA_, sB_, sC_]; rfl)) (hCont ((A3, c3), ys, _, _) _ ⟨hQ24, hE0, hE24, hF24⟩)
    · skip
      refine value_ (by rfl) rfl (al90 _ rfl _ _) ?_
      have hQ21 := hQ20.below (below_allocW w3.drew (.cells Try.zeroCells90 90))
      have hE0 : w3.heap.size ≤ w3.drew.heap.size := hQ20.2.2.1.size
      have hE21 : Blk (w3.drew.alloc (.cells Try.zeroCells90 90)) w3.drew.heap.size 90 Try.zeroCells90 := Blk.new _ _ _
      refine hK.out _ _ ⟨hQ21.1.1, sops hQ21.1.2.1 rfl rfl rfl⟩ (fun hHeld => ?_)
      refine two_ (i := 9) (j := 18) (Ni := some 213) (Nj := some 26) (Ra_ [12, 5, 1, 4]) (Ra_ [9, 1, 2, 5, 2, 3]) rfl rfl rfl rfl (by kernel_rfl) (by decide) (by decide) (fun K hK => ?_) (fun K hK => ?_)
      · skip
        refine goes_ Try.func39 (by kernel_rfl) rfl #[.int .i64 (cx.length : Int)] (by rfl) rfl rfl (by (try simp only [List.map_toArray, List.map_cons, List.map_nil]); first | done | rfl) ?_
        refine (strongroomlaw27_ids.calls ki _ ns _ HIDS.out).mono ?_
        rintro e w22 ⟨v3, rfl, hr22, hb22⟩
        obtain ⟨A3, c3, rfl⟩ := Kd.R_slice hr22
        refine ⟨_, rfl, ?_⟩
        have hQ22 := hQ21.below hb22
        have hE22 := hE21.below hb22 hE21.lt
        have hR22 := Kd.R_lower hr22 (base' := 0) (Nat.zero_le _)
        refine hK.out _ _ ⟨hQ22.1.1, sops hQ22.1.2.1 rfl rfl rfl⟩ (fun hHeld => ?_)
        refine two_ (i := 12) (j := 18) (Ni := some 216) (Nj := some 26) (Ra_ [13, 4, 1, 4]) (Ra_ [12, 5, 2, 3]) rfl rfl rfl rfl (by kernel_rfl) (by decide) (by decide) (fun K hK => ?_) (fun K hK => ?_)
        · skip
          refine goes_ Try.func75 (by kernel_rfl) rfl #[.agg xs, .int .i64 t, .int .i64 s, .string ans, .slice A3 ns.length c3, .slice A8 cx.length c8] (by rfl) rfl rfl (by (try simp only [List.map_toArray, List.map_cons, List.map_nil]); first | done | rfl) ?_
          refine (HXR.out _ _ A3 c3 _ hQ22 hR22).mono ?_
          rintro e w23 ⟨ys, rfl, hb23, hQ23⟩
          refine ⟨_, rfl, ?_⟩
          have hR23 := Kd.R_below hR22 hb23
          have hE23 := hE22.below hb23 hE22.lt
          refine hK.out _ _ ⟨hQ23.1.1, sops hQ23.1.2.1 rfl rfl rfl⟩ (fun hHeld => ?_)
          refine pp_ 13 (some 203) (Ra_ [14, 3, 1, 4]) (h := ?_)
          refine pp_ 14 (some 217) (Ra_ [15, 2, 1, 4]) (h := ?_)
          refine pp_ 15 (some 218) (Ra_ [16, 1, 1, 4]) (h := ?_)
          refine pp_ 16 (some 219) (Ra_ [18, 4]) (h := ?_)
          refine one_ (i := 18) (N := some 26) (Ra_ [19, 3]) rfl rfl (by kernel_rfl) (by decide) (fun K hK => ?_)
          refine value_ (by rfl) rfl (al74 _ rfl _ _) ?_
          have hQ24 := hQ23.new (.cells #[.string ⟨#[]⟩, .int .i64 0] 74)
          have hR24 := Kd.R_below hR23 (below_allocW w23 (.cells #[.string ⟨#[]⟩, .int .i64 0] 74))
          have hE24 := hE23.below (below_allocW w23 (.cells #[.string ⟨#[]⟩, .int .i64 0] 74)) hE23.lt
          have hF24 : Blk (w23.alloc (.cells #[.string ⟨#[]⟩, .int .i64 0] 74)) w23.heap.size 74 #[.string ⟨#[]⟩, .int .i64 0] := Blk.new _ _ _
          refine hK.out _ _ ⟨hQ24.1.1, sops hQ24.1.2.1 rfl rfl rfl⟩ (fun hHeld => ?_)
          exact norm_ (by first | (simp only [putAll, Act.put, sA_, sB_, sC_]; done) | (simp only [putAll, Act.put, sA_, sB_, sC_]; rfl)) (hCont ((A3, c3), ys, _, _) _ ⟨hQ24, hE0, hE24, hF24⟩)
        · skip
          refine value_ (by rfl) rfl (al74 _ rfl _ _) ?_
          have hQ23 := hQ22.new (.cells #[.string ⟨#[]⟩, .int .i64 0] 74)
          have hR23 := Kd.R_below hR22 (below_allocW w22 (.cells #[.string ⟨#[]⟩, .int .i64 0] 74))
          have hE23 := hE22.below (below_allocW w22 (.cells #[.string ⟨#[]⟩, .int .i64 0] 74)) hE22.lt
          have hF23 : Blk (w22.alloc (.cells #[.string ⟨#[]⟩, .int .i64 0] 74)) w22.heap.size 74 #[.string ⟨#[]⟩, .int .i64 0] := Blk.new _ _ _
          refine hK.out _ _ ⟨hQ23.1.1, sops hQ23.1.2.1 rfl rfl rfl⟩ (fun hHeld => ?_)
          refine one_ (i := 12) (N := some 216) (Ra_ [13, 4, 2, 3]) rfl rfl (by kernel_rfl) (by decide) (fun K hK => ?_)
          refine goes_ Try.func75 (by kernel_rfl) rfl #[.agg xs, .int .i64 t, .int .i64 s, .string ans, .slice A3 ns.length c3, .slice A8 cx.length c8] (by rfl) rfl rfl (by (try simp only [List.map_toArray, List.map_cons, List.map_nil]); first | done | rfl) ?_
          refine (HXR.out _ _ A3 c3 _ hQ23 hR23).mono ?_
          rintro e w24 ⟨ys, rfl, hb24, hQ24⟩
          refine ⟨_, rfl, ?_⟩
          have hR24 := Kd.R_below hR23 hb24
          have hE24 := hE23.below hb24 hE23.lt
          have hF24 := hF23.below hb24 hF23.lt
          refine hK.out _ _ ⟨hQ24.1.1, sops hQ24.1.2.1 rfl rfl rfl⟩ (fun hHeld => ?_)
          refine pp_ 13 (some 203) (Ra_ [14, 3, 2, 3]) (h := ?_)
          refine pp_ 14 (some 217) (Ra_ [15, 2, 2, 3]) (h := ?_)
          refine pp_ 15 (some 218) (Ra_ [16, 1, 2, 3]) (h := ?_)
          refine pp_ 16 (some 219) (Ra_ [19, 3]) (h := ?_)
          exact norm_ (by first | (simp only [putAll, Act.put, sA_, sB_, sC_]; done) | (simp only [putAll, Act.put, sA_, sB_, sC_]; rfl)) (hCont ((A3, c3), ys, _, _) _ ⟨hQ24, hE0, hE24, hF24⟩)
      · skip
        refine value_ (by rfl) rfl (al74 _ rfl _ _) ?_
        have hQ22 := hQ21.new (.cells #[.string ⟨#[]⟩, .int .i64 0] 74)
        have hE22 := hE21.below (below_allocW (w3.drew.alloc (.cells Try.zeroCells90 90)) (.cells #[.string ⟨#[]⟩, .int .i64 0] 74)) hE21.lt
        have hF22 : Blk ((w3.drew.alloc (.cells Try.zeroCells90 90)).alloc (.cells #[.string ⟨#[]⟩, .int .i64 0] 74)) (w3.drew.alloc (.cells Try.zeroCells90 90)).heap.size 74 #[.string ⟨#[]⟩, .int .i64 0] := Blk.new _ _ _
        refine hK.out _ _ ⟨hQ22.1.1, sops hQ22.1.2.1 rfl rfl rfl⟩ (fun hHeld => ?_)
        refine one_ (i := 9) (N := some 213) (Ra_ [12, 5, 2, 3]) rfl rfl (by kernel_rfl) (by decide) (fun K hK => ?_)
        refine goes_ Try.func39 (by kernel_rfl) rfl #[.int .i64 (cx.length : Int)] (by rfl) rfl rfl (by (try simp only [List.map_toArray, List.map_cons, List.map_nil]); first | done | rfl) ?_
        refine (strongroomlaw27_ids.calls ki _ ns _ HIDS.out).mono ?_
        rintro e w23 ⟨v3, rfl, hr23, hb23⟩
        obtain ⟨A3, c3, rfl⟩ := Kd.R_slice hr23
        refine ⟨_, rfl, ?_⟩
        have hQ23 := hQ22.below hb23
        have hE23 := hE22.below hb23 hE22.lt
        have hF23 := hF22.below hb23 hF22.lt
        have hR23 := Kd.R_lower hr23 (base' := 0) (Nat.zero_le _)
        refine hK.out _ _ ⟨hQ23.1.1, sops hQ23.1.2.1 rfl rfl rfl⟩ (fun hHeld => ?_)
        refine one_ (i := 12) (N := some 216) (Ra_ [13, 4, 2, 3]) rfl rfl (by kernel_rfl) (by decide) (fun K hK => ?_)
        refine goes_ Try.func75 (by kernel_rfl) rfl #[.agg xs, .int .i64 t, .int .i64 s, .string ans, .slice A3 ns.length c3, .slice A8 cx.length c8] (by rfl) rfl rfl (by (try simp only [List.map_toArray, List.map_cons, List.map_nil]); first | done | rfl) ?_
        refine (HXR.out _ _ A3 c3 _ hQ23 hR23).mono ?_
        rintro e w24 ⟨ys, rfl, hb24, hQ24⟩
        refine ⟨_, rfl, ?_⟩
        have hR24 := Kd.R_below hR23 hb24
        have hE24 := hE23.below hb24 hE23.lt
        have hF24 := hF23.below hb24 hF23.lt
        refine hK.out _ _ ⟨hQ24.1.1, sops hQ24.1.2.1 rfl rfl rfl⟩ (fun hHeld => ?_)
        refine pp_ 13 (some 203) (Ra_ [14, 3, 2, 3]) (h := ?_)
        refine pp_ 14 (some 217) (Ra_ [15, 2, 2, 3]) (h := ?_)
        refine pp_ 15 (some 218) (Ra_ [16, 1, 2, 3]) (h := ?_)
        refine pp_ 16 (some 219) (Ra_ [19, 3]) (h := ?_)
        exact norm_ (by first | (simp only [putAll, Act.put, sA_, sB_, sC_]; done) | (simp only [putAll, Act.put, sA_, sB_, sC_]; rfl)) (hCont ((A3, c3), ys, _, _) _ ⟨hQ24, hE0, hE24, hF24⟩)
    · skip
      refine value_ (by rfl) rfl (al74 _ rfl _ _) ?_
      have hQ21 := hQ20.new (.cells #[.string ⟨#[]⟩, .int .i64 0] 74)
      have hF21 : Blk (w3.drew.alloc (.cells #[.string ⟨#[]⟩, .int .i64 0] 74)) w3.drew.heap.size 74 #[.string ⟨#[]⟩, .int .i64 0] := Blk.new _ _ _
      refine hK.out _ _ ⟨hQ21.1.1, sops hQ21.1.2.1 rfl rfl rfl⟩ (fun hHeld => ?_)
      refine two_ (i := 9) (j := 17) (Ni := some 213) (Nj := some 25) (Ra_ [12, 6, 1, 3]) (Ra_ [9, 1, 2, 5, 2, 3]) rfl rfl rfl rfl (by kernel_rfl) (by decide) (by decide) (fun K hK => ?_) (fun K hK => ?_)
      · skip
        refine goes_ Try.func39 (by kernel_rfl) rfl #[.int .i64 (cx.length : Int)] (by rfl) rfl rfl (by (try simp only [List.map_toArray, List.map_cons, List.map_nil]); first | done | rfl) ?_
        refine (strongroomlaw27_ids.calls ki _ ns _ HIDS.out).mono ?_
        rintro e w22 ⟨v3, rfl, hr22, hb22⟩
        obtain ⟨A3, c3, rfl⟩ := Kd.R_slice hr22
        refine ⟨_, rfl, ?_⟩
        have hQ22 := hQ21.below hb22
        have hF22 := hF21.below hb22 hF21.lt
        have hR22 := Kd.R_lower hr22 (base' := 0) (Nat.zero_le _)
        refine hK.out _ _ ⟨hQ22.1.1, sops hQ22.1.2.1 rfl rfl rfl⟩ (fun hHeld => ?_)
        refine two_ (i := 12) (j := 17) (Ni := some 216) (Nj := some 25) (Ra_ [13, 5, 1, 3]) (Ra_ [12, 5, 2, 3]) rfl rfl rfl rfl (by kernel_rfl) (by decide) (by decide) (fun K hK => ?_) (fun K hK => ?_)
        · skip
          refine goes_ Try.func75 (by kernel_rfl) rfl #[.agg xs, .int .i64 t, .int .i64 s, .string ans, .slice A3 ns.length c3, .slice A8 cx.length c8] (by rfl) rfl rfl (by (try simp only [List.map_toArray, List.map_cons, List.map_nil]); first | done | rfl) ?_
          refine (HXR.out _ _ A3 c3 _ hQ22 hR22).mono ?_
          rintro e w23 ⟨ys, rfl, hb23, hQ23⟩
          refine ⟨_, rfl, ?_⟩
          have hR23 := Kd.R_below hR22 hb23
          have hF23 := hF22.below hb23 hF22.lt
          refine hK.out _ _ ⟨hQ23.1.1, sops hQ23.1.2.1 rfl rfl rfl⟩ (fun hHeld => ?_)
          refine pp_ 13 (some 203) (Ra_ [14, 4, 1, 3]) (h := ?_)
          refine pp_ 14 (some 217) (Ra_ [15, 3, 1, 3]) (h := ?_)
          refine pp_ 15 (some 218) (Ra_ [16, 2, 1, 3]) (h := ?_)
          refine pp_ 16 (some 219) (Ra_ [17, 1, 1, 3]) (h := ?_)
          refine one_ (i := 17) (N := some 25) (Ra_ [19, 3]) rfl rfl (by kernel_rfl) (by decide) (fun K hK => ?_)
          refine value_ (by rfl) rfl (al90 _ rfl _ _) ?_
          have hQ24 := hQ23.below (below_allocW w23 (.cells Try.zeroCells90 90))
          have hE0 : w3.heap.size ≤ w23.heap.size := hQ23.2.2.1.size
          have hR24 := Kd.R_below hR23 (below_allocW w23 (.cells Try.zeroCells90 90))
          have hF24 := hF23.below (below_allocW w23 (.cells Try.zeroCells90 90)) hF23.lt
          have hE24 : Blk (w23.alloc (.cells Try.zeroCells90 90)) w23.heap.size 90 Try.zeroCells90 := Blk.new _ _ _
          refine hK.out _ _ ⟨hQ24.1.1, sops hQ24.1.2.1 rfl rfl rfl⟩ (fun hHeld => ?_)
          exact norm_ (by first | (simp only [putAll, Act.put, sA_, sB_, sC_]; done) | (simp only [putAll, Act.put, sA_, sB_, sC_]; rfl)) (hCont ((A3, c3), ys, _, _) _ ⟨hQ24, hE0, hE24, hF24⟩)
        · skip
          refine value_ (by rfl) rfl (al90 _ rfl _ _) ?_
          have hQ23 := hQ22.below (below_allocW w22 (.cells Try.zeroCells90 90))
          have hE0 : w3.heap.size ≤ w22.heap.size := hQ22.2.2.1.size
          have hR23 := Kd.R_below hR22 (below_allocW w22 (.cells Try.zeroCells90 90))
          have hF23 := hF22.below (below_allocW w22 (.cells Try.zeroCells90 90)) hF22.lt
          have hE23 : Blk (w22.alloc (.cells Try.zeroCells90 90)) w22.heap.size 90 Try.zeroCells90 := Blk.new _ _ _
          refine hK.out _ _ ⟨hQ23.1.1, sops hQ23.1.2.1 rfl rfl rfl⟩ (fun hHeld => ?_)
          refine one_ (i := 12) (N := some 216) (Ra_ [13, 4, 2, 3]) rfl rfl (by kernel_rfl) (by decide) (fun K hK => ?_)
          refine goes_ Try.func75 (by kernel_rfl) rfl #[.agg xs, .int .i64 t, .int .i64 s, .string ans, .slice A3 ns.length c3, .slice A8 cx.length c8] (by rfl) rfl rfl (by (try simp only [List.map_toArray, List.map_cons, List.map_nil]); first | done | rfl) ?_
          refine (HXR.out _ _ A3 c3 _ hQ23 hR23).mono ?_
          rintro e w24 ⟨ys, rfl, hb24, hQ24⟩
          refine ⟨_, rfl, ?_⟩
          have hR24 := Kd.R_below hR23 hb24
          have hE24 := hE23.below hb24 hE23.lt
          have hF24 := hF23.below hb24 hF23.lt
          refine hK.out _ _ ⟨hQ24.1.1, sops hQ24.1.2.1 rfl rfl rfl⟩ (fun hHeld => ?_)
          refine pp_ 13 (some 203) (Ra_ [14, 3, 2, 3]) (h := ?_)
          refine pp_ 14 (some 217) (Ra_ [15, 2, 2, 3]) (h := ?_)
          refine pp_ 15 (some 218) (Ra_ [16, 1, 2, 3]) (h := ?_)
          refine pp_ 16 (some 219) (Ra_ [19, 3]) (h := ?_)
          exact norm_ (by first | (simp only [putAll, Act.put, sA_, sB_, sC_]; done) | (simp only [putAll, Act.put, sA_, sB_, sC_]; rfl)) (hCont ((A3, c3), ys, _, _) _ ⟨hQ24, hE0, hE24, hF24⟩)
      · skip
        refine value_ (by rfl) rfl (al90 _ rfl _ _) ?_
        have hQ22 := hQ21.below (below_allocW (w3.drew.alloc (.cells #[.string ⟨#[]⟩, .int .i64 0] 74)) (.cells Try.zeroCells90 90))
        have hE0 : w3.heap.size ≤ (w3.drew.alloc (.cells #[.string ⟨#[]⟩, .int .i64 0] 74)).heap.size := hQ21.2.2.1.size
        have hF22 := hF21.below (below_allocW (w3.drew.alloc (.cells #[.string ⟨#[]⟩, .int .i64 0] 74)) (.cells Try.zeroCells90 90)) hF21.lt
        have hE22 : Blk ((w3.drew.alloc (.cells #[.string ⟨#[]⟩, .int .i64 0] 74)).alloc (.cells Try.zeroCells90 90)) (w3.drew.alloc (.cells #[.string ⟨#[]⟩, .int .i64 0] 74)).heap.size 90 Try.zeroCells90 := Blk.new _ _ _
        refine hK.out _ _ ⟨hQ22.1.1, sops hQ22.1.2.1 rfl rfl rfl⟩ (fun hHeld => ?_)
        refine one_ (i := 9) (N := some 213) (Ra_ [12, 5, 2, 3]) rfl rfl (by kernel_rfl) (by decide) (fun K hK => ?_)
        refine goes_ Try.func39 (by kernel_rfl) rfl #[.int .i64 (cx.length : Int)] (by rfl) rfl rfl (by (try simp only [List.map_toArray, List.map_cons, List.map_nil]); first | done | rfl) ?_
        refine (strongroomlaw27_ids.calls ki _ ns _ HIDS.out).mono ?_
        rintro e w23 ⟨v3, rfl, hr23, hb23⟩
        obtain ⟨A3, c3, rfl⟩ := Kd.R_slice hr23
        refine ⟨_, rfl, ?_⟩
        have hQ23 := hQ22.below hb23
        have hE23 := hE22.below hb23 hE22.lt
        have hF23 := hF22.below hb23 hF22.lt
        have hR23 := Kd.R_lower hr23 (base' := 0) (Nat.zero_le _)
        refine hK.out _ _ ⟨hQ23.1.1, sops hQ23.1.2.1 rfl rfl rfl⟩ (fun hHeld => ?_)
        refine one_ (i := 12) (N := some 216) (Ra_ [13, 4, 2, 3]) rfl rfl (by kernel_rfl) (by decide) (fun K hK => ?_)
        refine goes_ Try.func75 (by kernel_rfl) rfl #[.agg xs, .int .i64 t, .int .i64 s, .string ans, .slice A3 ns.length c3, .slice A8 cx.length c8] (by rfl) rfl rfl (by (try simp only [List.map_toArray, List.map_cons, List.map_nil]); first | done | rfl) ?_
        refine (HXR.out _ _ A3 c3 _ hQ23 hR23).mono ?_
        rintro e w24 ⟨ys, rfl, hb24, hQ24⟩
        refine ⟨_, rfl, ?_⟩
        have hR24 := Kd.R_below hR23 hb24
        have hE24 := hE23.below hb24 hE23.lt
        have hF24 := hF23.below hb24 hF23.lt
        refine hK.out _ _ ⟨hQ24.1.1, sops hQ24.1.2.1 rfl rfl rfl⟩ (fun hHeld => ?_)
        refine pp_ 13 (some 203) (Ra_ [14, 3, 2, 3]) (h := ?_)
        refine pp_ 14 (some 217) (Ra_ [15, 2, 2, 3]) (h := ?_)
        refine pp_ 15 (some 218) (Ra_ [16, 1, 2, 3]) (h := ?_)
        refine pp_ 16 (some 219) (Ra_ [19, 3]) (h := ?_)
        exact norm_ (by first | (simp only [putAll, Act.put, sA_, sB_, sC_]; done) | (simp only [putAll, Act.put, sA_, sB_, sC_]; rfl)) (hCont ((A3, c3), ys, _, _) _ ⟨hQ24, hE0, hE24, hF24⟩)
  rintro ⟨⟨A3, c3⟩, ys, b25, b26⟩ w' ⟨hq, hb25, hE, hF⟩
  simp only at hq hb25 hE hF
  refine norm_ (a' := ?_) ?_ ?_
  rotate_left
  · simp only [putAll, Act.put, sA_, sB_, sC_]
    rfl
  have hgw := HGW.out
  have hY : ys.size = 224 ∧ ys.all (·.oneCell') = true := by
    obtain ⟨_, _, _, _, _, _, hx, _⟩ := hq
    exact ⟨hx.1, hx.2.1⟩
  have h26 : w3.heap.size ≤ b26 := by
    obtain ⟨_, _, _, _, _, _, _, ho⟩ := hq
    exact (ho _ rfl).2.1
  have hne : b26 ≠ b25 := by
    rintro rfl
    have h1 := hE.symm.trans hF
    injection h1 with h1
    injection h1 with _ h1
    revert h1
    decide
  refine one_ (i := 19) (N := none) (Ra_ [20, 2]) rfl rfl (by kernel_rfl) (by decide) (fun K hK => ?_)
  rw [if_pos (by rfl)]
  refine wp_store_row 90 _ _ rfl b25 ys rfl rfl _ _ hE (by rw [hY.1]; exact info90) (by rw [zero90, hY.1]) hY.2 ?_
  have hq1 := hq.store (ys := ys) hE hb25 hgw hsz3
  have hE1 : Blk (w'.setRow b25 ys) b25 90 ys := blk_row hE (by rw [zero90, hY.1])
  have hF1 : Blk (w'.setRow b25 ys) b26 74 #[.string ⟨#[]⟩, .int .i64 0] := rowS hF hne
  refine hK.out _ _ ⟨hq1.1.1, sops hq1.1.2.1 rfl rfl rfl⟩ (fun hHeld => ?_)
  refine one_ (i := 20) (N := none) (Ra_ [21, 1]) rfl rfl (by kernel_rfl) (by decide) (fun K hK => ?_)
  rw [if_pos (by rfl)]
  refine wp_store_row 74 _ _ rfl b26 #[.string pr2.2.f0, .int .i64 pr2.2.f1] rfl rfl _ _ hF1 (by kernel_rfl) rfl (by simp [Value.oneCell']) ?_
  have hN := hq1.last (ys := #[.string pr2.2.f0, .int .i64 pr2.2.f1]) hF1 hgw hsz3
  have hP5 : Blk ((w'.setRow b25 ys).setRow b26 #[.string pr2.2.f0, .int .i64 pr2.2.f1]) p 74 #[.string pr.2.f0, .int .i64 pr.2.f1] := rowS (rowS (HPd.out.below hq.2.2.1 hpl) (by omega)) (by omega)
  have hE2 : Blk ((w'.setRow b25 ys).setRow b26 #[.string pr2.2.f0, .int .i64 pr2.2.f1]) b25 90 ys := rowS hE1 (fun e => hne e.symm)
  have hF2 : Blk ((w'.setRow b25 ys).setRow b26 #[.string pr2.2.f0, .int .i64 pr2.2.f1]) b26 74 #[.string pr2.2.f0, .int .i64 pr2.2.f1] := blk_row hF1 rfl
  refine hK.out _ _ ⟨hN.1.1, sops hN.1.2.1 rfl rfl rfl⟩ (fun hHeld => ?_)
  refine pp_ 21 (some 27) (Ra_ [22]) (h := ?_)
  refine done_ (by kernel_rfl) ?_
  have h25 : w.heap.size + 1 + 1 < b25 := by omega
  have HY := Lib.hid hY
  clear hHeld hK hq hq1 hE hF hE1 hF1 HQ HPd HXR
  go_wp2_with fail
  refine abs_world ?_
  intro w5 hw5
  rw [← hw5] at hN hP5 hE2 hF2
  clear hw5 hY
  obtain ⟨hbox5, hbl5, cs5, col5, hD5, hX5⟩ := hN
  have HD5 := Lib.hid hD5
  have HX5 := Lib.hid hX5
  have HW5 := Lib.hid hbl5
  have HR5 := Lib.hid hbox5.2.2
  clear hD5 hX5 hbl5 hbox5
  have hS : (fun w' => Blk w' b25 90 ys ∧ Blk w' p 74 #[.string pr.2.f0, .int .i64 pr.2.f1] ∧ Blk w' b26 74 #[.string pr2.2.f0, .int .i64 pr2.2.f1]) w5.drew := ⟨hE2.drew, hP5.drew, hF2.drew⟩
  clear hE2 hP5 hF2
  have heq := HEE.out
  clear HEE HPE
  obtain ⟨pe, ⟨pf0, pf1⟩⟩ := pr
  obtain ⟨qe, ⟨qf0, qf1⟩⟩ := pr2
  simp only at hS ⊢
  refine start_ (n := 11) (S := fun w' => Blk w' b25 90 ys ∧ Blk w' p 74 #[.string pf0, .int .i64 pf1] ∧ Blk w' b26 74 #[.string qf0, .int .i64 qf1]) (ds := []) (Ra_ [0, 11]) (by kernel_rfl) rfl rfl hS (fun hHeld => ?_)
  refine take_ (i := 0) (N := some 220) (Ra_ [1, 10]) rfl rfl (by kernel_rfl) (fun _ _ _ h => h) (yields_row rfl _ _ rfl b25 rfl _ ys _ (fun _ h => h.1) Try.underlying90 rfl (by rw [HY.out.1]; exact info90)) hHeld (by simp only [Act.put, sA_, sB_, sC_]; rfl) ?_
  refine take_ (i := 1) (N := some 221) (Ra_ [2, 9]) rfl rfl (by kernel_rfl) (fun _ _ _ h => h) (yields_row rfl _ _ rfl p rfl _ _ _ (fun _ h => h.2.1) Try.underlying74 rfl (by kernel_rfl)) hHeld (by simp only [Act.put, sA_, sB_, sC_]; rfl) ?_
  refine take_ (i := 2) (N := some 222) (Ra_ [3, 8]) rfl rfl (by kernel_rfl) (fun _ _ _ h => h) (yields_row rfl _ _ rfl b26 rfl _ _ _ (fun _ h => h.2.2) Try.underlying74 rfl (by kernel_rfl)) hHeld (by simp only [Act.put, sA_, sB_, sC_]; rfl) ?_
  refine pw_ 3 (some 223) (Ra_ [4, 7]) (h := ?_)
  have hfe : (pe = qe ∨ pe ≠ qe) := Classical.em _
  obtain ⟨b3, hb3⟩ : ∃ b3, ((pf0.toList == qf0.toList) && (pf1 == qf1)) = b3 := ⟨_, rfl⟩
  rw [hb3]
  have hall : V = U → b3 = true ∧ pe = qe := fun e => by
    have h1 := heq e
    injection h1 with h1 h2
    injection h2 with h2 h3
    exact ⟨by rw [← hb3, h2, h3]; simp, h1⟩
  clear hb3 heq
  cases b3
  case' true => rcases hfe with rfl | hfe
  all_goals
    refine pw_ 4 (some 224) (Ra_ [5, 6]) (h := ?_)
    refine pw_ 5 (some 225) (Ra_ [6, 5]) (h := ?_)
    refine pw_ 6 (some 226) (Ra_ [7, 4]) (h := ?_)
    refine pw_ 7 (some 227) (Ra_ [8, 3]) (h := ?_)
    refine pw_ 8 (some 228) (Ra_ [9, 2]) (h := ?_)
    refine one_ (i := 9) (N := none) (Ra_ [10, 1]) rfl rfl (by kernel_rfl) (by decide) (fun K hK => ?_)
    rw [if_pos (by rfl)]
    refine wp_store_row 90 _ _ rfl (w.heap.size + 1 + 1) ys rfl rfl _ _ HR5.out.drew (by rw [HY.out.1]; exact info90) (by rw [zero90, HY.out.1]) HY.out.2 ?_
    refine hK.out _ _ ⟨rowS hHeld.1 (by omega), rowS hHeld.2.1 (by omega), rowS hHeld.2.2 (by omega)⟩ (fun hHeld => ?_)
    refine pp_ 10 (some 7) (Ra_ [11]) (h := ?_)
    refine done_ (by kernel_rfl) ?_
    try go_wp2
    refine bodyPost_ret (results_ct rfl _ _ (w.heap.size + 1 + 1) 90 _ (0, 0) _ rfl (blk_row HR5.out.drew (by rw [zero90, HY.out.1])) Try.underlying90 rfl (by rw [HY.out.1]; exact info90)) rfl ?_
    refine ⟨_, _, rfl, Fin.of_row (by have := HGW.out; omega) ((HW5.out.more (Below.refl w5.heap.size w5).drew).recol HCC.out) (HD5.out.below (Below.refl w5.heap.size w5).drew) (HX5.out.below (Below.refl w5.heap.size w5).drew) HR5.out.drew, fun e => ?_⟩
    first | rfl | (exfalso; obtain ⟨h1, h2⟩ := hall e; first | (cases h1; done) | exact hfe h2) | (simp; done)

end Go.Proofs.Ytgkhdpplmdkkaaa.Ds
