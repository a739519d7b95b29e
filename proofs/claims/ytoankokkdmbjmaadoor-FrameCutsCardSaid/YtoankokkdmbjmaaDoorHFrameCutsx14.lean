-- PRINTED by print.py (a twelfth state) out of the translation. Not trusted: Lean checks it.
import Derived.Test.YtoankokkdmbjmaaDoorHFrameCutsx0
import Derived.Test.YtoankokkdmbjmaaDoorHFrameCutsx7
import Derived.Test.YtoankokkdmbjmaaDoorHFrameCutsx10
import Derived.Test.YtoankokkdmbjmaaDoorHFrameCutsx12
import Derived.Test.YtoankokkdmbjmaaDoorHFrameCutsx13
namespace Go.Proofs.YtoankokkdmbjmaaDoorH.HFrameCuts
open Go.RowKit Go.Proofs.YtoankokkdmbjmaaDoorW.PrintWords Go.Proofs.YtoankokkdmbjmaaDoorW.PrintLast Go.Proofs.YtoankokkdmbjmaaDoorW.PrintMore
attribute [local go_sem] max2_int min2_int max_two min_two max_three min_three max_four min_four   -- for this text's walks alone
set_option linter.unusedVariables false
set_option linter.unusedSimpArgs false

/-! ### cap_Decode: function 56 -/
theorem blk_newG {W : World} {g : Nat} (hg : g = W.heap.size) (o : Obj) : (W.alloc o).heap[g]? = some o := by subst hg; exact heap_alloc_new W o
/-- caveats one behind the other -/
def capAcc (k : Nat) (b : List Int) (at_ e : Int) : Nat → Option (List S91 × Int × Int)
  | 0 => some ([], at_, e)
  | n + 1 => (capAcc k b at_ e n).bind fun t => (cap_reader_text.f k b t.2.1 t.2.2 32).bind fun p => (cap_reader_number.f k b p.2.1 p.2.2).bind fun r => (cap_reader_number.f k b r.2.1 r.2.2).bind fun u => some (t.1 ++ [⟨p.1, r.1, u.1⟩], u.2.1, u.2.2)
theorem capAcc.mono (b : List Int) (at_ e : Int) : ∀ n k, LeO (capAcc k b at_ e n) (capAcc (k + 1) b at_ e n)
  | 0, _ => LeO.refl _
  | n + 1, k => by
    unfold capAcc
    exact LeO.bind (capAcc.mono b at_ e n k) (fun _ => LeO.bind (cap_reader_text.mono _ _ _ _ _) (fun _ => LeO.bind (cap_reader_number.mono _ _ _ _) (fun _ => LeO.bind (cap_reader_number.mono _ _ _ _) (fun _ => LeO.refl _))))
theorem capAcc_stay {k : Nat} {b : List Int} {at_ e : Int} {n : Nat} {t : List S91 × Int × Int} (h : capAcc k b at_ e (n + 1) = some t) : ∃ s, capAcc k b at_ e n = some s ∧ (s.2.2 ≠ 0 → t.2 = s.2) := by
  unfold capAcc at h
  obtain ⟨s, hs, h⟩ := Option.bind_eq_some_iff.mp h
  refine ⟨s, hs, fun he => ?_⟩
  simp only [cap_reader_text.f, cap_reader_number.f, if_neg he, Option.bind_some, Option.some.injEq] at h
  rw [← h]
theorem capAcc_upto {k : Nat} {b : List Int} {at_ e : Int} (m : Nat) : ∀ (n : Nat) (t : List S91 × Int × Int), capAcc k b at_ e n = some t → m ≤ n → ∃ s, capAcc k b at_ e m = some s ∧ (s.2.2 ≠ 0 → t.2 = s.2)
  | 0, t, h, hm => by obtain rfl : m = 0 := by omega
                      exact ⟨t, h, fun _ => rfl⟩
  | n + 1, t, h, hm => by
    by_cases e : m = n + 1
    · subst e; exact ⟨t, h, fun _ => rfl⟩
    obtain ⟨s, hs, h1⟩ := capAcc_stay h
    obtain ⟨s', hs', h2⟩ := capAcc_upto m n s hs (by omega)
    exact ⟨s', hs', fun he => by rw [h1 (by rw [h2 he]; exact he), h2 he]⟩
theorem capAcc_len {k : Nat} {b : List Int} {at_ e : Int} : ∀ (n : Nat) (t : List S91 × Int × Int), capAcc k b at_ e n = some t → t.1.length = n
  | 0, t, h => by obtain rfl := Option.some.inj h; rfl
  | n + 1, t, h => by
    unfold capAcc at h
    obtain ⟨s, hs, h⟩ := Option.bind_eq_some_iff.mp h
    obtain ⟨p, _, h⟩ := Option.bind_eq_some_iff.mp h
    obtain ⟨r, _, h⟩ := Option.bind_eq_some_iff.mp h
    obtain ⟨u, _, h⟩ := Option.bind_eq_some_iff.mp h
    obtain rfl := Option.some.inj h
    have := capAcc_len n s hs
    simp [this]
abbrev TokR := Int × Int × List S91 × ByteArray × Int × Int
def tokZ (e : Int) : TokR := (0, 0, [], ⟨#[]⟩, 0, e)
def cap_Decode.f (k : Nat) (l0 : List Int) (a1 : Int) : Option TokR :=
  (cap_reader_number.f k l0 a1 0).bind fun a => (cap_reader_number.f k l0 a.2.1 a.2.2).bind fun b => (cap_reader_number.f k l0 b.2.1 b.2.2).bind fun c =>
  (capAcc k l0 c.2.1 (if c.2.2 = 0 ∧ 8 < c.1 then 4 else c.2.2) c.1.toNat).bind fun t => (cap_reader_text.f k l0 t.2.1 t.2.2 32).bind fun s =>
  if s.2.2 = 0 then (cap_May.f k a.1 b.1 t.1 s.1).bind fun ok => if ok = true then some (a.1, b.1, t.1, s.1, s.2.1, 0) else some (tokZ 4) else some (tokZ s.2.2)
theorem cap_Decode.mono : ∀ a0 a1 k, LeO (cap_Decode.f k a0 a1) (cap_Decode.f (k + 1) a0 a1) := by
  intro a0 a1 k
  unfold cap_Decode.f
  repeat' first | exact LeO.refl _ | exact LeO.none _ | refine LeO.ite ?_ ?_ | refine LeO.bind (cap_reader_number.mono _ _ _ _) (fun _ => ?_) | refine LeO.bind (cap_reader_text.mono _ _ _ _ _) (fun _ => ?_) | refine LeO.bind (capAcc.mono _ _ _ _ _) (fun _ => ?_) | refine LeO.bind (cap_May.mono _ _ _ _ _) (fun _ => ?_)
/-- the reader at gr, the token at gt, what is told back at gz; the caveats' row lies in P -/
structure CdS (w W : World) (P : Nat → Prop) (gz gr gt : Nat) (l : List Int) (at_ e : Int) (t n : Int) (v : Value) (s : ByteArray) (xs : List S91) : Prop where
  I : IsS124 w W gr l at_ e
  Z : W.heap[gz]? = some (.cells #[.int .i64 0, .int .i64 0, .slice none 0 0, .string ⟨#[]⟩] 45 (0, 0))
  T : W.heap[gt]? = some (.cells #[.int .i64 t, .int .i64 n, v, .string s] 45 (0, 0))
  R : Kd.R k91 91 W w.heap.size (fun k => k ≠ gr ∧ k ≠ gt ∧ k ≠ gz ∧ P k) v xs
  B : Below w.heap.size w W
  nz : gz ≠ gr
  nr : gr ≠ gt
  nt : gz ≠ gt
  gz : w.heap.size ≤ gz
  gt : w.heap.size ≤ gt
section
variable {w W W' : World} {P : Nat → Prop} {gz gr gt : Nat} {l : List Int} {at_ e at' e' : Int} {t n : Int} {v v' : Value} {s s' : ByteArray} {xs ys : List S91}
theorem CdS.keep (h : CdS w W P gz gr gt l at_ e t n v s xs) (hk : KeepBut W W' gr none) (hi : IsS124 w W' gr l at' e') (hb : Below w.heap.size w W') : CdS w W' P gz gr gt l at' e' t n v s xs :=
  ⟨hi, hk.blk h.Z h.nz (by simp), hk.blk h.T h.nr.symm (by simp), Kd.R_keep h.R hk (fun _ q => q.1), hb, h.nz, h.nr, h.nt, h.gz, h.gt⟩
theorem CdS.below (h : CdS w W P gz gr gt l at_ e t n v s xs) (hb : Below W.heap.size W W') : CdS w W' P gz gr gt l at_ e t n v s xs :=
  ⟨h.I.below hb, blk_below h.Z hb, blk_below h.T hb, Kd.R_below h.R hb, below_step h.B hb, h.nz, h.nr, h.nt, h.gz, h.gt⟩
theorem CdS.setE (h : CdS w W P gz gr gt l at_ e t n v s xs) (x : Int) : CdS w (W.setCell ⟨gr, 2, none⟩ (.int .i64 x)) P gz gr gt l at_ x t n v s xs :=
  ⟨h.I.set_2 x, blk_far h.Z h.nz _, blk_far h.T h.nr.symm _, Kd.R_far h.R (fun _ q => q.1) _, below_set h.B h.I.ge, h.nz, h.nr, h.nt, h.gz, h.gt⟩
/-- a block made behind -/
theorem CdS.elder (h : CdS w W (fun _ => True) gz gr gt l at_ e t n v s xs) (o : Obj) : CdS w (W.alloc o) (fun k => k ≠ W.heap.size) gz gr gt l at_ e t n v s xs :=
  let q := h.below (below_alloc (Below.refl _ _) o)
  ⟨q.I, q.Z, q.T, Kd.R_mono (Kd.R_alloc (Kd.R_elderB h.R W.heap.size (Nat.le_refl _)) o) (fun _ q => ⟨q.1.1, q.1.2.1, q.1.2.2.1, q.2⟩), q.B, h.nz, h.nr, h.nt, h.gz, h.gt⟩
theorem CdS.far {g i : Nat} (h : CdS w W (fun k => k ≠ g) gz gr gt l at_ e t n v s xs) (hg : gr < g ∧ gt < g ∧ gz < g) (u : Value) : CdS w (W.setCell ⟨g, i, none⟩ u) (fun k => k ≠ g) gz gr gt l at_ e t n v s xs :=
  ⟨h.I.far (Nat.ne_of_lt hg.1) _, blk_far h.Z (Nat.ne_of_lt hg.2.2) _, blk_far h.T (Nat.ne_of_lt hg.2.1) _, Kd.R_far h.R (fun _ q => q.2.2.2) _, below_set h.B (Nat.le_trans h.gz (Nat.le_of_lt hg.2.2)), h.nz, h.nr, h.nt, h.gz, h.gt⟩
theorem CdS.grown {Q : Nat → Prop} (h : CdS w W P gz gr gt l at_ e t n v s xs) (ho : Kd.R k91 91 W' w.heap.size (fun k => k ≠ gr ∧ k ≠ gt ∧ k ≠ gz ∧ Q k) v' ys) (hb : Below w.heap.size w W') (hg : W.grownBy W' v.ownBlock) : CdS w (W'.setCell ⟨gt, 2, none⟩ v') (fun _ => True) gz gr gt l at_ e t n v' s ys := by
  have hI := h.I.grown hg (Kd.R_away h.R (fun _ q => q.1))
  refine ⟨hI.far h.nr _, blk_far (blk_grown h.Z hg (Kd.R_away h.R (fun _ q => q.2.2.1))) h.nt _, ?_, Kd.R_mono (Kd.R_far ho (fun _ q => q.2.1) _) (fun _ q => ⟨q.1, q.2.1, q.2.2.1, trivial⟩), below_set hb h.gt, h.nz, h.nr, h.nt, h.gz, h.gt⟩
  exact blk_set (blk_grown h.T hg (Kd.R_away h.R (fun _ q => q.2.1))) 2 v'
theorem CdS.setS (h : CdS w W P gz gr gt l at_ e t n v s xs) : CdS w (W.setCell ⟨gt, 3, none⟩ (.string s')) P gz gr gt l at_ e t n v s' xs :=
  ⟨h.I.far h.nr _, blk_far h.Z h.nt _, blk_set h.T 3 _, Kd.R_far h.R (fun _ q => q.2.1) _, below_set h.B h.gt, h.nz, h.nr, h.nt, h.gz, h.gt⟩
theorem CdS.cells (h : CdS w W P gz gr gt l at_ e t n v s xs) : W.cell? ⟨gr, 1, none⟩ = some (.int .i64 at_) ∧ W.cell? ⟨gr, 2, none⟩ = some (.int .i64 e) ∧ W.frozen? ⟨gr, 2, none⟩ = false ∧ W.cell? ⟨gt, 0, none⟩ = some (.int .i64 t) ∧ W.cell? ⟨gt, 1, none⟩ = some (.int .i64 n) ∧ W.cell? ⟨gt, 2, none⟩ = some v ∧ W.cell? ⟨gt, 3, none⟩ = some (.string s) ∧ W.frozen? ⟨gt, 2, none⟩ = false ∧ W.frozen? ⟨gt, 3, none⟩ = false ∧ gr < W.heap.size ∧ gt < W.heap.size := by
  refine ⟨h.I.cell_1, h.I.cell_2, ?_, blk_cell h.T 0, blk_cell h.T 1, blk_cell h.T 2, blk_cell h.T 3, blk_frozen h.T 2, blk_frozen h.T 3, h.I.lt, blk_lt h.T⟩
  obtain ⟨A, c, hb, _⟩ := h.I
  exact blk_frozen hb 2
end
section
variable {w W : World} {P : Nat → Prop} {gz gr gt : Nat} {l : List Int} {at_ e : Int} {t n : Int} {v : Value} {s : ByteArray} {xs : List S91}
theorem CdS.zcells (h : CdS w W P gz gr gt l at_ e t n v s xs) : W.cell? ⟨gz, 0, none⟩ = some (.int .i64 0) ∧ W.cell? ⟨gz, 1, none⟩ = some (.int .i64 0) ∧ W.cell? ⟨gz, 2, none⟩ = some (.slice none 0 0) ∧ W.cell? ⟨gz, 3, none⟩ = some (.string ⟨#[]⟩) ∧ W.frozen? ⟨gz, 0, none⟩ = false ∧ W.frozen? ⟨gz, 1, none⟩ = false ∧ W.frozen? ⟨gz, 2, none⟩ = false ∧ W.frozen? ⟨gz, 3, none⟩ = false :=
  ⟨blk_cell h.Z 0, blk_cell h.Z 1, blk_cell h.Z 2, blk_cell h.Z 3, blk_frozen h.Z 0, blk_frozen h.Z 1, blk_frozen h.Z 2, blk_frozen h.Z 3⟩
theorem CdS.told (h : CdS w W P gz gr gt l at_ e t n v s xs) (a b : Int) (v' : Value) (s' : ByteArray) : ((((W.setCell ⟨gz, 0, none⟩ (.int .i64 a)).setCell ⟨gz, 1, none⟩ (.int .i64 b)).setCell ⟨gz, 2, none⟩ v').setCell ⟨gz, 3, none⟩ (.string s')).heap[gz]? = some (.cells #[.int .i64 a, .int .i64 b, v', .string s'] 45 (0, 0)) ∧
    Kd.R k91 91 ((((W.setCell ⟨gz, 0, none⟩ (.int .i64 a)).setCell ⟨gz, 1, none⟩ (.int .i64 b)).setCell ⟨gz, 2, none⟩ v').setCell ⟨gz, 3, none⟩ (.string s')) w.heap.size (fun _ => True) v xs ∧ Below w.heap.size w ((((W.setCell ⟨gz, 0, none⟩ (.int .i64 a)).setCell ⟨gz, 1, none⟩ (.int .i64 b)).setCell ⟨gz, 2, none⟩ v').setCell ⟨gz, 3, none⟩ (.string s')) :=
  ⟨blk_set (blk_set (blk_set (blk_set h.Z 0 _) 1 _) 2 _) 3 _, Kd.R_mono (Kd.R_far (Kd.R_far (Kd.R_far (Kd.R_far h.R (p := ⟨gz, 0, none⟩) (fun _ q => q.2.2.1) _) (p := ⟨gz, 1, none⟩) (fun _ q => q.2.2.1) _) (p := ⟨gz, 2, none⟩) (fun _ q => q.2.2.1) _) (p := ⟨gz, 3, none⟩) (fun _ q => q.2.2.1) _) (fun _ _ => trivial), below_set (below_set (below_set (below_set h.B h.gz) h.gz) h.gz) h.gz⟩
end
theorem text_stay {k : Nat} {l : List Int} {a e m : Int} {r : ByteArray × Int × Int} (h : cap_reader_text.f k l a e m = some r) (he : r.2.2 = 0) : e = 0 := Classical.byContradiction fun hn => by
  rw [cap_reader_text.f, if_neg hn] at h
  obtain rfl := Option.some.inj h
  exact hn he
theorem abs_wF {P : Program} {c : Code} {Q : Exit → Act → World → Prop} {a : Act} {w : World} (h : ∀ w1, w1 = w → c.wp P Q a w1) : c.wp P Q a w := h w rfl
theorem info91' : (Tryd.prog.info? 91).map (fun i => (i.zero, i.size, i.bytes)) = some (some (.agg #[(.string ⟨#[]⟩), (.int .i64 0), (.int .i64 0)]), 3, 32) := by kernel_rfl
/-- what holds at a round's head -/
def cdI (w : World) (k : Nat) (l : List Int) (a0 e0 : Int) (many : Nat) (gz gr gt : Nat) (t n : Int) (i : Value) (wr : World) : Prop := ∃ (m : Nat) (v : Value) (xs : List S91) (at_ e : Int), i = .int .i64 m ∧ capAcc k l a0 e0 m = some (xs, at_, e) ∧ m ≤ many ∧ CdS w wr (fun _ => True) gz gr gt l at_ e t n v ⟨#[]⟩ xs
set_option maxHeartbeats 8000000 in
set_option maxRecDepth 100000 in
theorem cap_Decode.calls (k : Nat) (A0 : Option Addr) (c0 : Nat) (l0 : List Int) (a1 : Int) (r1 : Int) (r2 : Int) (r3 : List (S91)) (r4 : ByteArray) (r5 : Int) (r6 : Int) (w : World) (hr0 : Kd.C (Kd.int .u8) w A0 l0.length l0) (hc0 : l0.length ≤ c0) (h : cap_Decode.f k l0 a1 = some (r1, r2, r3, r4, r5, r6)) :
    Calls Tryd.prog 56 #[.slice A0 l0.length c0, .int .i64 a1] w fun e w' => ∃ v2_ : Value, e = .returned (.tuple #[.agg #[.int .i64 r1, .int .i64 r2, v2_, .string r4], .int .i64 r5, .int .i64 r6]) ∧ Kd.R k91 91 w' w.heap.size (fun _ => True) v2_ r3 ∧ Below w.heap.size w w' := by
  have HR0 := Aside0.mk hr0
  have HC0 := Aside0.mk hc0
  clear hr0 hc0
  unfold cap_Decode.f at h
  obtain ⟨⟨x1, x2, x3⟩, g1, h2⟩ := Option.bind_eq_some_iff.mp h
  clear h
  obtain ⟨⟨y1, y2, y3⟩, g2, h⟩ := Option.bind_eq_some_iff.mp h2
  clear h2
  obtain ⟨⟨z1, z2, z3⟩, g3, h2⟩ := Option.bind_eq_some_iff.mp h
  clear h
  obtain ⟨⟨xs, a4, e4⟩, g4, h⟩ := Option.bind_eq_some_iff.mp h2
  clear h2
  obtain ⟨⟨s1, a5, e5⟩, g5, h2⟩ := Option.bind_eq_some_iff.mp h
  have G1 := Aside0.mk g1
  have G2 := Aside0.mk g2
  have G3 := Aside0.mk g3
  have G4 := Aside0.mk g4
  have G5 := Aside0.mk g5
  have HH := Aside0.mk h2
  clear g1 g2 g3 g4 g5 h2 h
  simp only at G2 G3 G4 G5 HH
  go_enter Tryd.func56, Tryd.ntmps56
  go_wp2_with (first
    | (go_at_call 86; (with_reducible refine (cap_reader_number.calls k (w.heap.size + 1) l0 a1 0 x1 x2 x3 w _ ?hi ?hb G1.out).mono ?_); (case hi => exact ⟨A0, c0, blk_newG (by simp) _, ⟨by omega, HC0.out⟩, HR0.out⟩); (case hb => exact below_alloc (below_alloc (Below.refl _ _) _) _); rintro e w2 ⟨rfl, hi, hb, hk⟩; have HI2 := Aside0.mk hi; have HB2 := Aside0.mk hb; have HZ2 := Aside0.mk (hk.blk (blk_alloc (heap_alloc_new w (.cells #[.int .i64 0, .int .i64 0, .slice none 0 0, .string ⟨#[]⟩] 45)) _) (by omega) (by simp)); clear hi hb hk)
    | (go_at_call 86; (with_reducible refine (cap_reader_number.calls k (w.heap.size + 1) l0 x2 x3 y1 y2 y3 w _ ?hi ?hb G2.out).mono ?_); (case hi => exact HI2.out); (case hb => exact HB2.out); rintro e w3 ⟨rfl, hi, hb, hk⟩; have HI3 := Aside0.mk hi; have HB3 := Aside0.mk hb; have HZ3 := Aside0.mk (hk.blk HZ2.out (by omega) (by simp)); clear hi hb hk HI2 HB2 HZ2)
    | (go_at_call 86; (with_reducible refine (cap_reader_number.calls k (w.heap.size + 1) l0 y2 y3 z1 z2 z3 w _ ?hi ?hb G3.out).mono ?_); (case hi => exact HI3.out.alloc _); (case hb => exact below_alloc HB3.out _); rintro e w4 ⟨rfl, hi, hb, hk⟩; have HS : Aside0 (CdS w w4 (fun _ => True) w.heap.size (w.heap.size + 1) w3.heap.size l0 z2 z3 x1 y1 (.slice none 0 0) ⟨#[]⟩ []) := Aside0.mk (CdS.keep ⟨HI3.out.alloc _, blk_alloc HZ3.out _, heap_alloc_new w3 (.cells #[.int .i64 x1, .int .i64 y1, .slice none 0 0, .string ⟨#[]⟩] 45), Kd.R_nil _ _ _ _ _, below_alloc HB3.out _, by omega, Nat.ne_of_lt HI3.out.lt, Nat.ne_of_lt (blk_lt HZ3.out), Nat.le_refl _, HB3.out.size⟩ hk hi hb); clear hi hb hk HI3 HB3 HZ3; obtain ⟨q1, q2, q3, q4, q5, q6, q7, q8, q9, q10, q11⟩ := HS.out.cells))
  all_goals
    refine abs_wF ?_
    intro w5 hw5
    have hS : ∃ E, CdS w w5 (fun _ => True) w.heap.size (w.heap.size + 1) w3.heap.size l0 z2 E x1 y1 (.slice none 0 0) ⟨#[]⟩ [] ∧ capAcc k l0 z2 E z1.toNat = some (xs, a4, e4) ∧ (E = 0 → z1 ≤ 8) := by
      have g4 := G4.out
      rw [hw5]
      first
        | (rw [if_pos ⟨‹z3 = 0›, ‹8 < z1›⟩] at g4; exact ⟨4, HS.out.setE 4, g4, fun h => by cases h⟩)
        | (rw [if_neg (by omega)] at g4; exact ⟨z3, HS.out, g4, fun h => by omega⟩)
        | (have hz : ¬ z3 = 0 := by simp_all
           rw [if_neg (fun q => hz q.1)] at g4; exact ⟨z3, HS.out, g4, fun h => absurd h hz⟩)
    obtain ⟨E, hS, hG, hE⟩ := hS
    generalize w3.heap.size = gt at hS
    have HG := Aside0.mk hG
    have HZ := Aside0.mk hE
    have HI := Aside0.mk (show cdI w k l0 z2 E z1.toNat w.heap.size (w.heap.size + 1) gt x1 y1 (.int .i64 0) w5 from ⟨0, _, [], z2, E, rfl, rfl, by omega, hS⟩)
    clear hw5 HS G4 G1 G2 G3 hS hG hE q1 q2 q3 q4 q5 q6 q7 q8 q9 q10 q11
    go_loopw [10] (fun i wr => cdI w k l0 z2 E z1.toNat w.heap.size (w.heap.size + 1) gt x1 y1 i wr) (fun i _ => z1.toNat - (intOf i).toNat)
    case atStart => exact HI.out
    case round =>
      obtain ⟨m, v, ys, at_, e, rfl, hm, hle, hS⟩ := hrel
      obtain ⟨A, c, rfl⟩ := Kd.R_slice hS.R
      have HS := Aside0.mk hS
      have HM := Aside0.mk hm
      by_cases hgo : (m : Int) < z1 ∧ e = 0
      · obtain ⟨hlt, rfl⟩ := hgo
        obtain ⟨⟨zs, a6, e6⟩, h6, _⟩ := capAcc_upto (m + 1) z1.toNat _ HG.out (by omega)
        have H6 := Aside0.mk h6
        rw [capAcc, hm] at h6
        simp only [Option.bind_some] at h6
        obtain ⟨⟨p1, p2, p3⟩, gp, h7⟩ := Option.bind_eq_some_iff.mp h6
        obtain ⟨⟨u1, u2, u3⟩, gu, h8⟩ := Option.bind_eq_some_iff.mp h7
        obtain ⟨⟨v1, v2, v3⟩, gv, h9⟩ := Option.bind_eq_some_iff.mp h8
        simp only [Option.some.injEq, Prod.mk.injEq] at h9
        obtain ⟨rfl, rfl, rfl⟩ := h9
        have hz8 : z1 ≤ 8 := by
          obtain ⟨s, hs, hs2⟩ := capAcc_upto 0 m _ hm (by omega)
          simp only [capAcc, Option.some.injEq] at hs
          subst hs
          exact HZ.out (Classical.byContradiction fun hn => hn (by have := hs2 hn; simp only [Prod.mk.injEq] at this; exact this.2.symm))
        have hl8 : ys.length ≤ m := by have h1 := capAcc_len _ _ hm; simp only at h1; omega
        try (exfalso; omega)
        all_goals
          have hm8 : m < 8 := by omega
          have GP := Aside0.mk gp
          have GU := Aside0.mk gu
          have GV := Aside0.mk gv
          simp only at GU GV
          clear hm hS h6 h7 h8 gp gu gv
          obtain ⟨q1, q2, q3, q4, q5, q6, q7, q8, q9, q10, q11⟩ := HS.out.cells
          go_wp2_with (first
            | (go_at_call 87; (with_reducible refine (cap_reader_text.calls k (w.heap.size + 1) l0 at_ 0 32 p1 p2 p3 w _ ?hi ?hb GP.out).mono ?_); (case hi => exact HS.out.I); (case hb => exact HS.out.B); rintro e w6 ⟨rfl, hi, hb, hk⟩; have HS6 := Aside0.mk (HS.out.keep hk hi hb); have lt6 := HS6.out.I.lt; have lu6 := blk_lt HS6.out.T; have lz6 := blk_lt HS6.out.Z; clear hi hb hk HS; clear q1 q2 q3 q4 q5 q6 q7 q8 q9 q10 q11)
            | (go_at_call 86; (with_reducible refine (cap_reader_number.calls k (w.heap.size + 1) l0 p2 p3 u1 u2 u3 w _ ?hi ?hb GU.out).mono ?_); (case hi => exact HS6.out.I.alloc _); (case hb => exact below_alloc HS6.out.B _); rintro e w7 ⟨rfl, hi, hb, hk⟩; have HS7 := Aside0.mk ((HS6.out.elder (.cells #[.string p1, .int .i64 0, .int .i64 0] 91)).keep hk hi hb); have HC7 := Aside0.mk (hk.blk (heap_alloc_new w6 (.cells #[.string p1, .int .i64 0, .int .i64 0] 91)) (by omega) (by simp)); have c1 := blk_cell HC7.out 1; have f1 := blk_frozen HC7.out 1; clear hi hb hk HS6)
            | (go_at_call 86; (with_reducible refine (cap_reader_number.calls k (w.heap.size + 1) l0 u2 u3 v1 v2 v3 w _ ?hi ?hb GV.out).mono ?_); (case hi => exact (HS7.out.far ⟨lt6, lu6, lz6⟩ _).I); (case hb => exact (HS7.out.far ⟨lt6, lu6, lz6⟩ _).B); rintro e w8 ⟨rfl, hi, hb, hk⟩; have HS8 := Aside0.mk ((HS7.out.far ⟨lt6, lu6, lz6⟩ _).keep hk hi hb); have HSX := Aside0.mk (HS8.out.far (i := 2) ⟨lt6, lu6, lz6⟩ (.int .i64 v1)); have HC8 := Aside0.mk (hk.blk (blk_set HC7.out 1 _) (by omega) (by simp)); have c0 := (blk_cell HC8.out 0).trans rfl; have c2 := (blk_cell HC8.out 2).trans rfl; have f2 := blk_frozen HC8.out 2; clear c1; have c1 := (blk_cell HC8.out 1).trans rfl; clear f1 hi hb hk HS7 HC7; obtain ⟨q1, q2, q3, q4, q5, q6, q7, q8, q9, q10, q11⟩ := HS8.out.cells; have hne := Nat.ne_of_lt lu6; have hne' := Nat.ne_of_gt lu6)
            | ((with_reducible refine gate_builtin (b := .append) (xs := #[.tmp 57, .tmp 59]) rfl ?_); at_builtin; refine Kd.R_append k91 (w0 := w) w.heap.size rfl (.tmp 57) (.tmp 59) 43 91 (.agg #[(.string ⟨#[]⟩), (.int .i64 0), (.int .i64 0)]) 32 rfl Tryd.underlying43 info91' rfl (by decide) (by omega) (.slice A ys.length c) ys (⟨p1, u1, v1⟩ : S91) [.string p1, .int .i64 u1, .int .i64 v1] (fun k => k ≠ w.heap.size + 1 ∧ k ≠ gt ∧ k ≠ w.heap.size ∧ k ≠ w6.heap.size) (fun _ => False) ?aV ?aX ?aP (fun _ hk => hk.elim) ?aF ?aO ?aB ?aS ?aL ?_; (case aV => rfl); (case aX => first | rfl | (go_simp; done) | (go_simp; rfl)); (case aP => exact k91_mkM _ _ _ (⟨p1, u1, v1⟩ : S91)); (case aF => exact fun k hk => (by have := blk_lt HC8.out; simp at hk; omega)); (case aO => exact HSX.out.R); (case aB => exact HSX.out.B); (case aS => exact HSX.out.B.size); (case aL => omega); intro v' w9 ho hb hg hat; obtain ⟨A', c', rfl⟩ := Kd.R_slice ho; have hS9 := HSX.out.grown ho hb hg; simp only [List.length_append, List.length_cons, List.length_nil, Nat.zero_add] at hS9; have HS9 := Aside0.mk hS9; clear hS9; have HT9 := blk_grown HSX.out.T hg (Kd.R_away HSX.out.R (fun _ q => q.2.1)); have d2 := (blk_cell HT9 2).trans rfl; have d3 := blk_frozen HT9 2; clear HT9 ho hb hg hat q1 q2 q3 q4 q5 q7 q8 q9 q10 q11 c0 c1 c2 f2))
          go_roundw
          case rel => exact ⟨m + 1, _, ys ++ [⟨p1, u1, v1⟩], v2, v3, by go_num, H6.out, by omega, HS9.out⟩
          case measure => simp [intOf]; omega
      have hst : (a4 = at_ ∧ e4 = e) ∧ (e = 0 → xs = ys) := by
        by_cases he : e = 0
        · have hmz : m = z1.toNat := by omega
          have := HG.out
          rw [← hmz, hm] at this
          simp only [Option.some.injEq, Prod.mk.injEq] at this
          exact ⟨⟨this.2.1.symm, this.2.2.symm⟩, fun _ => this.1.symm⟩
        · obtain ⟨s, hs, hs2⟩ := capAcc_upto m z1.toNat _ HG.out hle
          rw [hm] at hs
          cases hs
          have := hs2 he
          simp only [Prod.mk.injEq] at this
          exact ⟨this, fun h => absurd h he⟩
      obtain ⟨⟨rfl, rfl⟩, hxy⟩ := hst
      have HXY := Aside0.mk hxy
      have hsp : (¬ (m : Int) < z1) ∨ ((m : Int) < z1 ∧ (e4 == 0) = false) := by
        by_cases hlt : (m : Int) < z1
        · exact .inr ⟨hlt, beq_eq_false_iff_ne.mpr (fun he => hgo ⟨hlt, he⟩)⟩
        · exact .inl hlt
      have nz := hS.nz
      have nr := hS.nr
      have nt := hS.nt
      clear hm hS hxy hgo HM HG HZ HI
      by_cases he5 : e5 = 0
      · subst he5
        have h4 := text_stay G5.out rfl
        obtain rfl := HXY.out h4
        have hh := HH.out
        rw [if_pos rfl] at hh
        obtain ⟨ok, hmay, hh2⟩ := Option.bind_eq_some_iff.mp hh
        have HMY := Aside0.mk hmay
        have HE := Aside0.mk hh2
        clear HH hh hh2 hmay HXY
        subst h4
        have hlt : ¬ (m : Int) < z1 := by
          rcases hsp with h | ⟨_, h⟩
          · exact h
          · cases h
        clear hsp
        obtain ⟨q1, q2, q3, q4, q5, q6, q7, q8, q9, q10, q11⟩ := HS.out.cells
        cases ok
        · have hE := HE.out
          simp only [Bool.false_eq_true, if_false, tokZ, Option.some.injEq, Prod.mk.injEq] at hE
          obtain ⟨rfl, rfl, rfl, rfl, rfl, rfl⟩ := hE
          go_wp2_with (first
            | (go_at_call 87; (with_reducible refine (cap_reader_text.calls k (w.heap.size + 1) l0 a4 _ 32 s1 a5 _ w _ ?hi ?hb G5.out).mono ?_); (case hi => exact HS.out.I); (case hb => exact HS.out.B); rintro e w9 ⟨rfl, hi, hb, hk⟩; have HS9 := Aside0.mk (HS.out.keep hk hi hb); have HS10 := Aside0.mk (HS9.out.setS (s' := s1)); clear hi hb hk HS; clear q1 q2 q3 q4 q5 q6 q7 q8 q9 q10 q11; obtain ⟨q1, q2, q3, q4, q5, q6, q7, q8, q9, q10, q11⟩ := HS9.out.cells; obtain ⟨o0, o1, o2, o3, p0, p1, p2, p3⟩ := HS9.out.zcells)
            | (go_at_call 53; (with_reducible refine (cap_May.calls k x1 y1 A c xs s1 _ _ ?hr ?hc HMY.out).mono ?_); (case hr => exact (Kd.R_reads' HS10.out.R).2.2); (case hc => exact (Kd.R_reads' HS10.out.R).2.1); rintro e w11 ⟨rfl, hb⟩; have HS11 := Aside0.mk (HS10.out.below hb); clear hb o0 o1 o2 o3 p0 p1 p2 p3; clear q1 q2 q3 q4 q5 q6 q7 q8 q9 q10 q11; obtain ⟨q1, q2, q3, q4, q5, q6, q7, q8, q9, q10, q11⟩ := HS11.out.cells; obtain ⟨o0, o1, o2, o3, p0, p1, p2, p3⟩ := HS11.out.zcells))
          go_region
          all_goals
            go_wp2
            have hT := (HS11.out.setE 4).told 0 0 (.slice none 0 0) ⟨#[]⟩
            refine bodyPost_ret (results_ctt rfl _ _ w.heap.size 45 #[.int .i64 0, .int .i64 0, .slice none 0 0, .string ⟨#[]⟩] (0, 0) _ rfl hT.1 Tryd.underlying45 rfl (by kernel_rfl)) rfl ?_
            exact ⟨_, rfl, Kd.R_nil _ _ _ _ _, below_drew1 hT.2.2⟩
        · have hE := HE.out
          simp only [if_true, Option.some.injEq, Prod.mk.injEq] at hE
          obtain ⟨rfl, rfl, rfl, rfl, rfl, rfl⟩ := hE
          go_wp2_with (first
            | (go_at_call 87; (with_reducible refine (cap_reader_text.calls k (w.heap.size + 1) l0 a4 _ 32 s1 a5 _ w _ ?hi ?hb G5.out).mono ?_); (case hi => exact HS.out.I); (case hb => exact HS.out.B); rintro e w9 ⟨rfl, hi, hb, hk⟩; have HS9 := Aside0.mk (HS.out.keep hk hi hb); have HS10 := Aside0.mk (HS9.out.setS (s' := s1)); clear hi hb hk HS; clear q1 q2 q3 q4 q5 q6 q7 q8 q9 q10 q11; obtain ⟨q1, q2, q3, q4, q5, q6, q7, q8, q9, q10, q11⟩ := HS9.out.cells; obtain ⟨o0, o1, o2, o3, p0, p1, p2, p3⟩ := HS9.out.zcells)
            | (go_at_call 53; (with_reducible refine (cap_May.calls k x1 y1 A c xs s1 _ _ ?hr ?hc HMY.out).mono ?_); (case hr => exact (Kd.R_reads' HS10.out.R).2.2); (case hc => exact (Kd.R_reads' HS10.out.R).2.1); rintro e w11 ⟨rfl, hb⟩; have HS11 := Aside0.mk (HS10.out.below hb); clear hb o0 o1 o2 o3 p0 p1 p2 p3; clear q1 q2 q3 q4 q5 q6 q7 q8 q9 q10 q11; obtain ⟨q1, q2, q3, q4, q5, q6, q7, q8, q9, q10, q11⟩ := HS11.out.cells; obtain ⟨o0, o1, o2, o3, p0, p1, p2, p3⟩ := HS11.out.zcells))
          go_region
          all_goals
            go_wp2
            have hT := HS11.out.told x1 y1 (.slice A xs.length c) s1
            refine bodyPost_ret (results_ctt rfl _ _ w.heap.size 45 #[.int .i64 x1, .int .i64 y1, .slice A xs.length c, .string s1] (0, 0) _ rfl hT.1 Tryd.underlying45 rfl (by kernel_rfl)) rfl ?_
            exact ⟨_, rfl, hT.2.1, below_drew1 hT.2.2⟩
      · have hh := HH.out
        rw [if_neg he5] at hh
        simp only [tokZ, Option.some.injEq, Prod.mk.injEq] at hh
        obtain ⟨rfl, rfl, rfl, rfl, rfl, rfl⟩ := hh
        have ne5 : (e5 == 0) = false := beq_eq_false_iff_ne.mpr he5
        have nf5 : (e5 != 0) = true := bne_iff_ne.mpr he5
        clear HH he5 HXY
        obtain ⟨q1, q2, q3, q4, q5, q6, q7, q8, q9, q10, q11⟩ := HS.out.cells
        rcases hsp with hlt | ⟨hlt, hz⟩
        all_goals
          go_wp2_with (go_at_call 87; (with_reducible refine (cap_reader_text.calls k (w.heap.size + 1) l0 a4 _ 32 s1 a5 _ w _ ?hi ?hb G5.out).mono ?_); (case hi => exact HS.out.I); (case hb => exact HS.out.B); rintro e w9 ⟨rfl, hi, hb, hk⟩; have HS9 := Aside0.mk (HS.out.keep hk hi hb); have HS10 := Aside0.mk (HS9.out.setS (s' := s1)); clear hi hb hk HS; clear q1 q2 q3 q4 q5 q6 q7 q8 q9 q10 q11; obtain ⟨q1, q2, q3, q4, q5, q6, q7, q8, q9, q10, q11⟩ := HS9.out.cells; obtain ⟨o0, o1, o2, o3, p0, p1, p2, p3⟩ := HS9.out.zcells)
          go_region
          all_goals
            go_wp2
            have hT := HS10.out.told 0 0 (.slice none 0 0) ⟨#[]⟩
            refine bodyPost_ret (results_ctt rfl _ _ w.heap.size 45 #[.int .i64 0, .int .i64 0, .slice none 0 0, .string ⟨#[]⟩] (0, 0) _ rfl hT.1 Tryd.underlying45 rfl (by kernel_rfl)) rfl ?_
            exact ⟨_, rfl, Kd.R_nil _ _ _ _ _, below_drew1 hT.2.2⟩

/-! ### frame_ReadRequest: function 23 -/
/-- a request as it is told: its twelve cells' values, and what is amiss -/
abbrev ReqR := Int × Int × Int × Int × Int × List S91 × ByteArray × ByteArray × ByteArray × ByteArray × ByteArray × ByteArray × Int
def reqZ (e : Int) : ReqR := (0, 0, 0, 0, 0, [], ⟨#[]⟩, ⟨#[]⟩, ⟨#[]⟩, ⟨#[]⟩, ⟨#[]⟩, ⟨#[]⟩, e)
/-- texts one behind the other -/
def rdTexts (k : Nat) (b : List Int) : Nat → Int → Bool → Option (List ByteArray × Int × Bool)
  | 0, at_, e => some ([], at_, e)
  | n + 1, at_, e => (rdTexts k b n at_ e).bind fun t => (frame_reader_text.f k b t.2.1 t.2.2 65536).bind fun s => some (t.1 ++ [s.1], s.2.1, s.2.2)
theorem rdTexts.mono : ∀ b n at_ e k, LeO (rdTexts k b n at_ e) (rdTexts (k + 1) b n at_ e)
  | _, 0, _, _, _ => LeO.refl _
  | b, n + 1, at_, e, k => by
    unfold rdTexts
    exact LeO.bind (rdTexts.mono b n at_ e k) (fun _ => LeO.bind (frame_reader_text.mono _ _ _ _ _) (fun _ => LeO.refl _))
def sAt (l : List ByteArray) (i : Nat) : ByteArray := l.getD i ⟨#[]⟩
def frame_ReadRequest.f (k : Nat) (l0 : List Int) : Option ReqR :=
  if (l0.length : Int) > 65536 then some (reqZ 2) else
  (frame_begun.f l0 1).bind fun r => (frame_reader_number.f k r.1 r.2.1 r.2.2).bind fun n1 => (frame_reader_number.f k r.1 n1.2.1 n1.2.2).bind fun n2 => (frame_reader_number.f k r.1 n2.2.1 n2.2.2).bind fun n3 =>
  if n3.2.2 = true then some (reqZ 4) else
  (cap_Decode.f k l0 n3.2.1).bind fun d => if d.2.2.2.2.2 = 0 then
    (rdTexts k r.1 5 d.2.2.2.2.1 false).bind fun t => if t.2.2 = true then some (reqZ 4) else if t.2.1 = (l0.length : Int) then
      (frame_Right.f k n1.1 n2.1 n3.1 d.1 d.2.1 d.2.2.1 d.2.2.2.1 (sAt t.1 0) (sAt t.1 1) (sAt t.1 2) (sAt t.1 3) (sAt t.1 4)).bind fun ok => if ok = true then some (n1.1, n2.1, n3.1, d.1, d.2.1, d.2.2.1, d.2.2.2.1, sAt t.1 0, sAt t.1 1, sAt t.1 2, sAt t.1 3, sAt t.1 4, 0) else some (reqZ 4)
    else some (reqZ 4)
  else some (reqZ 4)
theorem frame_ReadRequest.mono : ∀ a0 k, LeO (frame_ReadRequest.f k a0) (frame_ReadRequest.f (k + 1) a0) := by
  intro a0 k
  unfold frame_ReadRequest.f
  repeat' first | exact LeO.refl _ | exact LeO.none _ | refine LeO.ite ?_ ?_ | refine LeO.bind (LeO.refl (frame_begun.f a0 1)) (fun _ => ?_) | refine LeO.bind (frame_reader_number.mono _ _ _ _) (fun _ => ?_) | refine LeO.bind (cap_Decode.mono _ _ _) (fun _ => ?_) | refine LeO.bind (rdTexts.mono _ _ _ _ _) (fun _ => ?_) | refine LeO.bind (frame_Right.mono _ _ _ _ _ _ _ _ _ _ _ _ _) (fun _ => ?_)
/-- a request's cells -/
def rqC (k s q tn nm : Int) (v : Value) (se : ByteArray) (ts : List ByteArray) : Array Value := #[.int .i64 k, .int .i64 s, .int .i64 q, .int .i64 tn, .int .i64 nm, v, .string se, .string (sAt ts 0), .string (sAt ts 1), .string (sAt ts 2), .string (sAt ts 3), .string (sAt ts 4)]
theorem rqC_set (k s q tn nm : Int) (v : Value) (se x : ByteArray) (ts : List ByteArray) (h : ts.length < 5) : (rqC k s q tn nm v se ts).setIfInBounds (7 + ts.length) (.string x) = rqC k s q tn nm v se (ts ++ [x]) := by
  match ts, h with
  | [], _ => rfl
  | [_], _ => rfl
  | [_, _], _ => rfl
  | [_, _, _], _ => rfl
  | [_, _, _, _], _ => rfl
  | _ :: _ :: _ :: _ :: _ :: _, h => simp at h; omega
theorem rqC_at (k s q tn nm : Int) (v : Value) (se : ByteArray) (ts : List ByteArray) (m : Nat) (h : m < 5) : (rqC k s q tn nm v se ts)[7 + m]? = some (.string (sAt ts m)) := by
  match m, h with
  | 0, _ => rfl
  | 1, _ => rfl
  | 2, _ => rfl
  | 3, _ => rfl
  | 4, _ => rfl
/-- the reader at gr, the request at gq, what is told back at gz -/
structure RqS (w W : World) (gz gr gq : Nat) (l : List Int) (at_ : Int) (e : Bool) (k s q tn nm : Int) (v : Value) (se : ByteArray) (ts : List ByteArray) (xs : List S91) : Prop where
  I : IsS85 w W gr l at_ e
  Z : W.heap[gz]? = some (.cells (rqC 0 0 0 0 0 (.slice none 0 0) ⟨#[]⟩ []) 47 (0, 0))
  Q : W.heap[gq]? = some (.cells (rqC k s q tn nm v se ts) 47 (0, 0))
  R : Kd.R k91 91 W w.heap.size (fun j => j ≠ gr ∧ j ≠ gq ∧ j ≠ gz) v xs
  B : Below w.heap.size w W
  nz : gz ≠ gr
  nr : gr ≠ gq
  nt : gz ≠ gq
  gz : w.heap.size ≤ gz
  gq : w.heap.size ≤ gq
section
variable {w W W' : World} {gz gr gq : Nat} {l : List Int} {at_ at' : Int} {e e' : Bool} {k s q tn nm : Int} {v : Value} {se x : ByteArray} {ts : List ByteArray} {xs : List S91}
theorem RqS.keep (h : RqS w W gz gr gq l at_ e k s q tn nm v se ts xs) (hk : KeepBut W W' gr none) (hi : IsS85 w W' gr l at' e') (hb : Below w.heap.size w W') : RqS w W' gz gr gq l at' e' k s q tn nm v se ts xs :=
  ⟨hi, hk.blk h.Z h.nz (by simp), hk.blk h.Q h.nr.symm (by simp), Kd.R_keep h.R hk (fun _ q => q.1), hb, h.nz, h.nr, h.nt, h.gz, h.gq⟩
theorem RqS.below (h : RqS w W gz gr gq l at_ e k s q tn nm v se ts xs) (hb : Below W.heap.size W W') : RqS w W' gz gr gq l at_ e k s q tn nm v se ts xs :=
  ⟨h.I.below hb, blk_below h.Z hb, blk_below h.Q hb, Kd.R_below h.R hb, below_step h.B hb, h.nz, h.nr, h.nt, h.gz, h.gq⟩
theorem RqS.set7 (h : RqS w W gz gr gq l at_ e k s q tn nm v se ts xs) (hl : ts.length < 5) : RqS w (W.setCell ⟨gq, 7 + ts.length, none⟩ (.string x)) gz gr gq l at_ e k s q tn nm v se (ts ++ [x]) xs :=
  ⟨h.I.far h.nr _, blk_far h.Z h.nt _, by rw [← rqC_set _ _ _ _ _ _ _ _ _ hl]; exact blk_set h.Q _ _, Kd.R_far h.R (fun _ q => q.2.1) _, below_set h.B h.gq, h.nz, h.nr, h.nt, h.gz, h.gq⟩
theorem RqS.cells (h : RqS w W gz gr gq l at_ e k s q tn nm v se ts xs) : W.cell? ⟨gr, 1, none⟩ = some (.int .i64 at_) ∧ W.cell? ⟨gr, 2, none⟩ = some (.bool e) ∧ W.frozen? ⟨gr, 1, none⟩ = false ∧ gr < W.heap.size ∧ gq < W.heap.size := by
  refine ⟨h.I.cell_1, h.I.cell_2, ?_, h.I.lt, blk_lt h.Q⟩
  obtain ⟨A, c, hb, _⟩ := h.I
  exact blk_frozen hb 1
theorem RqS.qcells (h : RqS w W gz gr gq l at_ e k s q tn nm v se ts xs) : W.cell? ⟨gq, 0, none⟩ = some (.int .i64 k) ∧ W.cell? ⟨gq, 1, none⟩ = some (.int .i64 s) ∧ W.cell? ⟨gq, 2, none⟩ = some (.int .i64 q) ∧ W.cell? ⟨gq, 3, none⟩ = some (.int .i64 tn) ∧ W.cell? ⟨gq, 4, none⟩ = some (.int .i64 nm) ∧ W.cell? ⟨gq, 5, none⟩ = some v ∧ W.cell? ⟨gq, 6, none⟩ = some (.string se) ∧ W.cell? ⟨gq, 7, none⟩ = some (.string (sAt ts 0)) ∧ W.cell? ⟨gq, 8, none⟩ = some (.string (sAt ts 1)) ∧ W.cell? ⟨gq, 9, none⟩ = some (.string (sAt ts 2)) ∧ W.cell? ⟨gq, 10, none⟩ = some (.string (sAt ts 3)) ∧ W.cell? ⟨gq, 11, none⟩ = some (.string (sAt ts 4)) := rq_cells h.Q
theorem RqS.zcells (h : RqS w W gz gr gq l at_ e k s q tn nm v se ts xs) : (W.cell? ⟨gz, 0, none⟩ = some (.int .i64 0) ∧ W.cell? ⟨gz, 1, none⟩ = some (.int .i64 0) ∧ W.cell? ⟨gz, 2, none⟩ = some (.int .i64 0) ∧ W.cell? ⟨gz, 3, none⟩ = some (.int .i64 0) ∧ W.cell? ⟨gz, 4, none⟩ = some (.int .i64 0) ∧ W.cell? ⟨gz, 5, none⟩ = some (.slice none 0 0) ∧ W.cell? ⟨gz, 6, none⟩ = some (.string ⟨#[]⟩) ∧ W.cell? ⟨gz, 7, none⟩ = some (.string ⟨#[]⟩) ∧ W.cell? ⟨gz, 8, none⟩ = some (.string ⟨#[]⟩) ∧ W.cell? ⟨gz, 9, none⟩ = some (.string ⟨#[]⟩) ∧ W.cell? ⟨gz, 10, none⟩ = some (.string ⟨#[]⟩) ∧ W.cell? ⟨gz, 11, none⟩ = some (.string ⟨#[]⟩)) ∧
    (W.frozen? ⟨gz, 0, none⟩ = false ∧ W.frozen? ⟨gz, 1, none⟩ = false ∧ W.frozen? ⟨gz, 2, none⟩ = false ∧ W.frozen? ⟨gz, 3, none⟩ = false ∧ W.frozen? ⟨gz, 4, none⟩ = false ∧ W.frozen? ⟨gz, 5, none⟩ = false ∧ W.frozen? ⟨gz, 6, none⟩ = false ∧ W.frozen? ⟨gz, 7, none⟩ = false ∧ W.frozen? ⟨gz, 8, none⟩ = false ∧ W.frozen? ⟨gz, 9, none⟩ = false ∧ W.frozen? ⟨gz, 10, none⟩ = false ∧ W.frozen? ⟨gz, 11, none⟩ = false) :=
  ⟨rq_cells h.Z, blk_frozen h.Z 0, blk_frozen h.Z 1, blk_frozen h.Z 2, blk_frozen h.Z 3, blk_frozen h.Z 4, blk_frozen h.Z 5, blk_frozen h.Z 6, blk_frozen h.Z 7, blk_frozen h.Z 8, blk_frozen h.Z 9, blk_frozen h.Z 10, blk_frozen h.Z 11⟩
end
/-- a request stored whole into the box g -/
def rqSet (W : World) (g : Nat) (k s q tn nm : Int) (v : Value) (se a b c d e : ByteArray) : World := (((((((((((W.setCell ⟨g, 0, none⟩ (.int .i64 k)).setCell ⟨g, 1, none⟩ (.int .i64 s)).setCell ⟨g, 2, none⟩ (.int .i64 q)).setCell ⟨g, 3, none⟩ (.int .i64 tn)).setCell ⟨g, 4, none⟩ (.int .i64 nm)).setCell ⟨g, 5, none⟩ v).setCell ⟨g, 6, none⟩ (.string se)).setCell ⟨g, 7, none⟩ (.string a)).setCell ⟨g, 8, none⟩ (.string b)).setCell ⟨g, 9, none⟩ (.string c)).setCell ⟨g, 10, none⟩ (.string d)).setCell ⟨g, 11, none⟩ (.string e)
theorem rqSet_keep (W : World) (g : Nat) (k1 s1 q1 t1 n1 : Int) (v1 : Value) (x0 x1 x2 x3 x4 x5 : ByteArray) : KeepBut W (rqSet W g k1 s1 q1 t1 n1 v1 x0 x1 x2 x3 x4 x5) g none := ((((((((((((KeepBut.refl W g none).set_ _ _).set_ _ _).set_ _ _).set_ _ _).set_ _ _).set_ _ _).set_ _ _).set_ _ _).set_ _ _).set_ _ _).set_ _ _).set_ _ _
theorem rqSet_below {w W : World} {g : Nat} (B : Below w.heap.size w W) (hg : w.heap.size ≤ g) (k1 s1 q1 t1 n1 : Int) (v1 : Value) (x0 x1 x2 x3 x4 x5 : ByteArray) : Below w.heap.size w (rqSet W g k1 s1 q1 t1 n1 v1 x0 x1 x2 x3 x4 x5) := below_set (below_set (below_set (below_set (below_set (below_set (below_set (below_set (below_set (below_set (below_set (below_set B hg) hg) hg) hg) hg) hg) hg) hg) hg) hg) hg) hg
theorem rqSet_blk {W : World} {g : Nat} (h : W.heap[g]? = some (.cells (rqC 0 0 0 0 0 (.slice none 0 0) ⟨#[]⟩ []) 47 (0, 0))) (k1 s1 q1 t1 n1 : Int) (v1 : Value) (x0 x1 x2 x3 x4 x5 : ByteArray) :
    (rqSet W g k1 s1 q1 t1 n1 v1 x0 x1 x2 x3 x4 x5).heap[g]? = some (.cells #[.int .i64 k1, .int .i64 s1, .int .i64 q1, .int .i64 t1, .int .i64 n1, v1, .string x0, .string x1, .string x2, .string x3, .string x4, .string x5] 47 (0, 0)) := by
  have h0 := h
  simp only [rqC] at h0
  simpa [rqSet] using blk_set (blk_set (blk_set (blk_set (blk_set (blk_set (blk_set (blk_set (blk_set (blk_set (blk_set (blk_set h0 0 (.int .i64 k1)) 1 (.int .i64 s1)) 2 (.int .i64 q1)) 3 (.int .i64 t1)) 4 (.int .i64 n1)) 5 v1) 6 (.string x0)) 7 (.string x1)) 8 (.string x2)) 9 (.string x3)) 10 (.string x4)) 11 (.string x5)
theorem rqSet_told {w W : World} {gz gr gq : Nat} {l : List Int} {at_ : Int} {e : Bool} {k s q tn nm : Int} {v : Value} {se : ByteArray} {ts : List ByteArray} {xs : List S91} (h : RqS w W gz gr gq l at_ e k s q tn nm v se ts xs) (k1 s1 q1 t1 n1 : Int) (v1 : Value) (x0 x1 x2 x3 x4 x5 : ByteArray) :
    Kd.R k91 91 (rqSet W gz k1 s1 q1 t1 n1 v1 x0 x1 x2 x3 x4 x5) w.heap.size (fun _ => True) v xs := Kd.R_mono (Kd.R_keep h.R (rqSet_keep ..) (fun _ q => q.2.2)) (fun _ _ => trivial)
section
variable {w W : World} {gz gr gq : Nat} {l : List Int} {at_ at' : Int} {e : Bool} {k s q tn nm t1 t2 : Int} {v v' : Value} {se se' : ByteArray} {ts : List ByteArray} {xs ys : List S91}
/-- the token and the place stored -/
theorem RqS.tok (h : RqS w W gz gr gq l at_ e k s q tn nm v se ts xs) (hR : Kd.R k91 91 W w.heap.size (fun j => j ≠ gr ∧ j ≠ gq ∧ j ≠ gz) v' ys) : RqS w (((((W.setCell ⟨gr, 1, none⟩ (.int .i64 at')).setCell ⟨gq, 3, none⟩ (.int .i64 t1)).setCell ⟨gq, 4, none⟩ (.int .i64 t2)).setCell ⟨gq, 5, none⟩ v').setCell ⟨gq, 6, none⟩ (.string se')) gz gr gq l at' e k s q t1 t2 v' se' ts ys := by
  have hQ := blk_far h.Q (p := ⟨gr, 1, none⟩) h.nr.symm (.int .i64 at')
  simp only [rqC] at hQ
  refine ⟨((((h.I.set_1 at').far h.nr _).far h.nr _).far h.nr _).far h.nr _, blk_far (blk_far (blk_far (blk_far (blk_far h.Z h.nz _) h.nt _) h.nt _) h.nt _) h.nt _, ?_, ?_, below_set (below_set (below_set (below_set (below_set h.B h.I.ge) h.gq) h.gq) h.gq) h.gq, h.nz, h.nr, h.nt, h.gz, h.gq⟩
  ·simpa [rqC] using blk_set (blk_set (blk_set (blk_set hQ 3 (.int .i64 t1)) 4 (.int .i64 t2)) 5 v') 6 (.string se')
  exact Kd.R_far (Kd.R_far (Kd.R_far (Kd.R_far (Kd.R_far hR (p := ⟨gr, 1, none⟩) (fun _ q => q.1) _) (p := ⟨gq, 3, none⟩) (fun _ q => q.2.1) _) (p := ⟨gq, 4, none⟩) (fun _ q => q.2.1) _) (p := ⟨gq, 5, none⟩) (fun _ q => q.2.1) _) (p := ⟨gq, 6, none⟩) (fun _ q => q.2.1) _
end
theorem abs_thenF {K : Act → World → Prop} {Q : Exit → Act → World → Prop} {e : Exit} {a : Act} {w : World} (h : ∀ w1, w1 = w → Exit.then K Q e a w1) : Exit.then K Q e a w := h w rfl
theorem RqS.drew {w W : World} {gz gr gq : Nat} {l : List Int} {at_ : Int} {e : Bool} {k s q tn nm : Int} {v : Value} {se : ByteArray} {ts : List ByteArray} {xs : List S91} (h : RqS w W gz gr gq l at_ e k s q tn nm v se ts xs) : RqS w W.drew gz gr gq l at_ e k s q tn nm v se ts xs :=
  ⟨h.I, h.Z, h.Q, Kd.R_drew h.R, below_drew1 h.B, h.nz, h.nr, h.nt, h.gz, h.gq⟩
def rqP (gq : Nat) : Array Value := #[.pointer (some ⟨gq, 7, none⟩), .pointer (some ⟨gq, 8, none⟩), .pointer (some ⟨gq, 9, none⟩), .pointer (some ⟨gq, 10, none⟩), .pointer (some ⟨gq, 11, none⟩)]
theorem rqP_at (gq m : Nat) (h : m < 5) : (rqP gq)[m]? = some (.pointer (some ⟨gq, 7 + m, none⟩)) := by
  match m, h with
  | 0, _ => rfl
  | 1, _ => rfl
  | 2, _ => rfl
  | 3, _ => rfl
  | 4, _ => rfl
theorem rdTexts_upto {k : Nat} {b : List Int} {at_ : Int} {e : Bool} (m : Nat) : ∀ (n : Nat) (t : List ByteArray × Int × Bool), rdTexts k b n at_ e = some t → m ≤ n → ∃ s, rdTexts k b m at_ e = some s
  | 0, t, h, hm => by obtain rfl : m = 0 := by omega
                      exact ⟨t, h⟩
  | n + 1, t, h, hm => by
    by_cases e : m = n + 1
    · subst e; exact ⟨t, h⟩
    unfold rdTexts at h
    obtain ⟨s, hs, h⟩ := Option.bind_eq_some_iff.mp h
    exact rdTexts_upto m n s hs (by omega)
/-- what holds at a round's head -/
def rrI (w w6 : World) (k : Nat) (l : List Int) (da : Int) (gr gq : Nat) (n1 n2 n3 tn nm : Int) (v : Value) (se : ByteArray) (cv : List S91) (i : Value) (wr : World) : Prop := ∃ (ts : List ByteArray) (at_ : Int) (e : Bool), i = .int .i64 ts.length ∧ ts.length ≤ 5 ∧ rdTexts k l ts.length da false = some (ts, at_, e) ∧ RqS w wr w.heap.size gr gq l at_ e n1 n2 n3 tn nm v se ts cv ∧ wr.heap[w6.heap.size]? = some (.cells (rqP gq) 99 (0, 0))
set_option maxHeartbeats 1000000 in
set_option maxRecDepth 100000 in
theorem frame_ReadRequest.calls (k : Nat) (A0 : Option Addr) (c0 : Nat) (l0 : List Int) (r1 r2 r3 r4 r5 : Int) (r6 : List S91) (r7 r8 r9 r10 r11 r12 : ByteArray) (r13 : Int) (w : World) (hr0 : Kd.C (Kd.int .u8) w A0 l0.length l0) (hc0 : l0.length ≤ c0) (h : frame_ReadRequest.f k l0 = some (r1, r2, r3, r4, r5, r6, r7, r8, r9, r10, r11, r12, r13)) :
    Calls Tryd.prog 23 #[.slice A0 l0.length c0] w fun e w' => ∃ v6_ : Value, e = .returned (.tuple #[.agg #[.int .i64 r1, .int .i64 r2, .int .i64 r3, .int .i64 r4, .int .i64 r5, v6_, .string r7, .string r8, .string r9, .string r10, .string r11, .string r12], .int .i64 r13]) ∧ Kd.R k91 91 w' w.heap.size (fun _ => True) v6_ r6 ∧ Below w.heap.size w w' := by
  have HR0 := Aside0.mk hr0
  have HC0 := Aside0.mk hc0
  clear hr0 hc0
  unfold frame_ReadRequest.f at h
  by_cases hl : (l0.length : Int) > 65536
  ·rw [if_pos hl] at h
   simp only [reqZ, Option.some.injEq, Prod.mk.injEq] at h
   obtain ⟨rfl, rfl, rfl, rfl, rfl, rfl, rfl, rfl, rfl, rfl, rfl, rfl, rfl⟩ := h
   have hl' : (65536 : Int) < l0.length := hl
   clear hl
   go_enter Tryd.func23, Tryd.ntmps23
   go_wp2
   refine bodyPost_ret (results_ct rfl _ _ w.heap.size 47 #[.int .i64 0, .int .i64 0, .int .i64 0, .int .i64 0, .int .i64 0, .slice none 0 0, .string ⟨#[]⟩, .string ⟨#[]⟩, .string ⟨#[]⟩, .string ⟨#[]⟩, .string ⟨#[]⟩, .string ⟨#[]⟩] (0, 0) _ rfl (heap_alloc_new w _) Tryd.underlying47 rfl (by kernel_rfl)) rfl ?_
   exact ⟨_, rfl, Kd.R_nil _ _ _ _ _, below_alloc (Below.refl _ _) _⟩
  rw [if_neg hl] at h
  have hl' : (l0.length : Int) ≤ 65536 := by omega
  clear hl
  obtain ⟨⟨l, a0, e0⟩, g0, h2⟩ := Option.bind_eq_some_iff.mp h
  clear h
  obtain ⟨⟨n1, a1, e1⟩, g1, h⟩ := Option.bind_eq_some_iff.mp h2
  clear h2
  obtain ⟨⟨n2, a2, e2⟩, g2, h2⟩ := Option.bind_eq_some_iff.mp h
  clear h
  obtain ⟨⟨n3, a3, e3⟩, g3, h⟩ := Option.bind_eq_some_iff.mp h2
  clear h2
  have HBG := Aside0.mk g0
  have G1 := Aside0.mk g1
  have G2 := Aside0.mk g2
  have G3 := Aside0.mk g3
  clear g0 g1 g2 g3
  simp only at G1 G2 G3 h
  cases e3
  case true =>
   rw [if_pos rfl] at h
   simp only [reqZ, Option.some.injEq, Prod.mk.injEq] at h
   obtain ⟨rfl, rfl, rfl, rfl, rfl, rfl, rfl, rfl, rfl, rfl, rfl, rfl, rfl⟩ := h
   go_enter Tryd.func23, Tryd.ntmps23
   go_wp2_with (first
     | (go_at_call 39; (with_reducible refine (frame_begun.calls A0 c0 l0 1 l a0 e0 w _ ?hb ?hr ?hc HBG.out).mono ?_); (case hb => exact below_alloc (Below.refl _ _) _); (case hr => exact HR0.out); (case hc => exact HC0.out); rintro e w0 ⟨gr, rfl, hi, hb, hb2⟩; have hZ := blk_below (heap_alloc_new w (.cells (rqC 0 0 0 0 0 (.slice none 0 0) ⟨#[]⟩ []) 47)) hb2; have NZ := Aside0.mk (show w.heap.size ≠ gr from (by obtain ⟨A, c, hbk, _⟩ := hi; exact blk_ne hZ hbk (by decide))); have HZ1 := Aside0.mk hZ; have HI1 := Aside0.mk hi; have HB1 := Aside0.mk hb; clear hi hb hb2 hZ)
     | (go_at_call 40; (with_reducible refine (frame_reader_number.calls k gr l a0 e0 n1 a1 e1 w _ ?hi ?hb G1.out).mono ?_); (case hi => exact HI1.out); (case hb => exact HB1.out); rintro e w1 ⟨rfl, hi, hb, hk⟩; have HI2 := Aside0.mk hi; have HB2 := Aside0.mk hb; have HZ2 := Aside0.mk (hk.blk HZ1.out NZ.out (by simp)); clear hi hb hk HI1 HB1 HZ1)
     | (go_at_call 40; (with_reducible refine (frame_reader_number.calls k gr l a1 e1 n2 a2 e2 w _ ?hi ?hb G2.out).mono ?_); (case hi => exact HI2.out); (case hb => exact HB2.out); rintro e w2 ⟨rfl, hi, hb, hk⟩; have HI3 := Aside0.mk hi; have HB3 := Aside0.mk hb; have HZ3 := Aside0.mk (hk.blk HZ2.out NZ.out (by simp)); clear hi hb hk HI2 HB2 HZ2)
     | (go_at_call 40; (with_reducible refine (frame_reader_number.calls k gr l a2 e2 n3 a3 true w _ ?hi ?hb G3.out).mono ?_); (case hi => exact HI3.out); (case hb => exact HB3.out); rintro e w3 ⟨rfl, hi, hb, hk⟩; have HI4 := Aside0.mk hi; have HB4 := Aside0.mk hb; have HZ4 := Aside0.mk (hk.blk HZ3.out NZ.out (by simp)); clear hi hb hk HI3 HB3 HZ3; have HS4 : Aside0 (RqS w (w3.alloc (.cells (rqC n1 n2 n3 0 0 (.slice none 0 0) ⟨#[]⟩ []) 47)) w.heap.size gr w3.heap.size l a3 true n1 n2 n3 0 0 (.slice none 0 0) ⟨#[]⟩ [] []) := ⟨⟨HI4.out.alloc _, blk_alloc HZ4.out _, heap_alloc_new _ _, Kd.R_nil _ _ _ _ _, below_alloc HB4.out _, NZ.out, Nat.ne_of_lt HI4.out.lt, Nat.ne_of_lt (blk_lt HZ4.out), Nat.le_refl _, HB4.out.size⟩⟩; have b1 := HI4.out.cell_1; have b2 := HI4.out.cell_2; have lr := HI4.out.lt; have lz := blk_lt HZ4.out; obtain ⟨z0, z1, z2, z3, z4, z5, z6, z7, z8, z9, z10, z11⟩ := rq_cells HZ4.out; have y0 := blk_frozen HZ4.out 0; have y1 := blk_frozen HZ4.out 1; have y2 := blk_frozen HZ4.out 2; have y3 := blk_frozen HZ4.out 3; have y4 := blk_frozen HZ4.out 4; have y5 := blk_frozen HZ4.out 5; have y6 := blk_frozen HZ4.out 6; have y7 := blk_frozen HZ4.out 7; have y8 := blk_frozen HZ4.out 8; have y9 := blk_frozen HZ4.out 9; have y10 := blk_frozen HZ4.out 10; have y11 := blk_frozen HZ4.out 11))
   have hT := blk_alloc (rqSet_blk HZ4.out 0 0 0 0 0 (.slice none 0 0) ⟨#[]⟩ ⟨#[]⟩ ⟨#[]⟩ ⟨#[]⟩ ⟨#[]⟩ ⟨#[]⟩) (.cells (rqC n1 n2 n3 0 0 (.slice none 0 0) ⟨#[]⟩ []) 47)
   have hB := below_alloc (rqSet_below HB4.out (Nat.le_refl _) 0 0 0 0 0 (.slice none 0 0) ⟨#[]⟩ ⟨#[]⟩ ⟨#[]⟩ ⟨#[]⟩ ⟨#[]⟩ ⟨#[]⟩) (.cells (rqC n1 n2 n3 0 0 (.slice none 0 0) ⟨#[]⟩ []) 47)
   unfold rqSet at hT hB
   refine bodyPost_ret (results_ct rfl _ _ w.heap.size 47 #[.int .i64 0, .int .i64 0, .int .i64 0, .int .i64 0, .int .i64 0, .slice none 0 0, .string ⟨#[]⟩, .string ⟨#[]⟩, .string ⟨#[]⟩, .string ⟨#[]⟩, .string ⟨#[]⟩, .string ⟨#[]⟩] (0, 0) _ rfl hT Tryd.underlying47 rfl (by kernel_rfl)) rfl ?_
   exact ⟨_, rfl, Kd.R_nil _ _ _ _ _, hB⟩
  rw [if_neg Bool.false_ne_true] at h
  obtain ⟨⟨tn, nm, cv, se, da, de⟩, gd, h2⟩ := Option.bind_eq_some_iff.mp h
  clear h
  simp only at h2
  have GD := Aside0.mk gd
  clear gd
  by_cases hd : de = 0
  case neg =>
   rw [if_neg hd] at h2
   simp only [reqZ, Option.some.injEq, Prod.mk.injEq] at h2
   obtain ⟨rfl, rfl, rfl, rfl, rfl, rfl, rfl, rfl, rfl, rfl, rfl, rfl, rfl⟩ := h2
   have nd : (de == 0) = false := beq_eq_false_iff_ne.mpr hd
   have nf : (de != 0) = true := bne_iff_ne.mpr hd
   clear hd
   go_enter Tryd.func23, Tryd.ntmps23
   go_wp2_with (first
     | (go_at_call 39; (with_reducible refine (frame_begun.calls A0 c0 l0 1 l a0 e0 w _ ?hb ?hr ?hc HBG.out).mono ?_); (case hb => exact below_alloc (Below.refl _ _) _); (case hr => exact HR0.out); (case hc => exact HC0.out); rintro e w0 ⟨gr, rfl, hi, hb, hb2⟩; have hZ := blk_below (heap_alloc_new w (.cells (rqC 0 0 0 0 0 (.slice none 0 0) ⟨#[]⟩ []) 47)) hb2; have NZ := Aside0.mk (show w.heap.size ≠ gr from (by obtain ⟨A, c, hbk, _⟩ := hi; exact blk_ne hZ hbk (by decide))); have HZ1 := Aside0.mk hZ; have HI1 := Aside0.mk hi; have HB1 := Aside0.mk hb; clear hi hb hb2 hZ)
     | (go_at_call 40; (with_reducible refine (frame_reader_number.calls k gr l a0 e0 n1 a1 e1 w _ ?hi ?hb G1.out).mono ?_); (case hi => exact HI1.out); (case hb => exact HB1.out); rintro e w1 ⟨rfl, hi, hb, hk⟩; have HI2 := Aside0.mk hi; have HB2 := Aside0.mk hb; have HZ2 := Aside0.mk (hk.blk HZ1.out NZ.out (by simp)); clear hi hb hk HI1 HB1 HZ1)
     | (go_at_call 40; (with_reducible refine (frame_reader_number.calls k gr l a1 e1 n2 a2 e2 w _ ?hi ?hb G2.out).mono ?_); (case hi => exact HI2.out); (case hb => exact HB2.out); rintro e w2 ⟨rfl, hi, hb, hk⟩; have HI3 := Aside0.mk hi; have HB3 := Aside0.mk hb; have HZ3 := Aside0.mk (hk.blk HZ2.out NZ.out (by simp)); clear hi hb hk HI2 HB2 HZ2)
     | (go_at_call 40; (with_reducible refine (frame_reader_number.calls k gr l a2 e2 n3 a3 false w _ ?hi ?hb G3.out).mono ?_); (case hi => exact HI3.out); (case hb => exact HB3.out); rintro e w3 ⟨rfl, hi, hb, hk⟩; have HI4 := Aside0.mk hi; have HB4 := Aside0.mk hb; have HZ4 := Aside0.mk (hk.blk HZ3.out NZ.out (by simp)); clear hi hb hk HI3 HB3 HZ3; have HS4 : Aside0 (RqS w (w3.alloc (.cells (rqC n1 n2 n3 0 0 (.slice none 0 0) ⟨#[]⟩ []) 47)) w.heap.size gr w3.heap.size l a3 false n1 n2 n3 0 0 (.slice none 0 0) ⟨#[]⟩ [] []) := ⟨⟨HI4.out.alloc _, blk_alloc HZ4.out _, heap_alloc_new _ _, Kd.R_nil _ _ _ _ _, below_alloc HB4.out _, NZ.out, Nat.ne_of_lt HI4.out.lt, Nat.ne_of_lt (blk_lt HZ4.out), Nat.le_refl _, HB4.out.size⟩⟩; have b1 := HI4.out.cell_1; have b2 := HI4.out.cell_2; have lr := HI4.out.lt; have lz := blk_lt HZ4.out; obtain ⟨z0, z1, z2, z3, z4, z5, z6, z7, z8, z9, z10, z11⟩ := rq_cells HZ4.out; have y0 := blk_frozen HZ4.out 0; have y1 := blk_frozen HZ4.out 1; have y2 := blk_frozen HZ4.out 2; have y3 := blk_frozen HZ4.out 3; have y4 := blk_frozen HZ4.out 4; have y5 := blk_frozen HZ4.out 5; have y6 := blk_frozen HZ4.out 6; have y7 := blk_frozen HZ4.out 7; have y8 := blk_frozen HZ4.out 8; have y9 := blk_frozen HZ4.out 9; have y10 := blk_frozen HZ4.out 10; have y11 := blk_frozen HZ4.out 11)
     | (go_at_call 56; (with_reducible refine (cap_Decode.calls k A0 c0 l0 a3 tn nm cv se da _ _ ?hr ?hc GD.out).mono ?_); (case hr => exact Kd.C_below HR0.out HS4.out.B); (case hc => exact HC0.out); rintro e w5 ⟨v5, rfl, hr5, hb5⟩; obtain ⟨A5, c5, rfl⟩ := Kd.R_slice hr5; have HS5 := Aside0.mk (HS4.out.below hb5); have HO5 : Aside0 (Kd.R k91 91 w5 w.heap.size (fun j => j ≠ gr ∧ j ≠ w3.heap.size ∧ j ≠ w.heap.size) (.slice A5 cv.length c5) cv) := ⟨Kd.R_lower (Kd.R_mono (Kd.R_bound hr5) (fun j hj => (by have h_ := hj.2.1; simp at h_; omega))) HS4.out.B.size⟩; clear b1 b2 lr lz z0 z1 z2 z3 z4 z5 z6 z7 z8 z9 z10 z11 y0 y1 y2 y3 y4 y5 y6 y7 y8 y9 y10 y11; have lz := blk_lt HS5.out.Z; obtain ⟨⟨z0, z1, z2, z3, z4, z5, z6, z7, z8, z9, z10, z11⟩, y0, y1, y2, y3, y4, y5, y6, y7, y8, y9, y10, y11⟩ := HS5.out.zcells; clear hr5 hb5))
   have hT := blk_alloc (rqSet_blk HS5.out.Z 0 0 0 0 0 (.slice none 0 0) ⟨#[]⟩ ⟨#[]⟩ ⟨#[]⟩ ⟨#[]⟩ ⟨#[]⟩ ⟨#[]⟩) (.cells #[.int .i64 tn, .int .i64 nm, .slice A5 cv.length c5, .string se] 45)
   have hB := below_alloc (rqSet_below HS5.out.B (Nat.le_refl _) 0 0 0 0 0 (.slice none 0 0) ⟨#[]⟩ ⟨#[]⟩ ⟨#[]⟩ ⟨#[]⟩ ⟨#[]⟩ ⟨#[]⟩) (.cells #[.int .i64 tn, .int .i64 nm, .slice A5 cv.length c5, .string se] 45)
   unfold rqSet at hT hB
   refine bodyPost_ret (results_ct rfl _ _ w.heap.size 47 #[.int .i64 0, .int .i64 0, .int .i64 0, .int .i64 0, .int .i64 0, .slice none 0 0, .string ⟨#[]⟩, .string ⟨#[]⟩, .string ⟨#[]⟩, .string ⟨#[]⟩, .string ⟨#[]⟩, .string ⟨#[]⟩] (0, 0) _ rfl hT Tryd.underlying47 rfl (by kernel_rfl)) rfl ?_
   exact ⟨_, rfl, Kd.R_nil _ _ _ _ _, hB⟩
  subst hd
  rw [if_pos rfl] at h2
  obtain ⟨⟨ts, ta, te⟩, gt, h⟩ := Option.bind_eq_some_iff.mp h2
  clear h2
  simp only at h
  have GT := Aside0.mk gt
  have HH := Aside0.mk h
  clear gt h
  go_enter Tryd.func23, Tryd.ntmps23
  go_wp2_with (first
    | (go_at_call 39; (with_reducible refine (frame_begun.calls A0 c0 l0 1 l a0 e0 w _ ?hb ?hr ?hc HBG.out).mono ?_); (case hb => exact below_alloc (Below.refl _ _) _); (case hr => exact HR0.out); (case hc => exact HC0.out); rintro e w0 ⟨gr, rfl, hi, hb, hb2⟩; have hZ := blk_below (heap_alloc_new w (.cells (rqC 0 0 0 0 0 (.slice none 0 0) ⟨#[]⟩ []) 47)) hb2; have NZ := Aside0.mk (show w.heap.size ≠ gr from (by obtain ⟨A, c, hbk, _⟩ := hi; exact blk_ne hZ hbk (by decide))); have HZ1 := Aside0.mk hZ; have HI1 := Aside0.mk hi; have HB1 := Aside0.mk hb; clear hi hb hb2 hZ)
    | (go_at_call 40; (with_reducible refine (frame_reader_number.calls k gr l a0 e0 n1 a1 e1 w _ ?hi ?hb G1.out).mono ?_); (case hi => exact HI1.out); (case hb => exact HB1.out); rintro e w1 ⟨rfl, hi, hb, hk⟩; have HI2 := Aside0.mk hi; have HB2 := Aside0.mk hb; have HZ2 := Aside0.mk (hk.blk HZ1.out NZ.out (by simp)); clear hi hb hk HI1 HB1 HZ1)
    | (go_at_call 40; (with_reducible refine (frame_reader_number.calls k gr l a1 e1 n2 a2 e2 w _ ?hi ?hb G2.out).mono ?_); (case hi => exact HI2.out); (case hb => exact HB2.out); rintro e w2 ⟨rfl, hi, hb, hk⟩; have HI3 := Aside0.mk hi; have HB3 := Aside0.mk hb; have HZ3 := Aside0.mk (hk.blk HZ2.out NZ.out (by simp)); clear hi hb hk HI2 HB2 HZ2)
    | (go_at_call 40; (with_reducible refine (frame_reader_number.calls k gr l a2 e2 n3 a3 false w _ ?hi ?hb G3.out).mono ?_); (case hi => exact HI3.out); (case hb => exact HB3.out); rintro e w3 ⟨rfl, hi, hb, hk⟩; have HI4 := Aside0.mk hi; have HB4 := Aside0.mk hb; have HZ4 := Aside0.mk (hk.blk HZ3.out NZ.out (by simp)); clear hi hb hk HI3 HB3 HZ3; have HS4 : Aside0 (RqS w (w3.alloc (.cells (rqC n1 n2 n3 0 0 (.slice none 0 0) ⟨#[]⟩ []) 47)) w.heap.size gr w3.heap.size l a3 false n1 n2 n3 0 0 (.slice none 0 0) ⟨#[]⟩ [] []) := ⟨⟨HI4.out.alloc _, blk_alloc HZ4.out _, heap_alloc_new _ _, Kd.R_nil _ _ _ _ _, below_alloc HB4.out _, NZ.out, Nat.ne_of_lt HI4.out.lt, Nat.ne_of_lt (blk_lt HZ4.out), Nat.le_refl _, HB4.out.size⟩⟩; have b1 := HI4.out.cell_1; have b2 := HI4.out.cell_2; have lr := HI4.out.lt; have lz := blk_lt HZ4.out; obtain ⟨z0, z1, z2, z3, z4, z5, z6, z7, z8, z9, z10, z11⟩ := rq_cells HZ4.out; have y0 := blk_frozen HZ4.out 0; have y1 := blk_frozen HZ4.out 1; have y2 := blk_frozen HZ4.out 2; have y3 := blk_frozen HZ4.out 3; have y4 := blk_frozen HZ4.out 4; have y5 := blk_frozen HZ4.out 5; have y6 := blk_frozen HZ4.out 6; have y7 := blk_frozen HZ4.out 7; have y8 := blk_frozen HZ4.out 8; have y9 := blk_frozen HZ4.out 9; have y10 := blk_frozen HZ4.out 10; have y11 := blk_frozen HZ4.out 11)
    | (go_at_call 56; (with_reducible refine (cap_Decode.calls k A0 c0 l0 a3 tn nm cv se da _ _ ?hr ?hc GD.out).mono ?_); (case hr => exact Kd.C_below HR0.out HS4.out.B); (case hc => exact HC0.out); rintro e w5 ⟨v5, rfl, hr5, hb5⟩; obtain ⟨A5, c5, rfl⟩ := Kd.R_slice hr5; have HS5 := Aside0.mk (HS4.out.below hb5); have HO5 : Aside0 (Kd.R k91 91 w5 w.heap.size (fun j => j ≠ gr ∧ j ≠ w3.heap.size ∧ j ≠ w.heap.size) (.slice A5 cv.length c5) cv) := ⟨Kd.R_lower (Kd.R_mono (Kd.R_bound hr5) (fun j hj => (by have h_ := hj.2.1; simp at h_; omega))) HS4.out.B.size⟩; clear b1 b2 lr lz z0 z1 z2 z3 z4 z5 z6 z7 z8 z9 z10 z11 y0 y1 y2 y3 y4 y5 y6 y7 y8 y9 y10 y11; have HR5 := Aside0.mk (HS5.out.tok (at' := da) (t1 := tn) (t2 := nm) (se' := se) HO5.out); obtain ⟨q0, q1, q2, q3, q4, q5, q6, q7, q8, q9, q10, q11⟩ := HS5.out.qcells; obtain ⟨b1, b2, b3, b4, b5⟩ := HS5.out.cells; have f3 := blk_frozen HS5.out.Q 3; have f4 := blk_frozen HS5.out.Q 4; have f5 := blk_frozen HS5.out.Q 5; have f6 := blk_frozen HS5.out.Q 6; have nr := HS5.out.nr; have nr' := HS5.out.nr.symm; clear hr5 hb5))
  go_region
  refine abs_thenF ?_
  intro w6 hw6
  have HS6 : Aside0 (RqS w w6 w.heap.size gr w3.heap.size l da false n1 n2 n3 tn nm (.slice A5 cv.length c5) se [] cv) := ⟨by rw [hw6]; exact (HR5.out.below (below_alloc (Below.refl _ _) _)).drew⟩
  clear hw6 HR5 HS5 HS4 HO5 HI4 HB4 HZ4 NZ q0 q1 q2 q3 q4 q5 q6 q7 q8 q9 q10 q11 b1 b2 b3 b4 b5 f3 f4 f5 f6 nr nr' HBG G1 G2 G3 GD HR0 HC0
  generalize w3.heap.size = gq at HS6
  go_wp2
  have HP6 := heap_alloc_new w6 (.cells (rqP gq) 99)
  have HI := Aside0.mk (show rrI w w6 k l da gr gq n1 n2 n3 tn nm (.slice A5 cv.length c5) se cv (.int .i64 0) (w6.alloc (.cells (rqP gq) 99)) from ⟨[], da, false, rfl, by simp, rfl, HS6.out.below (below_alloc (Below.refl _ _) _), HP6⟩)
  have lr := HS6.out.I.lt
  have lq := blk_lt HS6.out.Q
  clear HP6 HS6
  go_loopw [55] (fun i wr => rrI w w6 k l da gr gq n1 n2 n3 tn nm (.slice A5 cv.length c5) se cv i wr) (fun i _ => 5 - (intOf i).toNat)
  case atStart => exact HI.out
  obtain ⟨ts', at_, e, rfl, hle, hm, hS, hP⟩ := hrel
  have HS := Aside0.mk hS
  have HPP := Aside0.mk hP
  by_cases hlt : ts'.length < 5
  ·obtain ⟨⟨us, a', e'⟩, h6⟩ := rdTexts_upto (ts'.length + 1) 5 _ GT.out (by omega)
   have H6 := Aside0.mk h6
   rw [rdTexts, hm] at h6
   simp only [Option.bind_some] at h6
   obtain ⟨⟨x, x2, x3⟩, gx, h7⟩ := Option.bind_eq_some_iff.mp h6
   simp only [Option.some.injEq, Prod.mk.injEq] at h7
   obtain ⟨rfl, rfl, rfl⟩ := h7
   have GX := Aside0.mk gx
   have k0 := (blk_cell HPP.out ts'.length).trans (rqP_at gq ts'.length hlt)
   have lt' : (ts'.length : Int) < 5 := by omega
   have HL := Aside0.mk hlt
   clear hm hS hP h6 gx hlt
   go_wp2_with (go_at_call 42; (with_reducible refine (frame_reader_text.calls k gr l at_ e 65536 x _ _ w _ ?hi ?hb GX.out).mono ?_); (case hi => exact HS.out.I); (case hb => exact HS.out.B); rintro e w7 ⟨rfl, hi, hb, hk⟩; have HS7 := Aside0.mk (HS.out.keep hk hi hb); have HP7 := Aside0.mk (hk.blk HPP.out (Nat.ne_of_gt lr) (by simp)); have k7 := (blk_cell HS7.out.Q (7 + ts'.length)).trans (rqC_at _ _ _ _ _ _ _ _ _ HL.out); have f7 := blk_frozen HS7.out.Q (7 + ts'.length); clear hi hb hk k0 HS HPP)
   go_roundw
   case rel => exact ⟨ts' ++ [x], _, _, by simp, by simp; omega, by rw [List.length_append]; exact H6.out, HS7.out.set7 HL.out, blk_far HP7.out (Nat.ne_of_gt lq) _⟩
   case measure => simp [intOf]; omega
  obtain hl5 : ts'.length = 5 := by omega
  have he := GT.out
  rw [← hl5, hm] at he
  simp only [Option.some.injEq, Prod.mk.injEq] at he
  obtain ⟨rfl, rfl, rfl⟩ := he
  have lt' : ¬ (ts'.length : Int) < 5 := by omega
  have HL := Aside0.mk hl5
  clear hm hS hP hlt hl5 hle HPP HI GT
  obtain ⟨b1, b2, b3, b4, b5⟩ := HS.out.cells
  obtain ⟨q0, q1, q2, q3, q4, q5, q6, q7, q8, q9, q10, q11⟩ := HS.out.qcells
  obtain ⟨⟨z0, z1, z2, z3, z4, z5, z6, z7, z8, z9, z10, z11⟩, y0, y1, y2, y3, y4, y5, y6, y7, y8, y9, y10, y11⟩ := HS.out.zcells
  have hh := HH.out
  clear HH
  cases e
  case true =>
   rw [if_pos rfl] at hh
   simp only [reqZ, Option.some.injEq, Prod.mk.injEq] at hh
   obtain ⟨rfl, rfl, rfl, rfl, rfl, rfl, rfl, rfl, rfl, rfl, rfl, rfl, rfl⟩ := hh
   go_wp2
   have hT := rqSet_blk HS.out.Z 0 0 0 0 0 (.slice none 0 0) ⟨#[]⟩ ⟨#[]⟩ ⟨#[]⟩ ⟨#[]⟩ ⟨#[]⟩ ⟨#[]⟩
   have hB := rqSet_below HS.out.B (Nat.le_refl _) 0 0 0 0 0 (.slice none 0 0) ⟨#[]⟩ ⟨#[]⟩ ⟨#[]⟩ ⟨#[]⟩ ⟨#[]⟩ ⟨#[]⟩
   unfold rqSet at hT hB
   refine bodyPost_ret (results_ct rfl _ _ w.heap.size 47 #[.int .i64 0, .int .i64 0, .int .i64 0, .int .i64 0, .int .i64 0, .slice none 0 0, .string ⟨#[]⟩, .string ⟨#[]⟩, .string ⟨#[]⟩, .string ⟨#[]⟩, .string ⟨#[]⟩, .string ⟨#[]⟩] (0, 0) _ rfl hT Tryd.underlying47 rfl (by kernel_rfl)) rfl ?_
   exact ⟨_, rfl, Kd.R_nil _ _ _ _ _, hB⟩
  rw [if_neg Bool.false_ne_true] at hh
  by_cases hat : at_ = (l0.length : Int)
  case neg =>
   rw [if_neg hat] at hh
   simp only [reqZ, Option.some.injEq, Prod.mk.injEq] at hh
   obtain ⟨rfl, rfl, rfl, rfl, rfl, rfl, rfl, rfl, rfl, rfl, rfl, rfl, rfl⟩ := hh
   have na : (at_ == (l0.length : Int)) = false := beq_eq_false_iff_ne.mpr hat
   have nb : (at_ != (l0.length : Int)) = true := bne_iff_ne.mpr hat
   clear hat
   go_wp2
   have hT := rqSet_blk HS.out.Z 0 0 0 0 0 (.slice none 0 0) ⟨#[]⟩ ⟨#[]⟩ ⟨#[]⟩ ⟨#[]⟩ ⟨#[]⟩ ⟨#[]⟩
   have hB := rqSet_below HS.out.B (Nat.le_refl _) 0 0 0 0 0 (.slice none 0 0) ⟨#[]⟩ ⟨#[]⟩ ⟨#[]⟩ ⟨#[]⟩ ⟨#[]⟩ ⟨#[]⟩
   unfold rqSet at hT hB
   refine bodyPost_ret (results_ct rfl _ _ w.heap.size 47 #[.int .i64 0, .int .i64 0, .int .i64 0, .int .i64 0, .int .i64 0, .slice none 0 0, .string ⟨#[]⟩, .string ⟨#[]⟩, .string ⟨#[]⟩, .string ⟨#[]⟩, .string ⟨#[]⟩, .string ⟨#[]⟩] (0, 0) _ rfl hT Tryd.underlying47 rfl (by kernel_rfl)) rfl ?_
   exact ⟨_, rfl, Kd.R_nil _ _ _ _ _, hB⟩
  rw [if_pos hat] at hh
  obtain ⟨ok, hok, hh2⟩ := Option.bind_eq_some_iff.mp hh
  clear hh
  have HRT := Aside0.mk hok
  clear hok
  have na : (at_ == (l0.length : Int)) = true := beq_iff_eq.mpr hat
  have nb : (at_ != (l0.length : Int)) = false := bne_eq_false_iff_eq.mpr hat
  clear hat
  cases ok
  case false =>
   rw [if_neg Bool.false_ne_true] at hh2
   simp only [reqZ, Option.some.injEq, Prod.mk.injEq] at hh2
   obtain ⟨rfl, rfl, rfl, rfl, rfl, rfl, rfl, rfl, rfl, rfl, rfl, rfl, rfl⟩ := hh2
   go_wp2_with (go_at_call 22; (with_reducible refine (frame_Right.calls k n1 n2 n3 tn nm A5 c5 cv se (sAt ts' 0) (sAt ts' 1) (sAt ts' 2) (sAt ts' 3) (sAt ts' 4) false _ ?hr ?hc HRT.out).mono ?_); (case hr => exact (Kd.R_reads' HS.out.R).2.2); (case hc => exact (Kd.R_reads' HS.out.R).2.1); rintro e w9 ⟨rfl, hb⟩; have HS9 := Aside0.mk (HS.out.below hb); clear hb q0 q1 q2 q3 q4 q5 q6 q7 q8 q9 q10 q11 b1 b2 b3 b4 b5 z0 z1 z2 z3 z4 z5 z6 z7 z8 z9 z10 z11 y0 y1 y2 y3 y4 y5 y6 y7 y8 y9 y10 y11; obtain ⟨⟨z0, z1, z2, z3, z4, z5, z6, z7, z8, z9, z10, z11⟩, y0, y1, y2, y3, y4, y5, y6, y7, y8, y9, y10, y11⟩ := HS9.out.zcells)
   have hT := rqSet_blk HS9.out.Z 0 0 0 0 0 (.slice none 0 0) ⟨#[]⟩ ⟨#[]⟩ ⟨#[]⟩ ⟨#[]⟩ ⟨#[]⟩ ⟨#[]⟩
   have hB := rqSet_below HS9.out.B (Nat.le_refl _) 0 0 0 0 0 (.slice none 0 0) ⟨#[]⟩ ⟨#[]⟩ ⟨#[]⟩ ⟨#[]⟩ ⟨#[]⟩ ⟨#[]⟩
   unfold rqSet at hT hB
   refine bodyPost_ret (results_ct rfl _ _ w.heap.size 47 #[.int .i64 0, .int .i64 0, .int .i64 0, .int .i64 0, .int .i64 0, .slice none 0 0, .string ⟨#[]⟩, .string ⟨#[]⟩, .string ⟨#[]⟩, .string ⟨#[]⟩, .string ⟨#[]⟩, .string ⟨#[]⟩] (0, 0) _ rfl hT Tryd.underlying47 rfl (by kernel_rfl)) rfl ?_
   exact ⟨_, rfl, Kd.R_nil _ _ _ _ _, hB⟩
  rw [if_pos rfl] at hh2
  simp only [Option.some.injEq, Prod.mk.injEq] at hh2
  obtain ⟨rfl, rfl, rfl, rfl, rfl, rfl, rfl, rfl, rfl, rfl, rfl, rfl, rfl⟩ := hh2
  go_wp2_with (go_at_call 22; (with_reducible refine (frame_Right.calls k n1 n2 n3 tn nm A5 c5 cv se (sAt ts' 0) (sAt ts' 1) (sAt ts' 2) (sAt ts' 3) (sAt ts' 4) true _ ?hr ?hc HRT.out).mono ?_); (case hr => exact (Kd.R_reads' HS.out.R).2.2); (case hc => exact (Kd.R_reads' HS.out.R).2.1); rintro e w9 ⟨rfl, hb⟩; have HS9 := Aside0.mk (HS.out.below hb); clear hb q0 q1 q2 q3 q4 q5 q6 q7 q8 q9 q10 q11 b1 b2 b3 b4 b5 z0 z1 z2 z3 z4 z5 z6 z7 z8 z9 z10 z11 y0 y1 y2 y3 y4 y5 y6 y7 y8 y9 y10 y11; obtain ⟨⟨z0, z1, z2, z3, z4, z5, z6, z7, z8, z9, z10, z11⟩, y0, y1, y2, y3, y4, y5, y6, y7, y8, y9, y10, y11⟩ := HS9.out.zcells; obtain ⟨q0, q1, q2, q3, q4, q5, q6, q7, q8, q9, q10, q11⟩ := HS9.out.qcells)
  have hT := rqSet_blk HS9.out.Z n1 n2 n3 tn nm (.slice A5 cv.length c5) se (sAt ts' 0) (sAt ts' 1) (sAt ts' 2) (sAt ts' 3) (sAt ts' 4)
  have hR := rqSet_told HS9.out n1 n2 n3 tn nm (.slice A5 cv.length c5) se (sAt ts' 0) (sAt ts' 1) (sAt ts' 2) (sAt ts' 3) (sAt ts' 4)
  have hB := rqSet_below HS9.out.B (Nat.le_refl _) n1 n2 n3 tn nm (.slice A5 cv.length c5) se (sAt ts' 0) (sAt ts' 1) (sAt ts' 2) (sAt ts' 3) (sAt ts' 4)
  unfold rqSet at hT hR hB
  refine bodyPost_ret (results_ct rfl _ _ w.heap.size 47 #[.int .i64 n1, .int .i64 n2, .int .i64 n3, .int .i64 tn, .int .i64 nm, .slice A5 cv.length c5, .string se, .string (sAt ts' 0), .string (sAt ts' 1), .string (sAt ts' 2), .string (sAt ts' 3), .string (sAt ts' 4)] (0, 0) _ rfl hT Tryd.underlying47 rfl (by kernel_rfl)) rfl ?_
  exact ⟨_, rfl, hR, hB⟩

-- NOT PRINTED: function 7 (strongroomlaw25_FrameCuts)

end Go.Proofs.YtoankokkdmbjmaaDoorH.HFrameCuts
