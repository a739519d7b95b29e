-- PRINTED by print.py (a twelfth state) out of the translation. Not trusted: Lean checks it.
import Derived.Test.YtoankokkdmbjmaaDoorHFrameCutsx0
import Derived.Test.YtoankokkdmbjmaaDoorHFrameCutsx3
import Derived.Test.YtoankokkdmbjmaaDoorHFrameCutsx7
namespace Go.Proofs.YtoankokkdmbjmaaDoorH.HFrameCuts
open Go.RowKit Go.Proofs.YtoankokkdmbjmaaDoorW.PrintWords Go.Proofs.YtoankokkdmbjmaaDoorW.PrintLast Go.Proofs.YtoankokkdmbjmaaDoorW.PrintMore
attribute [local go_sem] max2_int min2_int max_two min_two max_three min_three max_four min_four   -- for this text's walks alone
set_option linter.unusedVariables false
set_option linter.unusedSimpArgs false

/-! ### frame_ReadReply: function 16 -/
/-- things one behind the other -/
def accS {α : Type} (st : Int → Bool → Option (α × Int × Bool)) (at_ : Int) (e : Bool) : Nat → Option (List α × Int × Bool)
  | 0 => some ([], at_, e)
  | n + 1 => (accS st at_ e n).bind fun t => (st t.2.1 t.2.2).bind fun x => some (t.1 ++ [x.1], x.2.1, x.2.2)
theorem accS.mono {α : Type} {st st' : Int → Bool → Option (α × Int × Bool)} (h : ∀ a e, LeO (st a e) (st' a e)) (at_ : Int) (e : Bool) : ∀ n, LeO (accS st at_ e n) (accS st' at_ e n)
  | 0 => LeO.refl _
  | n + 1 => by
    unfold accS
    exact LeO.bind (accS.mono h at_ e n) (fun _ => LeO.bind (h _ _) (fun _ => LeO.refl _))
theorem accS_upto {α : Type} {st : Int → Bool → Option (α × Int × Bool)} {at_ : Int} {e : Bool} (m : Nat) : ∀ (n : Nat) (t : List α × Int × Bool), accS st at_ e n = some t → m ≤ n → ∃ s, accS st at_ e m = some s
  | 0, t, h, hm => by obtain rfl : m = 0 := by omega
                      exact ⟨t, h⟩
  | n + 1, t, h, hm => by
    by_cases e : m = n + 1
    · subst e; exact ⟨t, h⟩
    unfold accS at h
    obtain ⟨s, hs, h⟩ := Option.bind_eq_some_iff.mp h
    exact accS_upto m n s hs (by omega)
theorem accS_len {α : Type} {st : Int → Bool → Option (α × Int × Bool)} {at_ : Int} {e : Bool} : ∀ (n : Nat) (t : List α × Int × Bool), accS st at_ e n = some t → t.1.length = n
  | 0, t, h => by obtain rfl := Option.some.inj h; rfl
  | n + 1, t, h => by
    unfold accS at h
    obtain ⟨s, hs, h⟩ := Option.bind_eq_some_iff.mp h
    obtain ⟨x, _, h⟩ := Option.bind_eq_some_iff.mp h
    obtain rfl := Option.some.inj h
    have := accS_len n s hs
    simp [this]
def rpPath (k : Nat) (l : List Int) (a : Int) (e : Bool) : Option (ByteArray × Int × Bool) := frame_reader_text.f k l a e 32
def rpSign (k : Nat) (l : List Int) (a : Int) (e : Bool) : Option (S65 × Int × Bool) := (frame_reader_number.f k l a e).bind fun n => (frame_reader_text.f k l n.2.1 (if n.2.2 = true then true else decide (4294967296 ≤ n.1)) 16).bind fun t => some (⟨n.1 % 4294967296, t.1⟩, t.2.1, t.2.2)
def rpSpan (k : Nat) (l : List Int) (a : Int) (e : Bool) : Option (S74 × Int × Bool) := (frame_reader_number.f k l a e).bind fun n => (frame_reader_number.f k l n.2.1 n.2.2).bind fun t => some (⟨n.1, t.1⟩, t.2.1, t.2.2)
def rpEnt (k : Nat) (l : List Int) (a : Int) (e : Bool) : Option (S67 × Int × Bool) := (frame_reader_number.f k l a e).bind fun n => (frame_reader_number.f k l n.2.1 n.2.2).bind fun t => (frame_reader_number.f k l t.2.1 t.2.2).bind fun p => (frame_reader_text.f k l p.2.1 p.2.2 32).bind fun x => (frame_reader_number.f k l x.2.1 x.2.2).bind fun y => some (⟨n.1, t.1, p.1, x.1, y.1⟩, y.2.1, y.2.2)
abbrev RepR := Int × Int × Int × List ByteArray × ByteArray × ByteArray × List S65 × List S74 × ByteArray × List S67 × Int × Int × Int
def repZ (e : Int) : RepR := (0, 0, 0, [], ⟨#[]⟩, ⟨#[]⟩, [], [], ⟨#[]⟩, [], 0, 0, e)
/-- a reply's parts, one behind the other: what is read, the place behind, is it bad -/
def rpAll (k : Nat) (l : List Int) (a0 : Int) (e0 : Bool) : Option ((Int × Int × Int × List ByteArray × ByteArray × ByteArray × List S65 × List S74 × ByteArray × List S67 × Int × Int) × Int × Bool) :=
  (frame_reader_number.f k l a0 e0).bind fun n1 => (frame_reader_number.f k l n1.2.1 n1.2.2).bind fun n2 => (frame_reader_number.f k l n2.2.1 n2.2.2).bind fun n3 =>
  (frame_reader_many.f k l n3.2.1 n3.2.2 64).bind fun c1 => (accS (rpPath k l) c1.2.1 c1.2.2 c1.1.toNat).bind fun p => (frame_reader_text.f k l p.2.1 p.2.2 1024).bind fun d => (frame_reader_text.f k l d.2.1 d.2.2 32).bind fun s =>
  (frame_reader_many.f k l s.2.1 s.2.2 1024).bind fun c2 => (accS (rpSign k l) c2.2.1 c2.2.2 c2.1.toNat).bind fun g => (frame_reader_many.f k l g.2.1 g.2.2 4).bind fun c3 => (accS (rpSpan k l) c3.2.1 c3.2.2 c3.1.toNat).bind fun sp =>
  (frame_reader_text.f k l sp.2.1 sp.2.2 12).bind fun no => (frame_reader_many.f k l no.2.1 no.2.2 8).bind fun c4 => (accS (rpEnt k l) c4.2.1 c4.2.2 c4.1.toNat).bind fun es => (frame_reader_number.f k l es.2.1 es.2.2).bind fun u => (frame_reader_number.f k l u.2.1 u.2.2).bind fun al =>
  some ((n1.1, n2.1, n3.1, p.1, d.1, s.1, g.1, sp.1, no.1, es.1, u.1, al.1), al.2.1, al.2.2)
def frame_ReadReply.f (k : Nat) (l0 : List Int) : Option RepR :=
  if (l0.length : Int) > 65536 then some (repZ 2) else
  (frame_begun.f l0 2).bind fun r => (rpAll k r.1 r.2.1 r.2.2).bind fun t => if t.2.2 = true then some (repZ 4) else if t.2.1 = (l0.length : Int) then
      (frame_Fits.f k t.1.1 t.1.2.1 t.1.2.2.1 t.1.2.2.2.1 t.1.2.2.2.2.1 t.1.2.2.2.2.2.1 t.1.2.2.2.2.2.2.1 t.1.2.2.2.2.2.2.2.1 t.1.2.2.2.2.2.2.2.2.1 t.1.2.2.2.2.2.2.2.2.2.1 t.1.2.2.2.2.2.2.2.2.2.2.1 t.1.2.2.2.2.2.2.2.2.2.2.2).bind fun ok => if ok = true then some (t.1.1, t.1.2.1, t.1.2.2.1, t.1.2.2.2.1, t.1.2.2.2.2.1, t.1.2.2.2.2.2.1, t.1.2.2.2.2.2.2.1, t.1.2.2.2.2.2.2.2.1, t.1.2.2.2.2.2.2.2.2.1, t.1.2.2.2.2.2.2.2.2.2.1, t.1.2.2.2.2.2.2.2.2.2.2.1, t.1.2.2.2.2.2.2.2.2.2.2.2, 0) else some (repZ 4)
    else some (repZ 4)
theorem rpAll.mono (k : Nat) (l : List Int) (a0 : Int) (e0 : Bool) : LeO (rpAll k l a0 e0) (rpAll (k + 1) l a0 e0) := by
  unfold rpAll
  repeat' first | exact LeO.refl _ | refine LeO.bind (frame_reader_number.mono _ _ _ _) (fun _ => ?_) | refine LeO.bind (frame_reader_text.mono _ _ _ _ _) (fun _ => ?_) | refine LeO.bind (frame_reader_many.mono _ _ _ _ _) (fun _ => ?_) | refine LeO.bind (accS.mono (fun _ _ => ?_) _ _ _) (fun _ => ?_) | exact frame_reader_text.mono _ _ _ _ _ | unfold rpPath | unfold rpSign | unfold rpSpan | unfold rpEnt
theorem frame_ReadReply.mono : ∀ a0 k, LeO (frame_ReadReply.f k a0) (frame_ReadReply.f (k + 1) a0) := by
  intro a0 k
  unfold frame_ReadReply.f
  repeat' first | exact LeO.refl _ | exact LeO.none _ | refine LeO.ite ?_ ?_ | refine LeO.bind (LeO.refl (frame_begun.f a0 2)) (fun _ => ?_) | refine LeO.bind (rpAll.mono _ _ _ _) (fun _ => ?_) | refine LeO.bind (frame_Fits.mono _ _ _ _ _ _ _ _ _ _ _ _ _) (fun _ => ?_)
/-- a reply's cells -/
def rpC (s q er : Int) (vp : Value) (d su : ByteArray) (vg vs : Value) (no : ByteArray) (ve : Value) (u al : Int) : Array Value := #[.int .i64 s, .int .i64 q, .int .i64 er, vp, .string d, .string su, vg, vs, .string no, ve, .int .i64 u, .int .i64 al]
theorem rp_cells {w : World} {g : Nat} {c0 c1 c2 c3 c4 c5 c6 c7 c8 c9 c10 c11 : Value} (h : w.heap[g]? = some (.cells #[c0, c1, c2, c3, c4, c5, c6, c7, c8, c9, c10, c11] 34 (0, 0))) : (w.cell? ⟨g, 0, none⟩ = some c0 ∧ w.cell? ⟨g, 1, none⟩ = some c1 ∧ w.cell? ⟨g, 2, none⟩ = some c2 ∧ w.cell? ⟨g, 3, none⟩ = some c3 ∧ w.cell? ⟨g, 4, none⟩ = some c4 ∧ w.cell? ⟨g, 5, none⟩ = some c5 ∧ w.cell? ⟨g, 6, none⟩ = some c6 ∧ w.cell? ⟨g, 7, none⟩ = some c7 ∧ w.cell? ⟨g, 8, none⟩ = some c8 ∧ w.cell? ⟨g, 9, none⟩ = some c9 ∧ w.cell? ⟨g, 10, none⟩ = some c10 ∧ w.cell? ⟨g, 11, none⟩ = some c11) ∧ (w.frozen? ⟨g, 0, none⟩ = false ∧ w.frozen? ⟨g, 1, none⟩ = false ∧ w.frozen? ⟨g, 2, none⟩ = false ∧ w.frozen? ⟨g, 3, none⟩ = false ∧ w.frozen? ⟨g, 4, none⟩ = false ∧ w.frozen? ⟨g, 5, none⟩ = false ∧ w.frozen? ⟨g, 6, none⟩ = false ∧ w.frozen? ⟨g, 7, none⟩ = false ∧ w.frozen? ⟨g, 8, none⟩ = false ∧ w.frozen? ⟨g, 9, none⟩ = false ∧ w.frozen? ⟨g, 10, none⟩ = false ∧ w.frozen? ⟨g, 11, none⟩ = false) :=
  ⟨⟨blk_cell h 0, blk_cell h 1, blk_cell h 2, blk_cell h 3, blk_cell h 4, blk_cell h 5, blk_cell h 6, blk_cell h 7, blk_cell h 8, blk_cell h 9, blk_cell h 10, blk_cell h 11⟩, blk_frozen h 0, blk_frozen h 1, blk_frozen h 2, blk_frozen h 3, blk_frozen h 4, blk_frozen h 5, blk_frozen h 6, blk_frozen h 7, blk_frozen h 8, blk_frozen h 9, blk_frozen h 10, blk_frozen h 11⟩
/-- the reader at gr, the reply at gp, what is told back at gz; the lists' rows lie in E -/
structure RpS (w W : World) (E : Nat → Prop) (gz gr gp : Nat) (l : List Int) (at_ : Int) (e : Bool) (s q er : Int) (vp : Value) (d su : ByteArray) (vg vs : Value) (no : ByteArray) (ve : Value) (u al : Int) (ps : List ByteArray) (sg : List S65) (sp : List S74) (es : List S67) : Prop where
  I : IsS85 w W gr l at_ e
  Z : W.heap[gz]? = some (.cells (rpC 0 0 0 (.slice none 0 0) ⟨#[]⟩ ⟨#[]⟩ (.slice none 0 0) (.slice none 0 0) ⟨#[]⟩ (.slice none 0 0) 0 0) 34 (0, 0))
  P : W.heap[gp]? = some (.cells (rpC s q er vp d su vg vs no ve u al) 34 (0, 0))
  Rps : Kd.R Kd.string 9 W w.heap.size (fun j => j ≠ gr ∧ j ≠ gp ∧ j ≠ gz ∧ E j) vp ps
  Rsg : Kd.R k65 65 W w.heap.size (fun j => j ≠ gr ∧ j ≠ gp ∧ j ≠ gz ∧ E j) vg sg
  Rsp : Kd.R k74 74 W w.heap.size (fun j => j ≠ gr ∧ j ≠ gp ∧ j ≠ gz ∧ E j) vs sp
  Res : Kd.R k67 67 W w.heap.size (fun j => j ≠ gr ∧ j ≠ gp ∧ j ≠ gz ∧ E j) ve es
  B : Below w.heap.size w W
  nz : gz ≠ gr
  nr : gr ≠ gp
  nt : gz ≠ gp
  gz : w.heap.size ≤ gz
  gp : w.heap.size ≤ gp
section
variable {w W W' : World} {E : Nat → Prop} {gz gr gp : Nat} {l : List Int} {at_ at' : Int} {e e' : Bool} {s q er : Int} {vp : Value} {d su : ByteArray} {vg vs : Value} {no : ByteArray} {ve : Value} {u al : Int} {ps : List ByteArray} {sg : List S65} {sp : List S74} {es : List S67}
theorem RpS.keep (h : RpS w W E gz gr gp l at_ e s q er vp d su vg vs no ve u al ps sg sp es) (hk : KeepBut W W' gr none) (hi : IsS85 w W' gr l at' e') (hb : Below w.heap.size w W') : RpS w W' E gz gr gp l at' e' s q er vp d su vg vs no ve u al ps sg sp es :=
  ⟨hi, hk.blk h.Z h.nz (by simp), hk.blk h.P h.nr.symm (by simp), Kd.R_keep h.Rps hk (fun _ q => q.1), Kd.R_keep h.Rsg hk (fun _ q => q.1), Kd.R_keep h.Rsp hk (fun _ q => q.1), Kd.R_keep h.Res hk (fun _ q => q.1), hb, h.nz, h.nr, h.nt, h.gz, h.gp⟩
theorem RpS.below (h : RpS w W E gz gr gp l at_ e s q er vp d su vg vs no ve u al ps sg sp es) (hb : Below W.heap.size W W') : RpS w W' E gz gr gp l at_ e s q er vp d su vg vs no ve u al ps sg sp es :=
  ⟨h.I.below hb, blk_below h.Z hb, blk_below h.P hb, Kd.R_below h.Rps hb, Kd.R_below h.Rsg hb, Kd.R_below h.Rsp hb, Kd.R_below h.Res hb, below_step h.B hb, h.nz, h.nr, h.nt, h.gz, h.gp⟩
theorem RpS.drew (h : RpS w W E gz gr gp l at_ e s q er vp d su vg vs no ve u al ps sg sp es) : RpS w W.drew E gz gr gp l at_ e s q er vp d su vg vs no ve u al ps sg sp es :=
  ⟨h.I, h.Z, h.P, Kd.R_drew h.Rps, Kd.R_drew h.Rsg, Kd.R_drew h.Rsp, Kd.R_drew h.Res, below_drew1 h.B, h.nz, h.nr, h.nt, h.gz, h.gp⟩
theorem RpS.setE (h : RpS w W E gz gr gp l at_ e s q er vp d su vg vs no ve u al ps sg sp es) : RpS w (W.setCell ⟨gr, 2, none⟩ (.bool e')) E gz gr gp l at_ e' s q er vp d su vg vs no ve u al ps sg sp es :=
  ⟨h.I.set_2 e', blk_far h.Z h.nz _, blk_far h.P h.nr.symm _, Kd.R_far h.Rps (fun _ q => q.1) _, Kd.R_far h.Rsg (fun _ q => q.1) _, Kd.R_far h.Rsp (fun _ q => q.1) _, Kd.R_far h.Res (fun _ q => q.1) _, below_set h.B h.I.ge, h.nz, h.nr, h.nt, h.gz, h.gp⟩
theorem RpS.set4 (h : RpS w W E gz gr gp l at_ e s q er vp d su vg vs no ve u al ps sg sp es) (x : ByteArray) : RpS w (W.setCell ⟨gp, 4, none⟩ (.string x)) E gz gr gp l at_ e s q er vp x su vg vs no ve u al ps sg sp es :=
  ⟨h.I.far h.nr _, blk_far h.Z h.nt _, blk_set h.P 4 (.string x), Kd.R_far h.Rps (fun _ q => q.2.1) _, Kd.R_far h.Rsg (fun _ q => q.2.1) _, Kd.R_far h.Rsp (fun _ q => q.2.1) _, Kd.R_far h.Res (fun _ q => q.2.1) _, below_set h.B h.gp, h.nz, h.nr, h.nt, h.gz, h.gp⟩
theorem RpS.set5 (h : RpS w W E gz gr gp l at_ e s q er vp d su vg vs no ve u al ps sg sp es) (x : ByteArray) : RpS w (W.setCell ⟨gp, 5, none⟩ (.string x)) E gz gr gp l at_ e s q er vp d x vg vs no ve u al ps sg sp es :=
  ⟨h.I.far h.nr _, blk_far h.Z h.nt _, blk_set h.P 5 (.string x), Kd.R_far h.Rps (fun _ q => q.2.1) _, Kd.R_far h.Rsg (fun _ q => q.2.1) _, Kd.R_far h.Rsp (fun _ q => q.2.1) _, Kd.R_far h.Res (fun _ q => q.2.1) _, below_set h.B h.gp, h.nz, h.nr, h.nt, h.gz, h.gp⟩
theorem RpS.set8 (h : RpS w W E gz gr gp l at_ e s q er vp d su vg vs no ve u al ps sg sp es) (x : ByteArray) : RpS w (W.setCell ⟨gp, 8, none⟩ (.string x)) E gz gr gp l at_ e s q er vp d su vg vs x ve u al ps sg sp es :=
  ⟨h.I.far h.nr _, blk_far h.Z h.nt _, blk_set h.P 8 (.string x), Kd.R_far h.Rps (fun _ q => q.2.1) _, Kd.R_far h.Rsg (fun _ q => q.2.1) _, Kd.R_far h.Rsp (fun _ q => q.2.1) _, Kd.R_far h.Res (fun _ q => q.2.1) _, below_set h.B h.gp, h.nz, h.nr, h.nt, h.gz, h.gp⟩
theorem RpS.set10 (h : RpS w W E gz gr gp l at_ e s q er vp d su vg vs no ve u al ps sg sp es) (x : Int) : RpS w (W.setCell ⟨gp, 10, none⟩ (.int .i64 x)) E gz gr gp l at_ e s q er vp d su vg vs no ve x al ps sg sp es :=
  ⟨h.I.far h.nr _, blk_far h.Z h.nt _, blk_set h.P 10 (.int .i64 x), Kd.R_far h.Rps (fun _ q => q.2.1) _, Kd.R_far h.Rsg (fun _ q => q.2.1) _, Kd.R_far h.Rsp (fun _ q => q.2.1) _, Kd.R_far h.Res (fun _ q => q.2.1) _, below_set h.B h.gp, h.nz, h.nr, h.nt, h.gz, h.gp⟩
theorem RpS.set11 (h : RpS w W E gz gr gp l at_ e s q er vp d su vg vs no ve u al ps sg sp es) (x : Int) : RpS w (W.setCell ⟨gp, 11, none⟩ (.int .i64 x)) E gz gr gp l at_ e s q er vp d su vg vs no ve u x ps sg sp es :=
  ⟨h.I.far h.nr _, blk_far h.Z h.nt _, blk_set h.P 11 (.int .i64 x), Kd.R_far h.Rps (fun _ q => q.2.1) _, Kd.R_far h.Rsg (fun _ q => q.2.1) _, Kd.R_far h.Rsp (fun _ q => q.2.1) _, Kd.R_far h.Res (fun _ q => q.2.1) _, below_set h.B h.gp, h.nz, h.nr, h.nt, h.gz, h.gp⟩
theorem RpS.grow3 {Q : Nat → Prop} {v' : Value} {xs : List ByteArray} (h : RpS w W E gz gr gp l at_ e s q er vp d su vg vs no ve u al ps sg sp es) (ho : Kd.R Kd.string 9 W' w.heap.size (fun j => j ≠ gr ∧ j ≠ gp ∧ j ≠ gz ∧ Q j) v' xs) (hb : Below w.heap.size w W') (hg : W.grownBy W' vp.ownBlock) : RpS w (W'.setCell ⟨gp, 3, none⟩ v') (fun _ => True) gz gr gp l at_ e s q er v' d su vg vs no ve u al xs sg sp es :=
  ⟨(h.I.grown hg (Kd.R_away h.Rps (fun _ q => q.1))).far h.nr _, blk_far (blk_grown h.Z hg (Kd.R_away h.Rps (fun _ q => q.2.2.1))) h.nt _, blk_set (blk_grown h.P hg (Kd.R_away h.Rps (fun _ q => q.2.1))) 3 v', Kd.R_mono (Kd.R_far ho (fun _ q => q.2.1) _) (fun _ q => ⟨q.1, q.2.1, q.2.2.1, trivial⟩), Kd.R_mono (Kd.R_far (Kd.R_over' h.Rsg (Kd.R_typed h.Rps) (by decide) hg) (fun _ q => q.2.1) _) (fun _ q => ⟨q.1, q.2.1, q.2.2.1, trivial⟩), Kd.R_mono (Kd.R_far (Kd.R_over' h.Rsp (Kd.R_typed h.Rps) (by decide) hg) (fun _ q => q.2.1) _) (fun _ q => ⟨q.1, q.2.1, q.2.2.1, trivial⟩), Kd.R_mono (Kd.R_far (Kd.R_over' h.Res (Kd.R_typed h.Rps) (by decide) hg) (fun _ q => q.2.1) _) (fun _ q => ⟨q.1, q.2.1, q.2.2.1, trivial⟩), below_set hb h.gp, h.nz, h.nr, h.nt, h.gz, h.gp⟩
theorem RpS.grow6 {Q : Nat → Prop} {v' : Value} {xs : List S65} (h : RpS w W E gz gr gp l at_ e s q er vp d su vg vs no ve u al ps sg sp es) (ho : Kd.R k65 65 W' w.heap.size (fun j => j ≠ gr ∧ j ≠ gp ∧ j ≠ gz ∧ Q j) v' xs) (hb : Below w.heap.size w W') (hg : W.grownBy W' vg.ownBlock) : RpS w (W'.setCell ⟨gp, 6, none⟩ v') (fun _ => True) gz gr gp l at_ e s q er vp d su v' vs no ve u al ps xs sp es :=
  ⟨(h.I.grown hg (Kd.R_away h.Rsg (fun _ q => q.1))).far h.nr _, blk_far (blk_grown h.Z hg (Kd.R_away h.Rsg (fun _ q => q.2.2.1))) h.nt _, blk_set (blk_grown h.P hg (Kd.R_away h.Rsg (fun _ q => q.2.1))) 6 v', Kd.R_mono (Kd.R_far (Kd.R_over' h.Rps (Kd.R_typed h.Rsg) (by decide) hg) (fun _ q => q.2.1) _) (fun _ q => ⟨q.1, q.2.1, q.2.2.1, trivial⟩), Kd.R_mono (Kd.R_far ho (fun _ q => q.2.1) _) (fun _ q => ⟨q.1, q.2.1, q.2.2.1, trivial⟩), Kd.R_mono (Kd.R_far (Kd.R_over' h.Rsp (Kd.R_typed h.Rsg) (by decide) hg) (fun _ q => q.2.1) _) (fun _ q => ⟨q.1, q.2.1, q.2.2.1, trivial⟩), Kd.R_mono (Kd.R_far (Kd.R_over' h.Res (Kd.R_typed h.Rsg) (by decide) hg) (fun _ q => q.2.1) _) (fun _ q => ⟨q.1, q.2.1, q.2.2.1, trivial⟩), below_set hb h.gp, h.nz, h.nr, h.nt, h.gz, h.gp⟩
theorem RpS.grow7 {Q : Nat → Prop} {v' : Value} {xs : List S74} (h : RpS w W E gz gr gp l at_ e s q er vp d su vg vs no ve u al ps sg sp es) (ho : Kd.R k74 74 W' w.heap.size (fun j => j ≠ gr ∧ j ≠ gp ∧ j ≠ gz ∧ Q j) v' xs) (hb : Below w.heap.size w W') (hg : W.grownBy W' vs.ownBlock) : RpS w (W'.setCell ⟨gp, 7, none⟩ v') (fun _ => True) gz gr gp l at_ e s q er vp d su vg v' no ve u al ps sg xs es :=
  ⟨(h.I.grown hg (Kd.R_away h.Rsp (fun _ q => q.1))).far h.nr _, blk_far (blk_grown h.Z hg (Kd.R_away h.Rsp (fun _ q => q.2.2.1))) h.nt _, blk_set (blk_grown h.P hg (Kd.R_away h.Rsp (fun _ q => q.2.1))) 7 v', Kd.R_mono (Kd.R_far (Kd.R_over' h.Rps (Kd.R_typed h.Rsp) (by decide) hg) (fun _ q => q.2.1) _) (fun _ q => ⟨q.1, q.2.1, q.2.2.1, trivial⟩), Kd.R_mono (Kd.R_far (Kd.R_over' h.Rsg (Kd.R_typed h.Rsp) (by decide) hg) (fun _ q => q.2.1) _) (fun _ q => ⟨q.1, q.2.1, q.2.2.1, trivial⟩), Kd.R_mono (Kd.R_far ho (fun _ q => q.2.1) _) (fun _ q => ⟨q.1, q.2.1, q.2.2.1, trivial⟩), Kd.R_mono (Kd.R_far (Kd.R_over' h.Res (Kd.R_typed h.Rsp) (by decide) hg) (fun _ q => q.2.1) _) (fun _ q => ⟨q.1, q.2.1, q.2.2.1, trivial⟩), below_set hb h.gp, h.nz, h.nr, h.nt, h.gz, h.gp⟩
theorem RpS.grow9 {Q : Nat → Prop} {v' : Value} {xs : List S67} (h : RpS w W E gz gr gp l at_ e s q er vp d su vg vs no ve u al ps sg sp es) (ho : Kd.R k67 67 W' w.heap.size (fun j => j ≠ gr ∧ j ≠ gp ∧ j ≠ gz ∧ Q j) v' xs) (hb : Below w.heap.size w W') (hg : W.grownBy W' ve.ownBlock) : RpS w (W'.setCell ⟨gp, 9, none⟩ v') (fun _ => True) gz gr gp l at_ e s q er vp d su vg vs no v' u al ps sg sp xs :=
  ⟨(h.I.grown hg (Kd.R_away h.Res (fun _ q => q.1))).far h.nr _, blk_far (blk_grown h.Z hg (Kd.R_away h.Res (fun _ q => q.2.2.1))) h.nt _, blk_set (blk_grown h.P hg (Kd.R_away h.Res (fun _ q => q.2.1))) 9 v', Kd.R_mono (Kd.R_far (Kd.R_over' h.Rps (Kd.R_typed h.Res) (by decide) hg) (fun _ q => q.2.1) _) (fun _ q => ⟨q.1, q.2.1, q.2.2.1, trivial⟩), Kd.R_mono (Kd.R_far (Kd.R_over' h.Rsg (Kd.R_typed h.Res) (by decide) hg) (fun _ q => q.2.1) _) (fun _ q => ⟨q.1, q.2.1, q.2.2.1, trivial⟩), Kd.R_mono (Kd.R_far (Kd.R_over' h.Rsp (Kd.R_typed h.Res) (by decide) hg) (fun _ q => q.2.1) _) (fun _ q => ⟨q.1, q.2.1, q.2.2.1, trivial⟩), Kd.R_mono (Kd.R_far ho (fun _ q => q.2.1) _) (fun _ q => ⟨q.1, q.2.1, q.2.2.1, trivial⟩), below_set hb h.gp, h.nz, h.nr, h.nt, h.gz, h.gp⟩
/-- a block made behind -/
theorem RpS.elder (h : RpS w W (fun _ => True) gz gr gp l at_ e s q er vp d su vg vs no ve u al ps sg sp es) (o : Obj) : RpS w (W.alloc o) (fun j => j ≠ W.heap.size) gz gr gp l at_ e s q er vp d su vg vs no ve u al ps sg sp es :=
  let q := h.below (below_alloc (Below.refl _ _) o)
  ⟨q.I, q.Z, q.P, Kd.R_mono (Kd.R_alloc (Kd.R_elderB h.Rps W.heap.size (Nat.le_refl _)) o) (fun _ q => ⟨q.1.1, q.1.2.1, q.1.2.2.1, q.2⟩), Kd.R_mono (Kd.R_alloc (Kd.R_elderB h.Rsg W.heap.size (Nat.le_refl _)) o) (fun _ q => ⟨q.1.1, q.1.2.1, q.1.2.2.1, q.2⟩), Kd.R_mono (Kd.R_alloc (Kd.R_elderB h.Rsp W.heap.size (Nat.le_refl _)) o) (fun _ q => ⟨q.1.1, q.1.2.1, q.1.2.2.1, q.2⟩), Kd.R_mono (Kd.R_alloc (Kd.R_elderB h.Res W.heap.size (Nat.le_refl _)) o) (fun _ q => ⟨q.1.1, q.1.2.1, q.1.2.2.1, q.2⟩), q.B, h.nz, h.nr, h.nt, h.gz, h.gp⟩
theorem RpS.far {g i : Nat} (h : RpS w W (fun j => j ≠ g) gz gr gp l at_ e s q er vp d su vg vs no ve u al ps sg sp es) (hg : gr < g ∧ gp < g ∧ gz < g) (x : Value) : RpS w (W.setCell ⟨g, i, none⟩ x) (fun j => j ≠ g) gz gr gp l at_ e s q er vp d su vg vs no ve u al ps sg sp es :=
  ⟨h.I.far (Nat.ne_of_lt hg.1) _, blk_far h.Z (Nat.ne_of_lt hg.2.2) _, blk_far h.P (Nat.ne_of_lt hg.2.1) _, Kd.R_far h.Rps (fun _ q => q.2.2.2) _, Kd.R_far h.Rsg (fun _ q => q.2.2.2) _, Kd.R_far h.Rsp (fun _ q => q.2.2.2) _, Kd.R_far h.Res (fun _ q => q.2.2.2) _, below_set h.B (Nat.le_trans h.gz (Nat.le_of_lt hg.2.2)), h.nz, h.nr, h.nt, h.gz, h.gp⟩
theorem RpS.cells (h : RpS w W E gz gr gp l at_ e s q er vp d su vg vs no ve u al ps sg sp es) : W.cell? ⟨gr, 1, none⟩ = some (.int .i64 at_) ∧ W.cell? ⟨gr, 2, none⟩ = some (.bool e) ∧ W.frozen? ⟨gr, 2, none⟩ = false ∧ gr < W.heap.size ∧ gp < W.heap.size := by
  refine ⟨h.I.cell_1, h.I.cell_2, ?_, h.I.lt, blk_lt h.P⟩
  obtain ⟨A, c, hb, _⟩ := h.I
  exact blk_frozen hb 2
end
/-- a reply stored whole into the box g -/
def rpSet (W : World) (g : Nat) (s q er : Int) (vp : Value) (d su : ByteArray) (vg vs : Value) (no : ByteArray) (ve : Value) (u al : Int) : World := ((((((((((((W.setCell ⟨g, 0, none⟩ (.int .i64 s)).setCell ⟨g, 1, none⟩ (.int .i64 q)).setCell ⟨g, 2, none⟩ (.int .i64 er)).setCell ⟨g, 3, none⟩ (vp)).setCell ⟨g, 4, none⟩ (.string d)).setCell ⟨g, 5, none⟩ (.string su)).setCell ⟨g, 6, none⟩ (vg)).setCell ⟨g, 7, none⟩ (vs)).setCell ⟨g, 8, none⟩ (.string no)).setCell ⟨g, 9, none⟩ (ve)).setCell ⟨g, 10, none⟩ (.int .i64 u)).setCell ⟨g, 11, none⟩ (.int .i64 al))
theorem rpSet_keep (W : World) (g : Nat) (s q er : Int) (vp : Value) (d su : ByteArray) (vg vs : Value) (no : ByteArray) (ve : Value) (u al : Int) : KeepBut W (rpSet W g s q er vp d su vg vs no ve u al) g none := (((((((((((((KeepBut.refl W g none).set_ _ _).set_ _ _).set_ _ _).set_ _ _).set_ _ _).set_ _ _).set_ _ _).set_ _ _).set_ _ _).set_ _ _).set_ _ _).set_ _ _)
theorem rpSet_below {w W : World} {g : Nat} (B : Below w.heap.size w W) (hg : w.heap.size ≤ g) (s q er : Int) (vp : Value) (d su : ByteArray) (vg vs : Value) (no : ByteArray) (ve : Value) (u al : Int) : Below w.heap.size w (rpSet W g s q er vp d su vg vs no ve u al) := (below_set (below_set (below_set (below_set (below_set (below_set (below_set (below_set (below_set (below_set (below_set (below_set B hg) hg) hg) hg) hg) hg) hg) hg) hg) hg) hg) hg)
theorem rpSet_blk {W : World} {g : Nat} (h : W.heap[g]? = some (.cells (rpC 0 0 0 (.slice none 0 0) ⟨#[]⟩ ⟨#[]⟩ (.slice none 0 0) (.slice none 0 0) ⟨#[]⟩ (.slice none 0 0) 0 0) 34 (0, 0))) (s q er : Int) (vp : Value) (d su : ByteArray) (vg vs : Value) (no : ByteArray) (ve : Value) (u al : Int) : (rpSet W g s q er vp d su vg vs no ve u al).heap[g]? = some (.cells #[.int .i64 s, .int .i64 q, .int .i64 er, vp, .string d, .string su, vg, vs, .string no, ve, .int .i64 u, .int .i64 al] 34 (0, 0)) := by
  have h0 := h
  simp only [rpC] at h0
  simpa [rpSet] using (blk_set (blk_set (blk_set (blk_set (blk_set (blk_set (blk_set (blk_set (blk_set (blk_set (blk_set (blk_set h0 0 (.int .i64 s)) 1 (.int .i64 q)) 2 (.int .i64 er)) 3 (vp)) 4 (.string d)) 5 (.string su)) 6 (vg)) 7 (vs)) 8 (.string no)) 9 (ve)) 10 (.int .i64 u)) 11 (.int .i64 al))
theorem rpInfo9 : (Tryd.prog.info? 9).map (fun i => (i.zero, i.size, i.bytes)) = some (some (.string ⟨#[]⟩), 1, 16) := by kernel_rfl
theorem rpInfo65 : (Tryd.prog.info? 65).map (fun i => (i.zero, i.size, i.bytes)) = some (some (.agg #[(.int .u32 0), (.string ⟨#[]⟩)]), 2, 24) := by kernel_rfl
theorem rpInfo74 : (Tryd.prog.info? 74).map (fun i => (i.zero, i.size, i.bytes)) = some (some (.agg #[(.int .i64 0), (.int .i64 0)]), 2, 16) := by kernel_rfl
theorem rpInfo67 : (Tryd.prog.info? 67).map (fun i => (i.zero, i.size, i.bytes)) = some (some (.agg #[(.int .i64 0), (.int .i64 0), (.int .i64 0), (.string ⟨#[]⟩), (.int .i64 0)]), 5, 48) := by kernel_rfl
theorem many_le {k : Nat} {l : List Int} {a : Int} {e : Bool} {m : Int} {c : Int} {x : Int × Bool} (h : frame_reader_many.f k l a e m = some (c, x)) : c ≤ max m 0 := by
  unfold frame_reader_many.f at h
  obtain ⟨t, _, h⟩ := Option.bind_eq_some_iff.mp h
  by_cases hc : t.1 > m
  ·rw [if_pos hc] at h; simp only [Option.some.injEq, Prod.mk.injEq] at h; omega
  rw [if_neg hc] at h; simp only [Option.some.injEq, Prod.mk.injEq] at h; omega
theorem abs_wF' {P : Program} {c : Code} {Q : Exit → Act → World → Prop} {a : Act} {w : World} (h : ∀ w1, w1 = w → c.wp P Q a w1) : c.wp P Q a w := h w rfl
theorem abs_thenF' {K : Act → World → Prop} {Q : Exit → Act → World → Prop} {e : Exit} {a : Act} {w : World} (h : ∀ w1, w1 = w → Exit.then K Q e a w1) : Exit.then K Q e a w := h w rfl
/-- what holds at the head of a round of loop 1 -/
def rpI1 (w : World) (k : Nat) (l : List Int) (a0 : Int) (e0 : Bool) (many : Nat) (gr gp : Nat) (x0 : Int) (x1 : Int) (x2 : Int) (x4 : ByteArray) (x5 : ByteArray) (x6 : Value) (x7 : Value) (x8 : ByteArray) (x9 : Value) (x10 : Int) (x11 : Int) (y1 : List S65) (y2 : List S74) (y3 : List S67) (i : Value) (wr : World) : Prop := ∃ (m : Nat) (v : Value) (xs : List ByteArray) (at_ : Int) (e : Bool), i = .int .i64 m ∧ accS (rpPath k l) a0 e0 m = some (xs, at_, e) ∧ m ≤ many ∧ RpS w wr (fun _ => True) w.heap.size gr gp l at_ e x0 x1 x2 v x4 x5 x6 x7 x8 x9 x10 x11 xs y1 y2 y3
/-- what holds at the head of a round of loop 2 -/
def rpI2 (w : World) (k : Nat) (l : List Int) (a0 : Int) (e0 : Bool) (many : Nat) (gr gp : Nat) (x0 : Int) (x1 : Int) (x2 : Int) (x3 : Value) (x4 : ByteArray) (x5 : ByteArray) (x7 : Value) (x8 : ByteArray) (x9 : Value) (x10 : Int) (x11 : Int) (y0 : List ByteArray) (y2 : List S74) (y3 : List S67) (i : Value) (wr : World) : Prop := ∃ (m : Nat) (v : Value) (xs : List S65) (at_ : Int) (e : Bool), i = .int .i64 m ∧ accS (rpSign k l) a0 e0 m = some (xs, at_, e) ∧ m ≤ many ∧ RpS w wr (fun _ => True) w.heap.size gr gp l at_ e x0 x1 x2 x3 x4 x5 v x7 x8 x9 x10 x11 y0 xs y2 y3
/-- what holds at the head of a round of loop 3 -/
def rpI3 (w : World) (k : Nat) (l : List Int) (a0 : Int) (e0 : Bool) (many : Nat) (gr gp : Nat) (x0 : Int) (x1 : Int) (x2 : Int) (x3 : Value) (x4 : ByteArray) (x5 : ByteArray) (x6 : Value) (x8 : ByteArray) (x9 : Value) (x10 : Int) (x11 : Int) (y0 : List ByteArray) (y1 : List S65) (y3 : List S67) (i : Value) (wr : World) : Prop := ∃ (m : Nat) (v : Value) (xs : List S74) (at_ : Int) (e : Bool), i = .int .i64 m ∧ accS (rpSpan k l) a0 e0 m = some (xs, at_, e) ∧ m ≤ many ∧ RpS w wr (fun _ => True) w.heap.size gr gp l at_ e x0 x1 x2 x3 x4 x5 x6 v x8 x9 x10 x11 y0 y1 xs y3
/-- what holds at the head of a round of loop 4 -/
def rpI4 (w : World) (k : Nat) (l : List Int) (a0 : Int) (e0 : Bool) (many : Nat) (gr gp : Nat) (x0 : Int) (x1 : Int) (x2 : Int) (x3 : Value) (x4 : ByteArray) (x5 : ByteArray) (x6 : Value) (x7 : Value) (x8 : ByteArray) (x10 : Int) (x11 : Int) (y0 : List ByteArray) (y1 : List S65) (y2 : List S74) (i : Value) (wr : World) : Prop := ∃ (m : Nat) (v : Value) (xs : List S67) (at_ : Int) (e : Bool), i = .int .i64 m ∧ accS (rpEnt k l) a0 e0 m = some (xs, at_, e) ∧ m ≤ many ∧ RpS w wr (fun _ => True) w.heap.size gr gp l at_ e x0 x1 x2 x3 x4 x5 x6 x7 x8 v x10 x11 y0 y1 y2 xs
set_option maxHeartbeats 20000000 in
set_option maxRecDepth 100000 in
theorem frame_ReadReply.calls (k : Nat) (A0 : Option Addr) (c0 : Nat) (l0 : List Int) (r1 : Int) (r2 : Int) (r3 : Int) (r4 : List ByteArray) (r5 : ByteArray) (r6 : ByteArray) (r7 : List (S65)) (r8 : List (S74)) (r9 : ByteArray) (r10 : List (S67)) (r11 : Int) (r12 : Int) (r13 : Int) (w : World) (hr0 : Kd.C (Kd.int .u8) w A0 l0.length l0) (hc0 : l0.length ≤ c0) (h : frame_ReadReply.f k l0 = some (r1, r2, r3, r4, r5, r6, r7, r8, r9, r10, r11, r12, r13)) :
    Calls Tryd.prog 16 #[.slice A0 l0.length c0] w fun e w' => ∃ v3_ v6_ v7_ v9_ : Value, e = .returned (.tuple #[.agg #[.int .i64 r1, .int .i64 r2, .int .i64 r3, v3_, .string r5, .string r6, v6_, v7_, .string r9, v9_, .int .i64 r11, .int .i64 r12], .int .i64 r13]) ∧ Kd.R Kd.string 9 w' w.heap.size (fun _ => True) v3_ r4 ∧ Kd.R k65 65 w' w.heap.size (fun _ => True) v6_ r7 ∧ Kd.R k74 74 w' w.heap.size (fun _ => True) v7_ r8 ∧ Kd.R k67 67 w' w.heap.size (fun _ => True) v9_ r10 ∧ Below w.heap.size w w' := by
  have HR0 := Aside0.mk hr0
  have HC0 := Aside0.mk hc0
  clear hr0 hc0
  unfold frame_ReadReply.f at h
  by_cases hl : (l0.length : Int) > 65536
  ·rw [if_pos hl] at h
   simp only [repZ, Option.some.injEq, Prod.mk.injEq] at h
   obtain ⟨rfl, rfl, rfl, rfl, rfl, rfl, rfl, rfl, rfl, rfl, rfl, rfl, rfl⟩ := h
   have hl' : (65536 : Int) < l0.length := hl
   clear hl
   go_enter Tryd.func16, Tryd.ntmps16
   go_wp2
   refine bodyPost_ret (results_ct rfl _ _ w.heap.size 34 #[.int .i64 0, .int .i64 0, .int .i64 0, .slice none 0 0, .string ⟨#[]⟩, .string ⟨#[]⟩, .slice none 0 0, .slice none 0 0, .string ⟨#[]⟩, .slice none 0 0, .int .i64 0, .int .i64 0] (0, 0) _ rfl (heap_alloc_new w _) Tryd.underlying34 rfl (by kernel_rfl)) rfl ?_
   exact ⟨_, _, _, _, rfl, Kd.R_nil _ _ _ _ _, Kd.R_nil _ _ _ _ _, Kd.R_nil _ _ _ _ _, Kd.R_nil _ _ _ _ _, below_alloc (Below.refl _ _) _⟩
  rw [if_neg hl] at h
  have hl' : (l0.length : Int) ≤ 65536 := by omega
  clear hl
  obtain ⟨⟨l, a0, e0⟩, g0, h2⟩ := Option.bind_eq_some_iff.mp h
  clear h
  obtain ⟨⟨⟨t1, t2, t3, t4, t5, t6, t7, t8, t9, t10, t11, t12⟩, ta, te⟩, ga, h⟩ := Option.bind_eq_some_iff.mp h2
  clear h2
  have HBG := Aside0.mk g0
  have HH := Aside0.mk h
  clear g0 h
  simp only at HH ga
  unfold rpAll at ga
  obtain ⟨⟨n1, a1, e1⟩, g1, h2⟩ := Option.bind_eq_some_iff.mp ga
  clear ga
  obtain ⟨⟨n2, a2, e2⟩, g2, h⟩ := Option.bind_eq_some_iff.mp h2
  clear h2
  obtain ⟨⟨n3, a3, e3⟩, g3, h2⟩ := Option.bind_eq_some_iff.mp h
  clear h
  obtain ⟨⟨c1, c1a, c1e⟩, m1, h⟩ := Option.bind_eq_some_iff.mp h2
  clear h2
  obtain ⟨⟨ps, p1a, p1e⟩, s1, h2⟩ := Option.bind_eq_some_iff.mp h
  clear h
  obtain ⟨⟨d, da, de⟩, x1, h⟩ := Option.bind_eq_some_iff.mp h2
  clear h2
  obtain ⟨⟨su, sa, se⟩, x2, h2⟩ := Option.bind_eq_some_iff.mp h
  clear h
  obtain ⟨⟨c2, c2a, c2e⟩, m2, h⟩ := Option.bind_eq_some_iff.mp h2
  clear h2
  obtain ⟨⟨sg, p2a, p2e⟩, s2, h2⟩ := Option.bind_eq_some_iff.mp h
  clear h
  obtain ⟨⟨c3, c3a, c3e⟩, m3, h⟩ := Option.bind_eq_some_iff.mp h2
  clear h2
  obtain ⟨⟨sp, p3a, p3e⟩, s3, h2⟩ := Option.bind_eq_some_iff.mp h
  clear h
  obtain ⟨⟨no, na, ne⟩, x3, h⟩ := Option.bind_eq_some_iff.mp h2
  clear h2
  obtain ⟨⟨c4, c4a, c4e⟩, m4, h2⟩ := Option.bind_eq_some_iff.mp h
  clear h
  obtain ⟨⟨es, p4a, p4e⟩, s4, h⟩ := Option.bind_eq_some_iff.mp h2
  clear h2
  obtain ⟨⟨u, ua, ue⟩, u1, h2⟩ := Option.bind_eq_some_iff.mp h
  clear h
  obtain ⟨⟨al, aa, ae⟩, u2, h⟩ := Option.bind_eq_some_iff.mp h2
  clear h2
  simp only [Option.some.injEq, Prod.mk.injEq] at h
  obtain ⟨⟨rfl, rfl, rfl, rfl, rfl, rfl, rfl, rfl, rfl, rfl, rfl, rfl⟩, rfl, rfl⟩ := h
  have G1 := Aside0.mk g1
  have G2 := Aside0.mk g2
  have G3 := Aside0.mk g3
  have Mc1 := Aside0.mk m1
  have S1 := Aside0.mk s1
  have X1 := Aside0.mk x1
  have X2 := Aside0.mk x2
  have Mc2 := Aside0.mk m2
  have S2 := Aside0.mk s2
  have Mc3 := Aside0.mk m3
  have S3 := Aside0.mk s3
  have X3 := Aside0.mk x3
  have Mc4 := Aside0.mk m4
  have S4 := Aside0.mk s4
  have U1 := Aside0.mk u1
  have U2 := Aside0.mk u2
  clear g1 g2 g3 m1 s1 x1 x2 m2 s2 m3 s3 x3 m4 s4 u1 u2
  simp only at G2 G3 Mc1 S1 X1 X2 Mc2 S2 Mc3 S3 X3 Mc4 S4 U1 U2
  go_enter Tryd.func16, Tryd.ntmps16
  go_wp2_with (first
    | (go_at_call 39; (with_reducible refine (frame_begun.calls A0 c0 l0 2 l a0 e0 w _ ?hb ?hr ?hc HBG.out).mono ?_); (case hb => exact below_alloc (Below.refl _ _) _); (case hr => exact HR0.out); (case hc => exact HC0.out); rintro e w0 ⟨gr, rfl, hi, hb, hb2⟩; have hZ := blk_below (heap_alloc_new w (.cells (rpC 0 0 0 (.slice none 0 0) ⟨#[]⟩ ⟨#[]⟩ (.slice none 0 0) (.slice none 0 0) ⟨#[]⟩ (.slice none 0 0) 0 0) 34)) hb2; have NZ := Aside0.mk (show w.heap.size ≠ gr from (by obtain ⟨A, c, hbk, _⟩ := hi; exact blk_ne hZ hbk (by decide))); have HZ1 := Aside0.mk hZ; have HI1 := Aside0.mk hi; have HB1 := Aside0.mk hb; clear hi hb hb2 hZ)
    | (go_at_call 40; (with_reducible refine (frame_reader_number.calls k gr l a0 e0 n1 a1 e1 w _ ?hi ?hb G1.out).mono ?_); (case hi => exact HI1.out); (case hb => exact HB1.out); rintro e w1 ⟨rfl, hi, hb, hk⟩; have HI2 := Aside0.mk hi; have HB2 := Aside0.mk hb; have HZ2 := Aside0.mk (hk.blk HZ1.out NZ.out (by simp)); clear hi hb hk HI1 HB1 HZ1)
    | (go_at_call 40; (with_reducible refine (frame_reader_number.calls k gr l a1 e1 n2 a2 e2 w _ ?hi ?hb G2.out).mono ?_); (case hi => exact HI2.out); (case hb => exact HB2.out); rintro e w2 ⟨rfl, hi, hb, hk⟩; have HI3 := Aside0.mk hi; have HB3 := Aside0.mk hb; have HZ3 := Aside0.mk (hk.blk HZ2.out NZ.out (by simp)); clear hi hb hk HI2 HB2 HZ2)
    | (go_at_call 40; (with_reducible refine (frame_reader_number.calls k gr l a2 e2 n3 a3 e3 w _ ?hi ?hb G3.out).mono ?_); (case hi => exact HI3.out); (case hb => exact HB3.out); rintro e w3 ⟨rfl, hi, hb, hk⟩; have HI4 := Aside0.mk hi; have HB4 := Aside0.mk hb; have HZ4 := Aside0.mk (hk.blk HZ3.out NZ.out (by simp)); clear hi hb hk HI3 HB3 HZ3; have HS : Aside0 (RpS w (w3.alloc (.cells (rpC n1 n2 n3 (.slice none 0 0) ⟨#[]⟩ ⟨#[]⟩ (.slice none 0 0) (.slice none 0 0) ⟨#[]⟩ (.slice none 0 0) 0 0) 34)) (fun _ => True) w.heap.size gr w3.heap.size l a3 e3 n1 n2 n3 (.slice none 0 0) ⟨#[]⟩ ⟨#[]⟩ (.slice none 0 0) (.slice none 0 0) ⟨#[]⟩ (.slice none 0 0) 0 0 [] [] [] []) := ⟨⟨HI4.out.alloc _, blk_alloc HZ4.out _, heap_alloc_new _ _, Kd.R_nil _ _ _ _ _, Kd.R_nil _ _ _ _ _, Kd.R_nil _ _ _ _ _, Kd.R_nil _ _ _ _ _, below_alloc HB4.out _, NZ.out, Nat.ne_of_lt HI4.out.lt, Nat.ne_of_lt (blk_lt HZ4.out), Nat.le_refl _, HB4.out.size⟩⟩)
    | (go_at_call 41; (with_reducible refine (frame_reader_many.calls k gr l a3 e3 64 c1 c1a c1e w _ ?hi ?hb Mc1.out).mono ?_); (case hi => exact HS.out.I); (case hb => exact HS.out.B); rintro e wmc1 ⟨rfl, hi, hb, hk⟩; have HS2 := Aside0.mk (HS.out.keep hk hi hb); clear hi hb hk HS; have HS := HS2; clear HS2; obtain ⟨b1, b2, b3, b4, b5⟩ := HS.out.cells; obtain ⟨⟨q0, q1, q2, q3, q4, q5, q6, q7, q8, q9, q10, q11⟩, f0, f1, f2, f3, f4, f5, f6, f7, f8, f9, f10, f11⟩ := rp_cells HS.out.P))
  have hc1 := many_le Mc1.out
  generalize w3.heap.size = gp at HS
  clear HI4 HB4 HZ4 NZ HBG G1 G2 G3 Mc1 HR0 HC0
  have hc2 := many_le Mc2.out
  have hc3 := many_le Mc3.out
  have hc4 := many_le Mc4.out
  have HI := Aside0.mk (show rpI1 w k l c1a c1e c1.toNat gr gp n1 n2 n3 ⟨#[]⟩ ⟨#[]⟩ (.slice none 0 0) (.slice none 0 0) ⟨#[]⟩ (.slice none 0 0) 0 0 [] [] [] (.int .i64 0) wmc1 from ⟨0, _, [], c1a, c1e, rfl, rfl, by omega, HS.out⟩)
  clear b1 b2 b3 b4 b5 q0 q1 q2 q3 q4 q5 q6 q7 q8 q9 q10 q11 f0 f1 f2 f3 f4 f5 f6 f7 f8 f9 f10 f11 HS
  go_loopw [23] (fun i wr => rpI1 w k l c1a c1e c1.toNat gr gp n1 n2 n3 ⟨#[]⟩ ⟨#[]⟩ (.slice none 0 0) (.slice none 0 0) ⟨#[]⟩ (.slice none 0 0) 0 0 [] [] [] i wr) (fun i _ => c1.toNat - (intOf i).toNat)
  case atStart => exact HI.out
  obtain ⟨m, v, xs, at_, e, rfl, hm, hle, hS⟩ := hrel
  obtain ⟨Ap, cp, rfl⟩ := Kd.R_slice hS.Rps
  have HS := Aside0.mk hS
  by_cases hlt : (m : Int) < c1
  ·obtain ⟨⟨us, a', e'⟩, h6⟩ := accS_upto (m + 1) c1.toNat _ S1.out (by omega)
   have H6 := Aside0.mk h6
   rw [accS, hm] at h6
   simp only [Option.bind_some] at h6
   obtain ⟨⟨x, x2, x3⟩, gx, h7⟩ := Option.bind_eq_some_iff.mp h6
   simp only [Option.some.injEq, Prod.mk.injEq] at h7
   obtain ⟨rfl, rfl, rfl⟩ := h7
   have hl8 : xs.length ≤ m := by have h1 := accS_len _ _ hm; simp only at h1; omega
   simp only [rpPath] at gx
   have GX := Aside0.mk gx
   clear hm hS h6 gx
   obtain ⟨b1, b2, b3, b4, b5⟩ := HS.out.cells
   obtain ⟨⟨q0, q1, q2, q3, q4, q5, q6, q7, q8, q9, q10, q11⟩, f0, f1, f2, f3, f4, f5, f6, f7, f8, f9, f10, f11⟩ := rp_cells HS.out.P
   go_wp2
   go_region_law (first
     | (go_simp; go_at_call 42; (with_reducible refine (frame_reader_text.calls k gr l at_ e 32 x x2 x3 w _ ?hi ?hb GX.out).mono ?_); (case hi => exact HS.out.drew.I); (case hb => exact HS.out.drew.B); rintro e wGX ⟨rfl, hi, hb, hk⟩; have HS7 := Aside0.mk (HS.out.drew.keep hk hi hb); have c3_ : wGX.cell? ⟨gp, 3, none⟩ = some (.slice Ap xs.length cp) := blk_cell HS7.out.P 3; have g3_ := blk_frozen HS7.out.P 3; have lp := blk_lt HS7.out.P; clear q3 f3; clear hi hb hk)
     | (refine Kd.R_append_step Kd.string (w0 := w) (W := wGX) w.heap.size (by rfl) (.tmp 26) (.tmp 29) 29 9 (.string ⟨#[]⟩) 16 rfl Tryd.underlying29 rpInfo9 rfl (by decide) (by decide) (.slice Ap xs.length cp) xs x [.string x] (fun j => j ≠ gr ∧ j ≠ gp ∧ j ≠ w.heap.size ∧ True) (fun _ => False) (by rfl) (by rfl) (rfl) (fun _ h => h.elim) (fun j hj => (by have h1_ := HS7.out.I.lt; have h2_ := blk_lt HS7.out.P; have h3_ := blk_lt HS7.out.Z; exact ⟨by omega, by omega, by omega, trivial⟩)) HS7.out.Rps HS7.out.B HS7.out.B.size (by omega) ?_; intro v5 w5 ho hb hg hat; obtain ⟨A5, c5, rfl⟩ := Kd.R_slice ho; have hS9 := HS7.out.grow3 ho hb hg; have hT9 := blk_grown HS7.out.P hg (Kd.R_away HS7.out.Rps (fun _ q => q.2.1)); have d1 : w5.cell? ⟨gp, 3, none⟩ = some (.slice Ap xs.length cp) := blk_cell hT9 3; have d2 := blk_frozen hT9 3; simp only [List.length_append, List.length_cons, List.length_nil, Nat.zero_add] at hS9; have HS9 := Aside0.mk hS9; clear hS9 hT9 ho hb hg hat))
   all_goals
     go_wp2
     go_roundw
     case rel => exact ⟨m + 1, _, xs ++ [x], _, _, by go_num, H6.out, by omega, by first | exact HS9.out | exact HS9.out.drew⟩
     case measure => simp [intOf]; omega
  have hmz : m = c1.toNat := by omega
  have he := S1.out
  rw [← hmz, hm] at he
  have he' := he.symm
  simp only [Option.some.injEq, Prod.mk.injEq] at he'
  obtain ⟨rfl, rfl, rfl⟩ := he'
  have hlt' : ¬ (m : Int) < c1 := hlt
  clear hm hS hlt he hmz HI S1
  obtain ⟨b1, b2, b3, b4, b5⟩ := HS.out.cells
  obtain ⟨⟨q0, q1, q2, q3, q4, q5, q6, q7, q8, q9, q10, q11⟩, f0, f1, f2, f3, f4, f5, f6, f7, f8, f9, f10, f11⟩ := rp_cells HS.out.P
  go_wp2_with (first
    | (go_at_call 42; (with_reducible refine (frame_reader_text.calls k gr l p1a p1e 1024 d _ _ w _ ?hi ?hb X1.out).mono ?_); (case hi => exact HS.out.I); (case hb => exact HS.out.B); rintro e wX1 ⟨rfl, hi, hb, hk⟩; have HS2 := Aside0.mk (HS.out.keep hk hi hb); clear hi hb hk HS; have HS := HS2; clear HS2; clear b1 b2 b3 b4 b5 q0 q1 q2 q3 q4 q5 q6 q7 q8 q9 q10 q11 f0 f1 f2 f3 f4 f5 f6 f7 f8 f9 f10 f11; obtain ⟨b1, b2, b3, b4, b5⟩ := HS.out.cells; obtain ⟨⟨q0, q1, q2, q3, q4, q5, q6, q7, q8, q9, q10, q11⟩, f0, f1, f2, f3, f4, f5, f6, f7, f8, f9, f10, f11⟩ := rp_cells HS.out.P)
    | (go_at_call 42; (with_reducible refine (frame_reader_text.calls k gr l da de 32 su _ _ w _ ?hi ?hb X2.out).mono ?_); (case hi => exact HS.out.I); (case hb => exact HS.out.B); rintro e wX2 ⟨rfl, hi, hb, hk⟩; have HS2 := Aside0.mk (HS.out.keep hk hi hb); clear hi hb hk HS; have HS := HS2; clear HS2; clear b1 b2 b3 b4 b5 q0 q1 q2 q3 q4 q5 q6 q7 q8 q9 q10 q11 f0 f1 f2 f3 f4 f5 f6 f7 f8 f9 f10 f11; obtain ⟨b1, b2, b3, b4, b5⟩ := HS.out.cells; obtain ⟨⟨q0, q1, q2, q3, q4, q5, q6, q7, q8, q9, q10, q11⟩, f0, f1, f2, f3, f4, f5, f6, f7, f8, f9, f10, f11⟩ := rp_cells HS.out.P; have HT := Aside0.mk ((HS.out.set4 d).set5 su))
    | (go_at_call 41; (with_reducible refine (frame_reader_many.calls k gr l sa se 1024 c2 _ _ w _ ?hi ?hb Mc2.out).mono ?_); (case hi => exact HT.out.I); (case hb => exact HT.out.B); rintro e wmc2 ⟨rfl, hi, hb, hk⟩; have HS2 := Aside0.mk (HT.out.keep hk hi hb); clear hi hb hk HS HT; have HS := HS2; clear HS2; clear b1 b2 b3 b4 b5 q0 q1 q2 q3 q4 q5 q6 q7 q8 q9 q10 q11 f0 f1 f2 f3 f4 f5 f6 f7 f8 f9 f10 f11; obtain ⟨b1, b2, b3, b4, b5⟩ := HS.out.cells; obtain ⟨⟨q0, q1, q2, q3, q4, q5, q6, q7, q8, q9, q10, q11⟩, f0, f1, f2, f3, f4, f5, f6, f7, f8, f9, f10, f11⟩ := rp_cells HS.out.P))
  clear X1 X2 Mc2
  have HI := Aside0.mk (show rpI2 w k l c2a c2e c2.toNat gr gp n1 n2 n3 (.slice Ap ps.length cp) d su (.slice none 0 0) ⟨#[]⟩ (.slice none 0 0) 0 0 ps [] [] (.int .i64 0) wmc2 from ⟨0, _, [], c2a, c2e, rfl, rfl, by omega, HS.out⟩)
  clear b1 b2 b3 b4 b5 q0 q1 q2 q3 q4 q5 q6 q7 q8 q9 q10 q11 f0 f1 f2 f3 f4 f5 f6 f7 f8 f9 f10 f11 HS
  go_loopw [41] (fun i wr => rpI2 w k l c2a c2e c2.toNat gr gp n1 n2 n3 (.slice Ap ps.length cp) d su (.slice none 0 0) ⟨#[]⟩ (.slice none 0 0) 0 0 ps [] [] i wr) (fun i _ => c2.toNat - (intOf i).toNat)
  case atStart => exact HI.out
  obtain ⟨m, v, xs, at_, e, rfl, hm, hle, hS⟩ := hrel
  obtain ⟨Ag, cg, rfl⟩ := Kd.R_slice hS.Rsg
  have HS := Aside0.mk hS
  by_cases hlt : (m : Int) < c2
  ·obtain ⟨⟨us, a', e'⟩, h6⟩ := accS_upto (m + 1) c2.toNat _ S2.out (by omega)
   have H6 := Aside0.mk h6
   rw [accS, hm] at h6
   simp only [Option.bind_some] at h6
   obtain ⟨⟨x, x2, x3⟩, gx, h7⟩ := Option.bind_eq_some_iff.mp h6
   simp only [Option.some.injEq, Prod.mk.injEq] at h7
   obtain ⟨rfl, rfl, rfl⟩ := h7
   have hl8 : xs.length ≤ m := by have h1 := accS_len _ _ hm; simp only at h1; omega
   simp only [rpSign] at gx
   obtain ⟨⟨y1, y2, y3⟩, gy, gx2⟩ := Option.bind_eq_some_iff.mp gx
   clear gx
   obtain ⟨⟨t1, t2, t3⟩, gt, gx3⟩ := Option.bind_eq_some_iff.mp gx2
   clear gx2
   simp only [Option.some.injEq, Prod.mk.injEq] at gx3
   obtain ⟨rfl, rfl, rfl⟩ := gx3
   have GY := Aside0.mk gy
   clear hm hS h6 gy
   obtain ⟨b1, b2, b3, b4, b5⟩ := HS.out.cells
   obtain ⟨⟨q0, q1, q2, q3, q4, q5, q6, q7, q8, q9, q10, q11⟩, f0, f1, f2, f3, f4, f5, f6, f7, f8, f9, f10, f11⟩ := rp_cells HS.out.P
   have hsp : ∃ eb, (if y3 = true then true else decide (4294967296 ≤ y1)) = eb := ⟨_, rfl⟩
   obtain ⟨eb, heb⟩ := hsp
   simp only at gt
   rw [heb] at gt
   have GX := Aside0.mk gt
   have hsp : (y3 = true ∧ eb = true) ∨ (y3 = false ∧ decide (4294967296 ≤ y1) = eb) := by
     cases y3
     · exact .inr ⟨rfl, by simpa using heb⟩
     · exact .inl ⟨rfl, by simpa using heb.symm⟩
   clear gt heb
   rcases hsp with ⟨rfl, rfl⟩ | ⟨rfl, heb⟩
   ·go_wp2_with (go_at_call 40; (with_reducible refine (frame_reader_number.calls k gr l at_ e y1 y2 _ w _ ?hi ?hb GY.out).mono ?_); (case hi => exact HS.out.I); (case hb => exact HS.out.B); rintro e wGY ⟨rfl, hi, hb, hk⟩; have HS6 := Aside0.mk (HS.out.keep hk hi hb); clear b1 b2 b3 b4 b5 q0 q1 q2 q3 q4 q5 q6 q7 q8 q9 q10 q11 f0 f1 f2 f3 f4 f5 f6 f7 f8 f9 f10 f11; obtain ⟨b1, b2, b3, b4, b5⟩ := HS6.out.cells; clear hi hb hk)
    refine abs_wF' ?_
    intro w6 hw6
    have HS := Aside0.mk (show RpS w w6 (fun _ => True) w.heap.size gr gp l y2 true n1 n2 n3 (.slice Ap ps.length cp) d su (.slice Ag xs.length cg) (.slice none 0 0) ⟨#[]⟩ (.slice none 0 0) 0 0 ps xs [] [] from by rw [hw6]; exact HS6.out.setE)
    clear hw6 HS6 b1 b2 b3 b4 b5
    obtain ⟨b1, b2, b3, b4, b5⟩ := HS.out.cells
    obtain ⟨⟨q0, q1, q2, q3, q4, q5, q6, q7, q8, q9, q10, q11⟩, f0, f1, f2, f3, f4, f5, f6, f7, f8, f9, f10, f11⟩ := rp_cells HS.out.P
    go_wp2
    go_region_law (first
      | (go_simp; go_at_call 42; (with_reducible refine (frame_reader_text.calls k gr l y2 true 16 t1 t2 t3 w _ ?hi ?hb GX.out).mono ?_); (case hi => exact HS.out.drew.I); (case hb => exact HS.out.drew.B); rintro e wGX ⟨rfl, hi, hb, hk⟩; have HS7 := Aside0.mk (HS.out.drew.keep hk hi hb); have c3_ : wGX.cell? ⟨gp, 6, none⟩ = some (.slice Ag xs.length cg) := blk_cell HS7.out.P 6; have g3_ := blk_frozen HS7.out.P 6; have lp := blk_lt HS7.out.P; clear q6 f6; clear hi hb hk)
      | (refine Kd.R_append_step k65 (w0 := w) (W := wGX) w.heap.size (by rfl) (.tmp 57) (.tmp 63) 30 65 (.agg #[(.int .u32 0), (.string ⟨#[]⟩)]) 24 rfl Tryd.underlying30 rpInfo65 rfl (by decide) (by decide) (.slice Ag xs.length cg) xs (⟨y1 % 4294967296, t1⟩ : S65) [.int .u32 (y1 % 4294967296), .string t1] (fun j => j ≠ gr ∧ j ≠ gp ∧ j ≠ w.heap.size ∧ True) (fun _ => False) (by rfl) (by rfl) (k65_mkM _ _ _ _) (fun _ h => h.elim) (fun j hj => (by have h1_ := HS7.out.I.lt; have h2_ := blk_lt HS7.out.P; have h3_ := blk_lt HS7.out.Z; exact ⟨by omega, by omega, by omega, trivial⟩)) HS7.out.Rsg HS7.out.B HS7.out.B.size (by omega) ?_; intro v5 w5 ho hb hg hat; obtain ⟨A5, c5, rfl⟩ := Kd.R_slice ho; have hS9 := HS7.out.grow6 ho hb hg; have hT9 := blk_grown HS7.out.P hg (Kd.R_away HS7.out.Rsg (fun _ q => q.2.1)); have d1 : w5.cell? ⟨gp, 6, none⟩ = some (.slice Ag xs.length cg) := blk_cell hT9 6; have d2 := blk_frozen hT9 6; simp only [List.length_append, List.length_cons, List.length_nil, Nat.zero_add] at hS9; have HS9 := Aside0.mk hS9; clear hS9 hT9 ho hb hg hat))
    all_goals
      go_wp2
      go_roundw
      case rel => exact ⟨m + 1, _, xs ++ [⟨y1 % 4294967296, t1⟩], _, _, by go_num, H6.out, by omega, by first | exact HS9.out | exact HS9.out.drew⟩
      case measure => simp [intOf]; omega
   go_wp2_with (go_at_call 40; (with_reducible refine (frame_reader_number.calls k gr l at_ e y1 y2 _ w _ ?hi ?hb GY.out).mono ?_); (case hi => exact HS.out.I); (case hb => exact HS.out.B); rintro e wGY ⟨rfl, hi, hb, hk⟩; have HS6 := Aside0.mk (HS.out.keep hk hi hb); clear b1 b2 b3 b4 b5 q0 q1 q2 q3 q4 q5 q6 q7 q8 q9 q10 q11 f0 f1 f2 f3 f4 f5 f6 f7 f8 f9 f10 f11; obtain ⟨b1, b2, b3, b4, b5⟩ := HS6.out.cells; clear hi hb hk)
   refine abs_wF' ?_
   intro w6 hw6
   have HS := Aside0.mk (show RpS w w6 (fun _ => True) w.heap.size gr gp l y2 eb n1 n2 n3 (.slice Ap ps.length cp) d su (.slice Ag xs.length cg) (.slice none 0 0) ⟨#[]⟩ (.slice none 0 0) 0 0 ps xs [] [] from by rw [hw6]; exact HS6.out.setE)
   clear hw6 HS6 b1 b2 b3 b4 b5
   obtain ⟨b1, b2, b3, b4, b5⟩ := HS.out.cells
   obtain ⟨⟨q0, q1, q2, q3, q4, q5, q6, q7, q8, q9, q10, q11⟩, f0, f1, f2, f3, f4, f5, f6, f7, f8, f9, f10, f11⟩ := rp_cells HS.out.P
   go_wp2
   go_region_law (first
     | (go_simp; go_at_call 42; (with_reducible refine (frame_reader_text.calls k gr l y2 eb 16 t1 t2 t3 w _ ?hi ?hb GX.out).mono ?_); (case hi => exact HS.out.drew.I); (case hb => exact HS.out.drew.B); rintro e wGX ⟨rfl, hi, hb, hk⟩; have HS7 := Aside0.mk (HS.out.drew.keep hk hi hb); have c3_ : wGX.cell? ⟨gp, 6, none⟩ = some (.slice Ag xs.length cg) := blk_cell HS7.out.P 6; have g3_ := blk_frozen HS7.out.P 6; have lp := blk_lt HS7.out.P; clear q6 f6; clear hi hb hk)
     | (refine Kd.R_append_step k65 (w0 := w) (W := wGX) w.heap.size (by rfl) (.tmp 57) (.tmp 63) 30 65 (.agg #[(.int .u32 0), (.string ⟨#[]⟩)]) 24 rfl Tryd.underlying30 rpInfo65 rfl (by decide) (by decide) (.slice Ag xs.length cg) xs (⟨y1 % 4294967296, t1⟩ : S65) [.int .u32 (y1 % 4294967296), .string t1] (fun j => j ≠ gr ∧ j ≠ gp ∧ j ≠ w.heap.size ∧ True) (fun _ => False) (by rfl) (by rfl) (k65_mkM _ _ _ _) (fun _ h => h.elim) (fun j hj => (by have h1_ := HS7.out.I.lt; have h2_ := blk_lt HS7.out.P; have h3_ := blk_lt HS7.out.Z; exact ⟨by omega, by omega, by omega, trivial⟩)) HS7.out.Rsg HS7.out.B HS7.out.B.size (by omega) ?_; intro v5 w5 ho hb hg hat; obtain ⟨A5, c5, rfl⟩ := Kd.R_slice ho; have hS9 := HS7.out.grow6 ho hb hg; have hT9 := blk_grown HS7.out.P hg (Kd.R_away HS7.out.Rsg (fun _ q => q.2.1)); have d1 : w5.cell? ⟨gp, 6, none⟩ = some (.slice Ag xs.length cg) := blk_cell hT9 6; have d2 := blk_frozen hT9 6; simp only [List.length_append, List.length_cons, List.length_nil, Nat.zero_add] at hS9; have HS9 := Aside0.mk hS9; clear hS9 hT9 ho hb hg hat))
   all_goals
     go_wp2
     go_roundw
     case rel => exact ⟨m + 1, _, xs ++ [⟨y1 % 4294967296, t1⟩], _, _, by go_num, H6.out, by omega, by first | exact HS9.out | exact HS9.out.drew⟩
     case measure => simp [intOf]; omega
  have hmz : m = c2.toNat := by omega
  have he := S2.out
  rw [← hmz, hm] at he
  have he' := he.symm
  simp only [Option.some.injEq, Prod.mk.injEq] at he'
  obtain ⟨rfl, rfl, rfl⟩ := he'
  have hlt' : ¬ (m : Int) < c2 := hlt
  clear hm hS hlt he hmz HI S2
  obtain ⟨b1, b2, b3, b4, b5⟩ := HS.out.cells
  obtain ⟨⟨q0, q1, q2, q3, q4, q5, q6, q7, q8, q9, q10, q11⟩, f0, f1, f2, f3, f4, f5, f6, f7, f8, f9, f10, f11⟩ := rp_cells HS.out.P
  go_wp2_with (first
    | (go_at_call 41; (with_reducible refine (frame_reader_many.calls k gr l p2a p2e 4 c3 _ _ w _ ?hi ?hb Mc3.out).mono ?_); (case hi => exact HS.out.I); (case hb => exact HS.out.B); rintro e wmc3 ⟨rfl, hi, hb, hk⟩; have HS2 := Aside0.mk (HS.out.keep hk hi hb); clear hi hb hk HS ; have HS := HS2; clear HS2; clear b1 b2 b3 b4 b5 q0 q1 q2 q3 q4 q5 q6 q7 q8 q9 q10 q11 f0 f1 f2 f3 f4 f5 f6 f7 f8 f9 f10 f11; obtain ⟨b1, b2, b3, b4, b5⟩ := HS.out.cells; obtain ⟨⟨q0, q1, q2, q3, q4, q5, q6, q7, q8, q9, q10, q11⟩, f0, f1, f2, f3, f4, f5, f6, f7, f8, f9, f10, f11⟩ := rp_cells HS.out.P))
  clear Mc3
  have HI := Aside0.mk (show rpI3 w k l c3a c3e c3.toNat gr gp n1 n2 n3 (.slice Ap ps.length cp) d su (.slice Ag sg.length cg) ⟨#[]⟩ (.slice none 0 0) 0 0 ps sg [] (.int .i64 0) wmc3 from ⟨0, _, [], c3a, c3e, rfl, rfl, by omega, HS.out⟩)
  clear b1 b2 b3 b4 b5 q0 q1 q2 q3 q4 q5 q6 q7 q8 q9 q10 q11 f0 f1 f2 f3 f4 f5 f6 f7 f8 f9 f10 f11 HS
  go_loopw [69] (fun i wr => rpI3 w k l c3a c3e c3.toNat gr gp n1 n2 n3 (.slice Ap ps.length cp) d su (.slice Ag sg.length cg) ⟨#[]⟩ (.slice none 0 0) 0 0 ps sg [] i wr) (fun i _ => c3.toNat - (intOf i).toNat)
  case atStart => exact HI.out
  obtain ⟨m, v, xs, at_, e, rfl, hm, hle, hS⟩ := hrel
  obtain ⟨As, cs, rfl⟩ := Kd.R_slice hS.Rsp
  have HS := Aside0.mk hS
  by_cases hlt : (m : Int) < c3
  ·obtain ⟨⟨us, a', e'⟩, h6⟩ := accS_upto (m + 1) c3.toNat _ S3.out (by omega)
   have H6 := Aside0.mk h6
   rw [accS, hm] at h6
   simp only [Option.bind_some] at h6
   obtain ⟨⟨x, x2, x3⟩, gx, h7⟩ := Option.bind_eq_some_iff.mp h6
   simp only [Option.some.injEq, Prod.mk.injEq] at h7
   obtain ⟨rfl, rfl, rfl⟩ := h7
   have hl8 : xs.length ≤ m := by have h1 := accS_len _ _ hm; simp only at h1; omega
   simp only [rpSpan] at gx
   obtain ⟨⟨y1, y2, y3⟩, gy, gx2⟩ := Option.bind_eq_some_iff.mp gx
   clear gx
   obtain ⟨⟨t1, t2, t3⟩, gt, gx3⟩ := Option.bind_eq_some_iff.mp gx2
   clear gx2
   simp only [Option.some.injEq, Prod.mk.injEq] at gx3
   obtain ⟨rfl, rfl, rfl⟩ := gx3
   have GY := Aside0.mk gy
   have GX := Aside0.mk gt
   simp only at GX
   clear hm hS h6 gy gt
   obtain ⟨b1, b2, b3, b4, b5⟩ := HS.out.cells
   obtain ⟨⟨q0, q1, q2, q3, q4, q5, q6, q7, q8, q9, q10, q11⟩, f0, f1, f2, f3, f4, f5, f6, f7, f8, f9, f10, f11⟩ := rp_cells HS.out.P
   go_wp2
   go_region_law (first
     | (go_simp; go_at_call 40; (with_reducible refine (frame_reader_number.calls k gr l at_ e y1 y2 y3 w _ ?hi ?hb GY.out).mono ?_); (case hi => exact HS.out.drew.I); (case hb => exact HS.out.drew.B); rintro e wGY ⟨rfl, hi, hb, hk⟩; have HS6 := Aside0.mk (HS.out.drew.keep hk hi hb); have d3_ : wGY.cell? ⟨gp, 7, none⟩ = some (.slice As xs.length cs) := blk_cell HS6.out.P 7; have e3_ := blk_frozen HS6.out.P 7; clear q7 f7; clear hi hb hk)
     | (go_simp; go_at_call 40; (with_reducible refine (frame_reader_number.calls k gr l y2 y3 t1 t2 t3 w _ ?hi ?hb GX.out).mono ?_); (case hi => exact HS6.out.I); (case hb => exact HS6.out.B); rintro e wGX ⟨rfl, hi, hb, hk⟩; have HS7 := Aside0.mk (HS6.out.keep hk hi hb); have c3_ : wGX.cell? ⟨gp, 7, none⟩ = some (.slice As xs.length cs) := blk_cell HS7.out.P 7; have g3_ := blk_frozen HS7.out.P 7; have lp := blk_lt HS7.out.P; (try clear d3_); (try clear e3_); clear hi hb hk)
     | (refine Kd.R_append_step k74 (w0 := w) (W := wGX) w.heap.size (by rfl) (.tmp 72) (.tmp 78) 31 74 (.agg #[(.int .i64 0), (.int .i64 0)]) 16 rfl Tryd.underlying31 rpInfo74 rfl (by decide) (by decide) (.slice As xs.length cs) xs (⟨y1, t1⟩ : S74) [.int .i64 y1, .int .i64 t1] (fun j => j ≠ gr ∧ j ≠ gp ∧ j ≠ w.heap.size ∧ True) (fun _ => False) (by rfl) (by rfl) (k74_mkM _ _ _ _) (fun _ h => h.elim) (fun j hj => (by have h1_ := HS7.out.I.lt; have h2_ := blk_lt HS7.out.P; have h3_ := blk_lt HS7.out.Z; exact ⟨by omega, by omega, by omega, trivial⟩)) HS7.out.Rsp HS7.out.B HS7.out.B.size (by omega) ?_; intro v5 w5 ho hb hg hat; obtain ⟨A5, c5, rfl⟩ := Kd.R_slice ho; have hS9 := HS7.out.grow7 ho hb hg; have hT9 := blk_grown HS7.out.P hg (Kd.R_away HS7.out.Rsp (fun _ q => q.2.1)); have d1 : w5.cell? ⟨gp, 7, none⟩ = some (.slice As xs.length cs) := blk_cell hT9 7; have d2 := blk_frozen hT9 7; simp only [List.length_append, List.length_cons, List.length_nil, Nat.zero_add] at hS9; have HS9 := Aside0.mk hS9; clear hS9 hT9 ho hb hg hat))
   all_goals
     go_wp2
     go_roundw
     case rel => exact ⟨m + 1, _, xs ++ [⟨y1, t1⟩], _, _, by go_num, H6.out, by omega, by first | exact HS9.out | exact HS9.out.drew⟩
     case measure => simp [intOf]; omega
  have hmz : m = c3.toNat := by omega
  have he := S3.out
  rw [← hmz, hm] at he
  have he' := he.symm
  simp only [Option.some.injEq, Prod.mk.injEq] at he'
  obtain ⟨rfl, rfl, rfl⟩ := he'
  have hlt' : ¬ (m : Int) < c3 := hlt
  clear hm hS hlt he hmz HI S3
  obtain ⟨b1, b2, b3, b4, b5⟩ := HS.out.cells
  obtain ⟨⟨q0, q1, q2, q3, q4, q5, q6, q7, q8, q9, q10, q11⟩, f0, f1, f2, f3, f4, f5, f6, f7, f8, f9, f10, f11⟩ := rp_cells HS.out.P
  go_wp2_with (first
    | (go_at_call 42; (with_reducible refine (frame_reader_text.calls k gr l p3a p3e 12 no _ _ w _ ?hi ?hb X3.out).mono ?_); (case hi => exact HS.out.I); (case hb => exact HS.out.B); rintro e wX3 ⟨rfl, hi, hb, hk⟩; have HS2 := Aside0.mk (HS.out.keep hk hi hb); clear hi hb hk HS; have HS := HS2; clear HS2; clear b1 b2 b3 b4 b5 q0 q1 q2 q3 q4 q5 q6 q7 q8 q9 q10 q11 f0 f1 f2 f3 f4 f5 f6 f7 f8 f9 f10 f11; obtain ⟨b1, b2, b3, b4, b5⟩ := HS.out.cells; obtain ⟨⟨q0, q1, q2, q3, q4, q5, q6, q7, q8, q9, q10, q11⟩, f0, f1, f2, f3, f4, f5, f6, f7, f8, f9, f10, f11⟩ := rp_cells HS.out.P; have HT := Aside0.mk (HS.out.set8 no))
    | (go_at_call 41; (with_reducible refine (frame_reader_many.calls k gr l na ne 8 c4 _ _ w _ ?hi ?hb Mc4.out).mono ?_); (case hi => exact HT.out.I); (case hb => exact HT.out.B); rintro e wmc4 ⟨rfl, hi, hb, hk⟩; have HS2 := Aside0.mk (HT.out.keep hk hi hb); clear hi hb hk HS HT; have HS := HS2; clear HS2; clear b1 b2 b3 b4 b5 q0 q1 q2 q3 q4 q5 q6 q7 q8 q9 q10 q11 f0 f1 f2 f3 f4 f5 f6 f7 f8 f9 f10 f11; obtain ⟨b1, b2, b3, b4, b5⟩ := HS.out.cells; obtain ⟨⟨q0, q1, q2, q3, q4, q5, q6, q7, q8, q9, q10, q11⟩, f0, f1, f2, f3, f4, f5, f6, f7, f8, f9, f10, f11⟩ := rp_cells HS.out.P))
  clear X3 Mc4
  have HI := Aside0.mk (show rpI4 w k l c4a c4e c4.toNat gr gp n1 n2 n3 (.slice Ap ps.length cp) d su (.slice Ag sg.length cg) (.slice As sp.length cs) no 0 0 ps sg sp (.int .i64 0) wmc4 from ⟨0, _, [], c4a, c4e, rfl, rfl, by omega, HS.out⟩)
  clear b1 b2 b3 b4 b5 q0 q1 q2 q3 q4 q5 q6 q7 q8 q9 q10 q11 f0 f1 f2 f3 f4 f5 f6 f7 f8 f9 f10 f11 HS
  go_loopw [87] (fun i wr => rpI4 w k l c4a c4e c4.toNat gr gp n1 n2 n3 (.slice Ap ps.length cp) d su (.slice Ag sg.length cg) (.slice As sp.length cs) no 0 0 ps sg sp i wr) (fun i _ => c4.toNat - (intOf i).toNat)
  case atStart => exact HI.out
  obtain ⟨m, v, xs, at_, e, rfl, hm, hle, hS⟩ := hrel
  obtain ⟨Ae, ce, rfl⟩ := Kd.R_slice hS.Res
  have HS := Aside0.mk hS
  by_cases hlt : (m : Int) < c4
  ·obtain ⟨⟨us, a', e'⟩, h6⟩ := accS_upto (m + 1) c4.toNat _ S4.out (by omega)
   have H6 := Aside0.mk h6
   rw [accS, hm] at h6
   simp only [Option.bind_some] at h6
   obtain ⟨⟨x, x2, x3⟩, gx, h7⟩ := Option.bind_eq_some_iff.mp h6
   simp only [Option.some.injEq, Prod.mk.injEq] at h7
   obtain ⟨rfl, rfl, rfl⟩ := h7
   have hl8 : xs.length ≤ m := by have h1 := accS_len _ _ hm; simp only at h1; omega
   simp only [rpEnt] at gx
   obtain ⟨⟨y1, y2, y3⟩, gy, gx2⟩ := Option.bind_eq_some_iff.mp gx
   clear gx
   obtain ⟨⟨t1, t2, t3⟩, gt, gx3⟩ := Option.bind_eq_some_iff.mp gx2
   clear gx2
   obtain ⟨⟨p1, p2, p3⟩, gp_, gx4⟩ := Option.bind_eq_some_iff.mp gx3
   clear gx3
   obtain ⟨⟨s1, s2, s3⟩, gs, gx5⟩ := Option.bind_eq_some_iff.mp gx4
   clear gx4
   obtain ⟨⟨u1, u2, u3⟩, gu, gx6⟩ := Option.bind_eq_some_iff.mp gx5
   clear gx5
   simp only [Option.some.injEq, Prod.mk.injEq] at gx6
   obtain ⟨rfl, rfl, rfl⟩ := gx6
   have GY := Aside0.mk gy
   have GT := Aside0.mk gt
   have GP := Aside0.mk gp_
   have GX := Aside0.mk gs
   have GU := Aside0.mk gu
   simp only at GT GP GX GU
   clear hm hS h6 gy gt gp_ gs gu
   go_wp2_with (first
     | (go_at_call 40; (with_reducible refine (frame_reader_number.calls k gr l at_ e y1 y2 y3 w _ ?hi ?hb GY.out).mono ?_); (case hi => exact HS.out.I); (case hb => exact HS.out.B); rintro e wGY ⟨rfl, hi, hb, hk⟩; have HA := Aside0.mk (HS.out.keep hk hi hb); clear hi hb hk HS)
     | (go_at_call 40; (with_reducible refine (frame_reader_number.calls k gr l y2 y3 t1 t2 t3 w _ ?hi ?hb GT.out).mono ?_); (case hi => exact HA.out.I); (case hb => exact HA.out.B); rintro e wGT ⟨rfl, hi, hb, hk⟩; have HB := Aside0.mk (HA.out.keep hk hi hb); clear hi hb hk HA)
     | (go_at_call 40; (with_reducible refine (frame_reader_number.calls k gr l t2 t3 p1 p2 p3 w _ ?hi ?hb GP.out).mono ?_); (case hi => exact HB.out.I); (case hb => exact HB.out.B); rintro e wGP ⟨rfl, hi, hb, hk⟩; have HC := Aside0.mk (HB.out.keep hk hi hb); have l6 := HC.out.I.lt; have lu6 := blk_lt HC.out.P; have lz6 := blk_lt HC.out.Z; clear hi hb hk HB)
     | (go_at_call 42; (with_reducible refine (frame_reader_text.calls k gr l p2 p3 32 s1 s2 s3 w _ ?hi ?hb GX.out).mono ?_); (case hi => exact HC.out.I.alloc _); (case hb => exact below_alloc HC.out.B _); rintro e wX_ ⟨rfl, hi, hb, hk⟩; have HS7 := Aside0.mk ((HC.out.elder (.cells #[.int .i64 y1, .int .i64 t1, .int .i64 p1, .string ⟨#[]⟩, .int .i64 0] 67)).keep hk hi hb); have HC7 := Aside0.mk (hk.blk (heap_alloc_new wGP (.cells #[.int .i64 y1, .int .i64 t1, .int .i64 p1, .string ⟨#[]⟩, .int .i64 0] 67)) (by omega) (by simp)); have c3_ := blk_cell HC7.out 3; have g3_ := blk_frozen HC7.out 3; clear hi hb hk)
     | (go_at_call 40; (with_reducible refine (frame_reader_number.calls k gr l s2 s3 u1 u2 u3 w _ ?hi ?hb GU.out).mono ?_); (case hi => exact (HS7.out.far (i := 3) ⟨l6, lu6, lz6⟩ (.string s1)).I); (case hb => exact (HS7.out.far (i := 3) ⟨l6, lu6, lz6⟩ (.string s1)).B); rintro e wU_ ⟨rfl, hi, hb, hk⟩; have HS8 := Aside0.mk ((HS7.out.far (i := 3) ⟨l6, lu6, lz6⟩ (.string s1)).keep hk hi hb); have HSX := Aside0.mk (HS8.out.far (i := 4) ⟨l6, lu6, lz6⟩ (.int .i64 u1)); have HC8 := Aside0.mk (hk.blk (blk_set HC7.out 3 (.string s1)) (by omega) (by simp)); clear c3_ g3_ hi hb hk; have c0_ := (blk_cell HC8.out 0).trans rfl; have c1_ := (blk_cell HC8.out 1).trans rfl; have c2_ := (blk_cell HC8.out 2).trans rfl; have c3_ := (blk_cell HC8.out 3).trans rfl; have c4_ := (blk_cell HC8.out 4).trans rfl; have g4_ := blk_frozen HC8.out 4; have lu8 := blk_lt HC8.out; have d9_ : wU_.cell? ⟨gp, 9, none⟩ = some (.slice Ae xs.length ce) := blk_cell HS8.out.P 9; have lp := blk_lt HS8.out.P; have hne := Nat.ne_of_lt lu6; have hne' := Nat.ne_of_gt lu6)
     | ((with_reducible refine gate_builtin (b := .append) (xs := #[.tmp 103, .tmp 105]) rfl ?_); at_builtin; refine Kd.R_append k67 (w0 := w) w.heap.size rfl (.tmp 103) (.tmp 105) 32 67 (.agg #[(.int .i64 0), (.int .i64 0), (.int .i64 0), (.string ⟨#[]⟩), (.int .i64 0)]) 48 rfl Tryd.underlying32 rpInfo67 rfl (by decide) (by omega) (.slice Ae xs.length ce) xs (⟨y1, t1, p1, s1, u1⟩ : S67) [.int .i64 y1, .int .i64 t1, .int .i64 p1, .string s1, .int .i64 u1] (fun j => j ≠ gr ∧ j ≠ gp ∧ j ≠ w.heap.size ∧ j ≠ wGP.heap.size) (fun _ => False) ?aV ?aX ?aP (fun _ hk => hk.elim) ?aF ?aO ?aB ?aS ?aL ?_; (case aV => rfl); (case aX => first | rfl | (go_simp; done) | (go_simp; rfl)); (case aP => exact k67_mkM _ _ _ (⟨y1, t1, p1, s1, u1⟩ : S67)); (case aF => exact fun j hj => (by have h1_ := HS8.out.I.lt; have h3_ := blk_lt HS8.out.Z; simp at hj; omega)); (case aO => exact HSX.out.Res); (case aB => exact HSX.out.B); (case aS => exact HSX.out.B.size); (case aL => omega); intro v5 w5 ho hb hg hat; obtain ⟨A5, c5, rfl⟩ := Kd.R_slice ho; have hS9 := HSX.out.grow9 ho hb hg; have hT9 := blk_grown HSX.out.P hg (Kd.R_away HSX.out.Res (fun _ q => q.2.1)); have d1 : w5.cell? ⟨gp, 9, none⟩ = some (.slice Ae xs.length ce) := blk_cell hT9 9; have d2 := blk_frozen hT9 9; simp only [List.length_append, List.length_cons, List.length_nil, Nat.zero_add] at hS9; have HS9 := Aside0.mk hS9; clear hS9 hT9 ho hb hg hat c0_ c1_ c2_ c3_ c4_ g4_ d9_))
   go_roundw
   case rel => exact ⟨m + 1, _, xs ++ [⟨y1, t1, p1, s1, u1⟩], _, _, by go_num, H6.out, by omega, HS9.out⟩
   case measure => simp [intOf]; omega
  have hmz : m = c4.toNat := by omega
  have he := S4.out
  rw [← hmz, hm] at he
  have he' := he.symm
  simp only [Option.some.injEq, Prod.mk.injEq] at he'
  obtain ⟨rfl, rfl, rfl⟩ := he'
  have hlt' : ¬ (m : Int) < c4 := hlt
  clear hm hS hlt he hmz HI S4
  obtain ⟨b1, b2, b3, b4, b5⟩ := HS.out.cells
  obtain ⟨⟨q0, q1, q2, q3, q4, q5, q6, q7, q8, q9, q10, q11⟩, f0, f1, f2, f3, f4, f5, f6, f7, f8, f9, f10, f11⟩ := rp_cells HS.out.P
  have hh := HH.out
  clear HH
  cases ae
  case true =>
   rw [if_pos rfl] at hh
   simp only [repZ, Option.some.injEq, Prod.mk.injEq] at hh
   obtain ⟨rfl, rfl, rfl, rfl, rfl, rfl, rfl, rfl, rfl, rfl, rfl, rfl, rfl⟩ := hh
   go_wp2_with (first
     | (go_at_call 40; (with_reducible refine (frame_reader_number.calls k gr l p4a p4e u _ _ w _ ?hi ?hb U1.out).mono ?_); (case hi => exact HS.out.I); (case hb => exact HS.out.B); rintro e wU1 ⟨rfl, hi, hb, hk⟩; have HS2 := Aside0.mk (HS.out.keep hk hi hb); clear hi hb hk HS; have HS := HS2; clear HS2; clear b1 b2 b3 b4 b5 q0 q1 q2 q3 q4 q5 q6 q7 q8 q9 q10 q11 f0 f1 f2 f3 f4 f5 f6 f7 f8 f9 f10 f11; obtain ⟨b1, b2, b3, b4, b5⟩ := HS.out.cells; obtain ⟨⟨q0, q1, q2, q3, q4, q5, q6, q7, q8, q9, q10, q11⟩, f0, f1, f2, f3, f4, f5, f6, f7, f8, f9, f10, f11⟩ := rp_cells HS.out.P)
     | (go_at_call 40; (with_reducible refine (frame_reader_number.calls k gr l ua ue al _ _ w _ ?hi ?hb U2.out).mono ?_); (case hi => exact HS.out.I); (case hb => exact HS.out.B); rintro e wU2 ⟨rfl, hi, hb, hk⟩; have HS2 := Aside0.mk (HS.out.keep hk hi hb); clear hi hb hk HS; have HS := HS2; clear HS2; clear b1 b2 b3 b4 b5 q0 q1 q2 q3 q4 q5 q6 q7 q8 q9 q10 q11 f0 f1 f2 f3 f4 f5 f6 f7 f8 f9 f10 f11; obtain ⟨b1, b2, b3, b4, b5⟩ := HS.out.cells; obtain ⟨⟨q0, q1, q2, q3, q4, q5, q6, q7, q8, q9, q10, q11⟩, f0, f1, f2, f3, f4, f5, f6, f7, f8, f9, f10, f11⟩ := rp_cells HS.out.P; have HT := Aside0.mk ((HS.out.set10 u).set11 al); have nr := HS.out.nr; have nr2 := HS.out.nr.symm; have nt := HS.out.nt; have nt2 := HS.out.nt.symm; have nz := HS.out.nz; have nz2 := HS.out.nz.symm; obtain ⟨⟨z0, z1, z2, z3, z4, z5, z6, z7, z8, z9, z10, z11⟩, y0, y1, y2, y3, y4, y5, y6, y7, y8, y9, y10, y11⟩ := rp_cells HS.out.Z))
   have hT := rpSet_blk HT.out.Z 0 0 0 (.slice none 0 0) ⟨#[]⟩ ⟨#[]⟩ (.slice none 0 0) (.slice none 0 0) ⟨#[]⟩ (.slice none 0 0) 0 0
   have hB := rpSet_below HT.out.B (Nat.le_refl _) 0 0 0 (.slice none 0 0) ⟨#[]⟩ ⟨#[]⟩ (.slice none 0 0) (.slice none 0 0) ⟨#[]⟩ (.slice none 0 0) 0 0
   unfold rpSet at hT hB
   refine bodyPost_ret (results_ct rfl _ _ w.heap.size 34 #[.int .i64 0, .int .i64 0, .int .i64 0, .slice none 0 0, .string ⟨#[]⟩, .string ⟨#[]⟩, .slice none 0 0, .slice none 0 0, .string ⟨#[]⟩, .slice none 0 0, .int .i64 0, .int .i64 0] (0, 0) _ rfl hT Tryd.underlying34 rfl (by kernel_rfl)) rfl ?_
   exact ⟨_, _, _, _, rfl, Kd.R_nil _ _ _ _ _, Kd.R_nil _ _ _ _ _, Kd.R_nil _ _ _ _ _, Kd.R_nil _ _ _ _ _, hB⟩
  rw [if_neg Bool.false_ne_true] at hh
  by_cases hat : aa = (l0.length : Int)
  case neg =>
   rw [if_neg hat] at hh
   simp only [repZ, Option.some.injEq, Prod.mk.injEq] at hh
   obtain ⟨rfl, rfl, rfl, rfl, rfl, rfl, rfl, rfl, rfl, rfl, rfl, rfl, rfl⟩ := hh
   have na_ : (aa == (l0.length : Int)) = false := beq_eq_false_iff_ne.mpr hat
   have nb_ : (aa != (l0.length : Int)) = true := bne_iff_ne.mpr hat
   clear hat
   go_wp2_with (first
     | (go_at_call 40; (with_reducible refine (frame_reader_number.calls k gr l p4a p4e u _ _ w _ ?hi ?hb U1.out).mono ?_); (case hi => exact HS.out.I); (case hb => exact HS.out.B); rintro e wU1 ⟨rfl, hi, hb, hk⟩; have HS2 := Aside0.mk (HS.out.keep hk hi hb); clear hi hb hk HS; have HS := HS2; clear HS2; clear b1 b2 b3 b4 b5 q0 q1 q2 q3 q4 q5 q6 q7 q8 q9 q10 q11 f0 f1 f2 f3 f4 f5 f6 f7 f8 f9 f10 f11; obtain ⟨b1, b2, b3, b4, b5⟩ := HS.out.cells; obtain ⟨⟨q0, q1, q2, q3, q4, q5, q6, q7, q8, q9, q10, q11⟩, f0, f1, f2, f3, f4, f5, f6, f7, f8, f9, f10, f11⟩ := rp_cells HS.out.P)
     | (go_at_call 40; (with_reducible refine (frame_reader_number.calls k gr l ua ue al _ _ w _ ?hi ?hb U2.out).mono ?_); (case hi => exact HS.out.I); (case hb => exact HS.out.B); rintro e wU2 ⟨rfl, hi, hb, hk⟩; have HS2 := Aside0.mk (HS.out.keep hk hi hb); clear hi hb hk HS; have HS := HS2; clear HS2; clear b1 b2 b3 b4 b5 q0 q1 q2 q3 q4 q5 q6 q7 q8 q9 q10 q11 f0 f1 f2 f3 f4 f5 f6 f7 f8 f9 f10 f11; obtain ⟨b1, b2, b3, b4, b5⟩ := HS.out.cells; obtain ⟨⟨q0, q1, q2, q3, q4, q5, q6, q7, q8, q9, q10, q11⟩, f0, f1, f2, f3, f4, f5, f6, f7, f8, f9, f10, f11⟩ := rp_cells HS.out.P; have HT := Aside0.mk ((HS.out.set10 u).set11 al); have nr := HS.out.nr; have nr2 := HS.out.nr.symm; have nt := HS.out.nt; have nt2 := HS.out.nt.symm; have nz := HS.out.nz; have nz2 := HS.out.nz.symm; obtain ⟨⟨z0, z1, z2, z3, z4, z5, z6, z7, z8, z9, z10, z11⟩, y0, y1, y2, y3, y4, y5, y6, y7, y8, y9, y10, y11⟩ := rp_cells HS.out.Z))
   have hT := rpSet_blk HT.out.Z 0 0 0 (.slice none 0 0) ⟨#[]⟩ ⟨#[]⟩ (.slice none 0 0) (.slice none 0 0) ⟨#[]⟩ (.slice none 0 0) 0 0
   have hB := rpSet_below HT.out.B (Nat.le_refl _) 0 0 0 (.slice none 0 0) ⟨#[]⟩ ⟨#[]⟩ (.slice none 0 0) (.slice none 0 0) ⟨#[]⟩ (.slice none 0 0) 0 0
   unfold rpSet at hT hB
   refine bodyPost_ret (results_ct rfl _ _ w.heap.size 34 #[.int .i64 0, .int .i64 0, .int .i64 0, .slice none 0 0, .string ⟨#[]⟩, .string ⟨#[]⟩, .slice none 0 0, .slice none 0 0, .string ⟨#[]⟩, .slice none 0 0, .int .i64 0, .int .i64 0] (0, 0) _ rfl hT Tryd.underlying34 rfl (by kernel_rfl)) rfl ?_
   exact ⟨_, _, _, _, rfl, Kd.R_nil _ _ _ _ _, Kd.R_nil _ _ _ _ _, Kd.R_nil _ _ _ _ _, Kd.R_nil _ _ _ _ _, hB⟩
  rw [if_pos hat] at hh
  obtain ⟨ok, hok, hh2⟩ := Option.bind_eq_some_iff.mp hh
  clear hh
  have HFT := Aside0.mk hok
  clear hok
  have na_ : (aa == (l0.length : Int)) = true := beq_iff_eq.mpr hat
  have nb_ : (aa != (l0.length : Int)) = false := bne_eq_false_iff_eq.mpr hat
  clear hat
  cases ok
  case false =>
   rw [if_neg Bool.false_ne_true] at hh2
   simp only [repZ, Option.some.injEq, Prod.mk.injEq] at hh2
   obtain ⟨rfl, rfl, rfl, rfl, rfl, rfl, rfl, rfl, rfl, rfl, rfl, rfl, rfl⟩ := hh2
   go_wp2_with (first
     | (go_at_call 40; (with_reducible refine (frame_reader_number.calls k gr l p4a p4e u _ _ w _ ?hi ?hb U1.out).mono ?_); (case hi => exact HS.out.I); (case hb => exact HS.out.B); rintro e wU1 ⟨rfl, hi, hb, hk⟩; have HS2 := Aside0.mk (HS.out.keep hk hi hb); clear hi hb hk HS; have HS := HS2; clear HS2; clear b1 b2 b3 b4 b5 q0 q1 q2 q3 q4 q5 q6 q7 q8 q9 q10 q11 f0 f1 f2 f3 f4 f5 f6 f7 f8 f9 f10 f11; obtain ⟨b1, b2, b3, b4, b5⟩ := HS.out.cells; obtain ⟨⟨q0, q1, q2, q3, q4, q5, q6, q7, q8, q9, q10, q11⟩, f0, f1, f2, f3, f4, f5, f6, f7, f8, f9, f10, f11⟩ := rp_cells HS.out.P)
     | (go_at_call 40; (with_reducible refine (frame_reader_number.calls k gr l ua ue al _ _ w _ ?hi ?hb U2.out).mono ?_); (case hi => exact HS.out.I); (case hb => exact HS.out.B); rintro e wU2 ⟨rfl, hi, hb, hk⟩; have HS2 := Aside0.mk (HS.out.keep hk hi hb); clear hi hb hk HS; have HS := HS2; clear HS2; clear b1 b2 b3 b4 b5 q0 q1 q2 q3 q4 q5 q6 q7 q8 q9 q10 q11 f0 f1 f2 f3 f4 f5 f6 f7 f8 f9 f10 f11; obtain ⟨b1, b2, b3, b4, b5⟩ := HS.out.cells; obtain ⟨⟨q0, q1, q2, q3, q4, q5, q6, q7, q8, q9, q10, q11⟩, f0, f1, f2, f3, f4, f5, f6, f7, f8, f9, f10, f11⟩ := rp_cells HS.out.P; have HT := Aside0.mk ((HS.out.set10 u).set11 al); have nr := HS.out.nr; have nr2 := HS.out.nr.symm; have nt := HS.out.nt; have nt2 := HS.out.nt.symm; have nz := HS.out.nz; have nz2 := HS.out.nz.symm; obtain ⟨⟨z0, z1, z2, z3, z4, z5, z6, z7, z8, z9, z10, z11⟩, y0, y1, y2, y3, y4, y5, y6, y7, y8, y9, y10, y11⟩ := rp_cells HS.out.Z)
     | (go_at_call 15; (with_reducible refine (frame_Fits.calls k n1 n2 n3 Ap cp ps d su Ag cg sg As cs sp no Ae ce es u al false _ ?a1 ?a2 ?a3 ?a4 ?a5 ?a6 ?a7 ?a8 HFT.out).mono ?_); (case a1 => exact (Kd.R_reads' HT.out.Rps).2.2); (case a2 => exact (Kd.R_reads' HT.out.Rps).2.1); (case a3 => exact (Kd.R_reads' HT.out.Rsg).2.2); (case a4 => exact (Kd.R_reads' HT.out.Rsg).2.1); (case a5 => exact (Kd.R_reads' HT.out.Rsp).2.2); (case a6 => exact (Kd.R_reads' HT.out.Rsp).2.1); (case a7 => exact (Kd.R_reads' HT.out.Res).2.2); (case a8 => exact (Kd.R_reads' HT.out.Res).2.1); rintro e w9 ⟨rfl, hb⟩; have HS9 := Aside0.mk (HT.out.below hb); clear hb; clear b1 b2 b3 b4 b5 q0 q1 q2 q3 q4 q5 q6 q7 q8 q9 q10 q11 f0 f1 f2 f3 f4 f5 f6 f7 f8 f9 f10 f11; clear z0 z1 z2 z3 z4 z5 z6 z7 z8 z9 z10 z11 y0 y1 y2 y3 y4 y5 y6 y7 y8 y9 y10 y11; obtain ⟨⟨z0, z1, z2, z3, z4, z5, z6, z7, z8, z9, z10, z11⟩, y0, y1, y2, y3, y4, y5, y6, y7, y8, y9, y10, y11⟩ := rp_cells HS9.out.Z))
   have hT := rpSet_blk HS9.out.Z 0 0 0 (.slice none 0 0) ⟨#[]⟩ ⟨#[]⟩ (.slice none 0 0) (.slice none 0 0) ⟨#[]⟩ (.slice none 0 0) 0 0
   have hB := rpSet_below HS9.out.B (Nat.le_refl _) 0 0 0 (.slice none 0 0) ⟨#[]⟩ ⟨#[]⟩ (.slice none 0 0) (.slice none 0 0) ⟨#[]⟩ (.slice none 0 0) 0 0
   unfold rpSet at hT hB
   refine bodyPost_ret (results_ct rfl _ _ w.heap.size 34 #[.int .i64 0, .int .i64 0, .int .i64 0, .slice none 0 0, .string ⟨#[]⟩, .string ⟨#[]⟩, .slice none 0 0, .slice none 0 0, .string ⟨#[]⟩, .slice none 0 0, .int .i64 0, .int .i64 0] (0, 0) _ rfl hT Tryd.underlying34 rfl (by kernel_rfl)) rfl ?_
   exact ⟨_, _, _, _, rfl, Kd.R_nil _ _ _ _ _, Kd.R_nil _ _ _ _ _, Kd.R_nil _ _ _ _ _, Kd.R_nil _ _ _ _ _, hB⟩
  rw [if_pos rfl] at hh2
  simp only [Option.some.injEq, Prod.mk.injEq] at hh2
  obtain ⟨rfl, rfl, rfl, rfl, rfl, rfl, rfl, rfl, rfl, rfl, rfl, rfl, rfl⟩ := hh2
  go_wp2_with (first
    | (go_at_call 40; (with_reducible refine (frame_reader_number.calls k gr l p4a p4e u _ _ w _ ?hi ?hb U1.out).mono ?_); (case hi => exact HS.out.I); (case hb => exact HS.out.B); rintro e wU1 ⟨rfl, hi, hb, hk⟩; have HS2 := Aside0.mk (HS.out.keep hk hi hb); clear hi hb hk HS; have HS := HS2; clear HS2; clear b1 b2 b3 b4 b5 q0 q1 q2 q3 q4 q5 q6 q7 q8 q9 q10 q11 f0 f1 f2 f3 f4 f5 f6 f7 f8 f9 f10 f11; obtain ⟨b1, b2, b3, b4, b5⟩ := HS.out.cells; obtain ⟨⟨q0, q1, q2, q3, q4, q5, q6, q7, q8, q9, q10, q11⟩, f0, f1, f2, f3, f4, f5, f6, f7, f8, f9, f10, f11⟩ := rp_cells HS.out.P)
    | (go_at_call 40; (with_reducible refine (frame_reader_number.calls k gr l ua ue al _ _ w _ ?hi ?hb U2.out).mono ?_); (case hi => exact HS.out.I); (case hb => exact HS.out.B); rintro e wU2 ⟨rfl, hi, hb, hk⟩; have HS2 := Aside0.mk (HS.out.keep hk hi hb); clear hi hb hk HS; have HS := HS2; clear HS2; clear b1 b2 b3 b4 b5 q0 q1 q2 q3 q4 q5 q6 q7 q8 q9 q10 q11 f0 f1 f2 f3 f4 f5 f6 f7 f8 f9 f10 f11; obtain ⟨b1, b2, b3, b4, b5⟩ := HS.out.cells; obtain ⟨⟨q0, q1, q2, q3, q4, q5, q6, q7, q8, q9, q10, q11⟩, f0, f1, f2, f3, f4, f5, f6, f7, f8, f9, f10, f11⟩ := rp_cells HS.out.P; have HT := Aside0.mk ((HS.out.set10 u).set11 al); have nr := HS.out.nr; have nr2 := HS.out.nr.symm; have nt := HS.out.nt; have nt2 := HS.out.nt.symm; have nz := HS.out.nz; have nz2 := HS.out.nz.symm; obtain ⟨⟨z0, z1, z2, z3, z4, z5, z6, z7, z8, z9, z10, z11⟩, y0, y1, y2, y3, y4, y5, y6, y7, y8, y9, y10, y11⟩ := rp_cells HS.out.Z)
    | (go_at_call 15; (with_reducible refine (frame_Fits.calls k n1 n2 n3 Ap cp ps d su Ag cg sg As cs sp no Ae ce es u al true _ ?a1 ?a2 ?a3 ?a4 ?a5 ?a6 ?a7 ?a8 HFT.out).mono ?_); (case a1 => exact (Kd.R_reads' HT.out.Rps).2.2); (case a2 => exact (Kd.R_reads' HT.out.Rps).2.1); (case a3 => exact (Kd.R_reads' HT.out.Rsg).2.2); (case a4 => exact (Kd.R_reads' HT.out.Rsg).2.1); (case a5 => exact (Kd.R_reads' HT.out.Rsp).2.2); (case a6 => exact (Kd.R_reads' HT.out.Rsp).2.1); (case a7 => exact (Kd.R_reads' HT.out.Res).2.2); (case a8 => exact (Kd.R_reads' HT.out.Res).2.1); rintro e w9 ⟨rfl, hb⟩; have HS9 := Aside0.mk (HT.out.below hb); clear hb; clear b1 b2 b3 b4 b5 q0 q1 q2 q3 q4 q5 q6 q7 q8 q9 q10 q11 f0 f1 f2 f3 f4 f5 f6 f7 f8 f9 f10 f11; clear z0 z1 z2 z3 z4 z5 z6 z7 z8 z9 z10 z11 y0 y1 y2 y3 y4 y5 y6 y7 y8 y9 y10 y11; obtain ⟨⟨z0, z1, z2, z3, z4, z5, z6, z7, z8, z9, z10, z11⟩, y0, y1, y2, y3, y4, y5, y6, y7, y8, y9, y10, y11⟩ := rp_cells HS9.out.Z; obtain ⟨⟨q0, q1, q2, q3, q4, q5, q6, q7, q8, q9, q10, q11⟩, f0, f1, f2, f3, f4, f5, f6, f7, f8, f9, f10, f11⟩ := rp_cells HS9.out.P))
  have hT := rpSet_blk HS9.out.Z n1 n2 n3 (.slice Ap ps.length cp) d su (.slice Ag sg.length cg) (.slice As sp.length cs) no (.slice Ae es.length ce) u al
  have hB := rpSet_below HS9.out.B (Nat.le_refl _) n1 n2 n3 (.slice Ap ps.length cp) d su (.slice Ag sg.length cg) (.slice As sp.length cs) no (.slice Ae es.length ce) u al
  have hk := rpSet_keep w9 w.heap.size n1 n2 n3 (.slice Ap ps.length cp) d su (.slice Ag sg.length cg) (.slice As sp.length cs) no (.slice Ae es.length ce) u al
  have hRps := Kd.R_mono (Kd.R_keep HS9.out.Rps hk (fun _ q => q.2.2.1)) (fun _ _ => trivial : ∀ _, _ → (fun _ => True) _)
  have hRsg := Kd.R_mono (Kd.R_keep HS9.out.Rsg hk (fun _ q => q.2.2.1)) (fun _ _ => trivial : ∀ _, _ → (fun _ => True) _)
  have hRsp := Kd.R_mono (Kd.R_keep HS9.out.Rsp hk (fun _ q => q.2.2.1)) (fun _ _ => trivial : ∀ _, _ → (fun _ => True) _)
  have hRes := Kd.R_mono (Kd.R_keep HS9.out.Res hk (fun _ q => q.2.2.1)) (fun _ _ => trivial : ∀ _, _ → (fun _ => True) _)
  clear hk
  unfold rpSet at hT hB hRps hRsg hRsp hRes
  refine bodyPost_ret (results_ct rfl _ _ w.heap.size 34 #[.int .i64 n1, .int .i64 n2, .int .i64 n3, (.slice Ap ps.length cp), .string d, .string su, (.slice Ag sg.length cg), (.slice As sp.length cs), .string no, (.slice Ae es.length ce), .int .i64 u, .int .i64 al] (0, 0) _ rfl hT Tryd.underlying34 rfl (by kernel_rfl)) rfl ?_
  exact ⟨_, _, _, _, rfl, hRps, hRsg, hRsp, hRes, hB⟩

end Go.Proofs.YtoankokkdmbjmaaDoorH.HFrameCuts
