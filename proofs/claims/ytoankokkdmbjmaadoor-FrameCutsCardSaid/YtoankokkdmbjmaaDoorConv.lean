/- '[]byte(s)' of a string that is no constant, as one step of a region that draws: a row that is read alone. -/
import Derived.Lib.ConvBytes
import Derived.Test.YtoankokkdmbjmaaDoorWMore
namespace Go.Proofs.YtoankokkdmbjmaaDoor
open Go.RowKit Go.Proofs.YtoankokkdmbjmaaDoorW.PrintWords Go.Proofs.YtoankokkdmbjmaaDoorW.PrintMore
theorem bytesW_below {base : Nat} {w0 W : World} (e : TypeId) (s : ByteArray) (HB : Below base w0 W) (hbase : base ≤ W.heap.size) : Below base w0 (Lib.bytesWorld W e s) :=
  HB.trans ⟨rfl, rfl, rfl, by rw [Lib.bytesWorld_size]; omega, fun k hk => Lib.bytesWorld_at_old W e s k (by omega)⟩
/-- The new row's bytes are the text's. -/
theorem bytesW_V (W : World) (e e' base : Nat) (s : ByteArray) (ok : Nat → Prop) (hok : ok W.heap.size) (hs : s.size ≤ 9223372036854775807) :
    (Kd.int .u8).V e' (Lib.bytesWorld W e s) base ok (.slice (some ⟨W.heap.size, 0, none⟩) s.size (grownCap W s.size 0 e)) (s.data.toList.map fun b => (b.toNat : Int)) := by
  have hl : (s.data.toList.map fun b => (b.toNat : Int)).length = s.size := by rw [List.length_map]; rfl
  rw [← hl]
  refine Kd.V_mk (by rw [hl]; exact grownCap_ge _ _ _ _) ?_
  intro W' hW
  have hb := (hW W.heap.size hok (by rw [Lib.bytesWorld_size]; omega)).trans (Lib.bytesWorld_at_new W e s)
  refine Kd.C_of_reads (d := (0 : Int)) (enc := Value.int .u8) (h1 := fun _ => rfl) ?_
  refine ⟨rfl, by rw [hl]; exact hs, fun _ => ⟨_, rfl, fun j hj => ?_⟩⟩
  rw [hl] at hj
  have hj2 : j < s.data.toList.length := hj
  have hj3 : j < s.data.size := hj
  have e2 : (⟨W.heap.size, 0, none⟩ : Addr).add j = ⟨W.heap.size, j, none⟩ := by
    cases j with
    | zero => rfl
    | succ j => simp [Addr.add]
  rw [e2]
  simp [World.cell?, hb, Lib.bytesCells, Array.getElem?_append, List.getD_eq_getElem?_getD]
  rw [if_pos hj, Array.getElem?_eq_getElem hj3]
  rfl
section
variable {P : Program} {ops : Array Oper} {o : Oper} {a : Act} {Q : Exit → Act → World → Prop} {Kc : Act → World → Prop}
theorem V_conv_step {w0 W : World} (base e : Nat) (hw : Region.wanted o (yielded ops a.tmps) = true) {N : Tmp} (_hd : o.dst = some N) (src dst : TypeId) (x : Operand) (ho : o.op = .convert src dst x) (s : ByteArray) (hx : a.eval x = .string s) {u : TypeDesc}
    (hsrc : P.underlying src = some u) (hdst : P.underlying dst = some (.slice e)) (he : P.underlying e = some (.int .u8)) {ok : Nat → Prop} (hfresh : ok W.heap.size) (HB : Below base w0 W) (hbase : base ≤ W.heap.size) (hs : s.size ≤ 9223372036854775807)
    (h : ∀ v1 w1, (Kd.int .u8).V e w1 base ok v1 (s.data.toList.map fun b => (b.toNat : Int)) → Below base w0 w1 → True → (∃ b, v1.ownBlock = some b ∧ W.heap.size ≤ b) → Kc (a.put o.dst v1) w1) : if Region.wanted o (yielded ops a.tmps) = true then Oper.wp P o a W Kc Q else Kc (a.put o.dst undef) W := by
  refine event_step hw (w1 := Lib.bytesWorld W e s) (v := .slice (some ⟨W.heap.size, 0, none⟩) s.size (grownCap W s.size 0 e)) ?_ (h _ _ (bytesW_V W e e base s ok hfresh hs) (bytesW_below e s HB hbase) trivial ⟨W.heap.size, rfl, Nat.le_refl _⟩)
  simp [execOp, ho, hx, Lib.run_convert_string_bytes (P := P) W src dst e s hsrc hdst he, Result.andThen]
end
end Go.Proofs.YtoankokkdmbjmaaDoor
