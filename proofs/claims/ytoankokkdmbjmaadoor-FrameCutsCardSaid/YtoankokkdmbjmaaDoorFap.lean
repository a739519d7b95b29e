/- append to a row without room. -/
import Derived.Test.YtoankokkdmbjmaaDoorHFrameCutsx0
namespace Go.Proofs.YtoankokkdmbjmaaDoorH.HFrameCuts
open Go.RowKit Go.Proofs.YtoankokkdmbjmaaDoorW.PrintWords Go.Proofs.YtoankokkdmbjmaaDoorW.PrintLast Go.Proofs.YtoankokkdmbjmaaDoorW.PrintMore
set_option linter.unusedVariables false
set_option linter.unusedSimpArgs false
theorem app_full {ops : Array Oper} {rest : List Oper} {o : Oper} {a : Act} {Q : Exit → Act → World → Prop} (w : World) (hg : o.guard = none) (s x : Operand) (hop : o.op = .call { callee := .builtin .append, args := #[s, x], argTypes := #[36, 36] })
    (A : Option Addr) (n : Nat) (xs : List Int) (hs : a.eval s = .slice A n n) (hC : Kd.C (Kd.int .u8) w A xs.length xs) (hn : xs.length = n) (g : Nat) (y : Int) (hx : a.eval x = .slice (some ⟨g, 0, none⟩) 1 1) (hy : w.cell? ⟨g, 0, none⟩ = some (.int .u8 y)) (hl : n < 1000000)
    (hK : ∀ (A' : Option Addr) (c' : Nat) (w' : World), Kd.C (Kd.int .u8) w' A' (xs ++ [y]).length (xs ++ [y]) → (xs ++ [y]).length ≤ c' → Below w.heap.size w w' → wpList Tryd.prog ops Q rest (a.put o.dst (.slice A' (xs ++ [y]).length c')) w') : wpList Tryd.prog ops Q (o :: rest) a w := by
  subst hn
  obtain ⟨i, hi, hz0, hz1, hz2⟩ := info_parts info5
  have hR := Kd.reads_of_C (enc := Value.int .u8) (d := (0 : Int)) (h1 := fun _ => rfl) hC
  refine wpList_append_grows w hg s x 36 hop 5 i (.int .u8 0) 1 1 Tryd.underlying36 hi hz0 hz1 hz2 rfl (by decide) A xs.length xs.length (nums .u8 xs) hs (fun h => ?_) (by simp [nums]) (fun b hb j u hj => ?_) ⟨g, 0, none⟩ 1 1 [.int .u8 y] hx rfl (fun j u hj => ?_) (by simp [Value.oneCell']) (by omega) (by unfold maxLen; omega) (by omega) (fun v' w' ho hgr => ?_)
  · rcases Nat.eq_zero_or_pos xs.length with h0 | h0
    · exact ⟨h0, h0⟩
    · obtain ⟨ad, e, _⟩ := hR.2.2 h0
      rw [h] at e; cases e
  · have hj' : j < xs.length := by
      have := (List.getElem?_eq_some_iff.1 hj).1
      simpa [nums] using this
    obtain ⟨ad, e, hc⟩ := hR.2.2 (by omega)
    rw [hb] at e
    cases e
    rw [hc j hj']
    have h2 : (nums .u8 xs)[j]? = some (.int .u8 (xs.getD j 0)) := by simp [nums, List.getD_eq_getElem?_getD, hj']
    rw [h2] at hj
    exact hj
  · cases j with
    | zero => simp only [List.getElem?_cons_zero, Option.some.injEq] at hj; subst hj; exact hy
    | succ j => simp at hj
  · have e2 : nums .u8 xs ++ [.int .u8 y] = nums .u8 (xs ++ [y]) := by simp [nums]
    rw [e2] at ho
    obtain ⟨A', c', rfl, hr⟩ := own_reads ho
    have hle := own_le ho
    have hlen : (xs ++ [y]).length = xs.length + 1 := by simp
    rw [← hlen] at hr hle ⊢
    exact hK A' c' w' (Kd.C_of_reads (d := (0 : Int)) (h1 := fun _ => rfl) hr) hle ⟨hgr.os, hgr.tape, hgr.output, hgr.size, fun k hk => hgr.block k hk (by simp)⟩
end Go.Proofs.YtoankokkdmbjmaaDoorH.HFrameCuts
