/- FrameCuts: a request or a reply, cut short or with a byte behind it, is not read, for every input; the tables of the library that the row lists are tied to the program. -/
import Derived.Test.YtoankokkdmbjmaaDoorTie
import Derived.Test.YtoankokkdmbjmaaDoorCards
import Derived.Test.YtoankokkdmbjmaaDoorFlc
import Derived.Test.YtoankokkdmbjmaaDoorPureFrameCuts
import Derived.WalkKit
import Derived.ProofKit
import Derived.OpenShut
import Derived.ShutString
import Derived.ChangeOld
import Derived.Below
import Derived.SizedLaws
import Derived.LaidMore
import Derived.Lay
import Derived.SevenTiedAt
import Derived.Stop.Joined
import Derived.Lib.SmallJoins
import Derived.Laws.IdiomArrays
import Derived.Deep.Slices
import Derived.Deep.Strs
namespace Go.Proofs.YtoankokkdmbjmaaDoor.frameCuts
open Go.ChangeShapes Go.WideShapes Go.ChangeAt Go.RowKit
open Go.ChangeMaps (open_string shut_string)
open Go.Proofs.YtoankokkdmbjmaaDoorW.PrintWords Go.Proofs.YtoankokkdmbjmaaDoorW.PrintLast Go.Proofs.YtoankokkdmbjmaaDoorW.PrintMore Go.Proofs.YtoankokkdmbjmaaDoorH.HFrameCuts
set_option linter.unusedVariables false
set_option linter.unusedSimpArgs false
set_option maxRecDepth 100000
theorem own : ownKnob Tryd.prog.godebug = none := by kernel_rfl
theorem laidOut : laidOutB Tryd.prog = true := by kernel_rfl
theorem cells3 : Tryd.prog.cellsOf 3 = 1 := by kernel_rfl
theorem cells9 : Tryd.prog.cellsOf 9 = 1 := by kernel_rfl
theorem cells22 : Tryd.prog.cellsOf 22 = 1 := by kernel_rfl
theorem cells24 : Tryd.prog.cellsOf 24 = 1 := by kernel_rfl
theorem cells28 : Tryd.prog.cellsOf 28 = 1 := by kernel_rfl
theorem cells29 : Tryd.prog.cellsOf 29 = 1 := by kernel_rfl
theorem cells30 : Tryd.prog.cellsOf 30 = 1 := by kernel_rfl
theorem cells31 : Tryd.prog.cellsOf 31 = 1 := by kernel_rfl
theorem cells32 : Tryd.prog.cellsOf 32 = 1 := by kernel_rfl
theorem cells34 : Tryd.prog.cellsOf 34 = 12 := by kernel_rfl
theorem cells43 : Tryd.prog.cellsOf 43 = 1 := by kernel_rfl
theorem cells45 : Tryd.prog.cellsOf 45 = 4 := by kernel_rfl
theorem cells47 : Tryd.prog.cellsOf 47 = 12 := by kernel_rfl
theorem cells55 : Tryd.prog.cellsOf 55 = 2 := by kernel_rfl
theorem cells63 : Tryd.prog.cellsOf 63 = 1 := by kernel_rfl
theorem cells65 : Tryd.prog.cellsOf 65 = 2 := by kernel_rfl
theorem cells67 : Tryd.prog.cellsOf 67 = 5 := by kernel_rfl
theorem cells74 : Tryd.prog.cellsOf 74 = 2 := by kernel_rfl
theorem cells91 : Tryd.prog.cellsOf 91 = 3 := by kernel_rfl
section
variable {H : Type} {enc : TypeId × Value → H} {W : World}
theorem op24 {n : Nat} {cs : List Value} {x : DataW H × List MemPlace} (h : DataW.trod enc Tryd.prog W 0 (fun _ => true) true n 24 cs = some x) : ∃ a : Int, cs = [.int .i64 a] := by
  obtain ⟨a, e, _, _⟩ := DataW.trod_int Tryd.underlying24 h
  exact ⟨a, e⟩
theorem op3 {n : Nat} {cs : List Value} {x : DataW H × List MemPlace} (h : DataW.trod enc Tryd.prog W 0 (fun _ => true) true n 3 cs = some x) : ∃ a : Int, cs = [.int .i64 a] := by
  obtain ⟨a, e, _, _⟩ := DataW.trod_int Tryd.underlying3 h
  exact ⟨a, e⟩
theorem op9 {n : Nat} {cs : List Value} {x : DataW H × List MemPlace} (h : DataW.trod enc Tryd.prog W 0 (fun _ => true) true n 9 cs = some x) : ∃ s : ByteArray, cs = [.string s] := by
  obtain ⟨s, e, _, _⟩ := DataW.trod_string Tryd.underlying9 h
  exact ⟨s, e⟩
theorem op22 {n : Nat} {cs : List Value} {x : DataW H × List MemPlace} (h : DataW.trod enc Tryd.prog W 0 (fun _ => true) true n 22 cs = some x) : ∃ a : Int, cs = [.int .i64 a] := by
  obtain ⟨a, e, _, _⟩ := DataW.trod_int Tryd.underlying22 h
  exact ⟨a, e⟩
theorem op91 {n : Nat} {cs : List Value} {x : DataW H × List MemPlace} (h : DataW.trod enc Tryd.prog W 0 (fun _ => true) true n 91 cs = some x) : ∃ (z_0 : ByteArray) (z_1 : Int) (z_2 : Int), cs = [.string z_0, .int .i64 z_1, .int .i64 z_2] := by
  obtain ⟨xs, n, _, _, hl, hlen, hfi⟩ := DataW.trod_struct Tryd.underlying91 h
  rw [cells91] at hl
  match xs, hlen, cs, hl with
  | [y0, y1, y2], _, [q0, q1, q2], _ =>
    have g0 := hfi 0 _ rfl
    have g1 := hfi 1 _ rfl
    have g2 := hfi 2 _ rfl
    simp [cells3, cells9, cells22, cells24, cells28, cells29, cells30, cells31, cells32, cells34, cells43, cells45, cells47, cells55, cells63, cells65, cells67, cells74, cells91] at g0
    simp [cells3, cells9, cells22, cells24, cells28, cells29, cells30, cells31, cells32, cells34, cells43, cells45, cells47, cells55, cells63, cells65, cells67, cells74, cells91] at g1
    simp [cells3, cells9, cells22, cells24, cells28, cells29, cells30, cells31, cells32, cells34, cells43, cells45, cells47, cells55, cells63, cells65, cells67, cells74, cells91] at g2
    obtain ⟨z_0, e0⟩ := op9 g0
    obtain ⟨z_1, e1⟩ := op22 g1
    obtain ⟨z_2, e2⟩ := op3 g2
    simp at e0
    simp at e1
    simp at e2
    subst e0
    subst e1
    subst e2
    exact ⟨z_0, z_1, z_2, rfl⟩
instance : Inhabited S91 := ⟨z91⟩
theorem op43 {n : Nat} {cs : List Value} {x : DataW H × List MemPlace} (h : DataW.trod enc Tryd.prog W 0 (fun _ => true) true n 43 cs = some x) : ∃ (A : Option Addr) (c : Nat) (l : List S91), cs = [.slice A l.length c] ∧ l.length ≤ c ∧ Kd.C k91 W A l.length l := by
  rcases Go.Deep.open_slice Tryd.underlying43 h with ⟨rfl, _⟩ | ⟨a, len, cap, m, n, D, Pl, rfl, hb, hl, hm, hmm, _, hx⟩
  · exact ⟨none, 0, [], rfl, Nat.le_refl 0, ⟨rfl, by simp, fun h => absurd h (by simp)⟩⟩
  · have each : ∀ i, i < len → ∃ y : S91, W.cells? 0 (a.add (i * 3)) 3 = some [.string y.f0, .int .i64 y.f1, .int .i64 y.f2] := by
      intro i hi
      obtain ⟨cs', h1, h2⟩ := hx i (by rw [hmm]; simp; omega)
      obtain ⟨z_0, z_1, z_2, rfl⟩ := op91 h2
      rw [cells91] at h1
      exact ⟨⟨z_0, z_1, z_2⟩, h1⟩
    obtain ⟨f, hf⟩ := Go.Deep.choose_lt each
    have hml : cap ≤ 9223372036854775807 := by simp only [maxLen] at hm; omega
    refine ⟨some a, cap, (List.range len).map f, by simp, by simpa using hl, ⟨by simp, by simp; omega, fun _ => ⟨a, rfl, fun j p hp => ?_⟩⟩⟩
    have hj : j < len := by
      have := (List.getElem?_eq_some_iff.1 hp).1
      simpa using this
    obtain rfl : f j = p := by
      rw [List.getElem?_map, List.getElem?_range hj] at hp
      simpa using hp
    obtain ⟨_, _, hcell⟩ := World.cells?_some (hf j hj)
    refine ⟨_, rfl, k91_mk W (f j), fun i u hu => ?_⟩
    have hi : i < 3 := by
      have := (List.getElem?_eq_some_iff.1 hu).1
      simpa using this
    have e := hcell i hi
    rw [Go.Deep.add_add] at e
    show W.cell? (a.add (j * 3 + i)) = some u
    rw [e, hu]
theorem op45 {n : Nat} {cs : List Value} {x : DataW H × List MemPlace} (h : DataW.trod enc Tryd.prog W 0 (fun _ => true) true n 45 cs = some x) : ∃ (z_0 : Int) (z_1 : Int) (Az_2 : Option Addr) (cz_2 : Nat) (Lz_2 : List S91) (z_3 : ByteArray), cs = [.int .i64 z_0, .int .i64 z_1, .slice Az_2 Lz_2.length cz_2, .string z_3] ∧ Lz_2.length ≤ cz_2 ∧ Kd.C k91 W Az_2 Lz_2.length Lz_2 := by
  obtain ⟨xs, n, _, _, hl, hlen, hfi⟩ := DataW.trod_struct Tryd.underlying45 h
  rw [cells45] at hl
  match xs, hlen, cs, hl with
  | [y0, y1, y2, y3], _, [q0, q1, q2, q3], _ =>
    have g0 := hfi 0 _ rfl
    have g1 := hfi 1 _ rfl
    have g2 := hfi 2 _ rfl
    have g3 := hfi 3 _ rfl
    simp [cells3, cells9, cells22, cells24, cells28, cells29, cells30, cells31, cells32, cells34, cells43, cells45, cells47, cells55, cells63, cells65, cells67, cells74, cells91] at g0
    simp [cells3, cells9, cells22, cells24, cells28, cells29, cells30, cells31, cells32, cells34, cells43, cells45, cells47, cells55, cells63, cells65, cells67, cells74, cells91] at g1
    simp [cells3, cells9, cells22, cells24, cells28, cells29, cells30, cells31, cells32, cells34, cells43, cells45, cells47, cells55, cells63, cells65, cells67, cells74, cells91] at g2
    simp [cells3, cells9, cells22, cells24, cells28, cells29, cells30, cells31, cells32, cells34, cells43, cells45, cells47, cells55, cells63, cells65, cells67, cells74, cells91] at g3
    obtain ⟨z_0, e0⟩ := op3 g0
    obtain ⟨z_1, e1⟩ := op3 g1
    obtain ⟨Az_2, cz_2, Lz_2, e2, hcz_2, hkz_2⟩ := op43 g2
    obtain ⟨z_3, e3⟩ := op9 g3
    simp at e0
    simp at e1
    simp at e2
    simp at e3
    subst e0
    subst e1
    subst e2
    subst e3
    exact ⟨z_0, z_1, Az_2, cz_2, Lz_2, z_3, rfl, hcz_2, hkz_2⟩
theorem op47 {n : Nat} {cs : List Value} {x : DataW H × List MemPlace} (h : DataW.trod enc Tryd.prog W 0 (fun _ => true) true n 47 cs = some x) : ∃ (z_0 : Int) (z_1 : Int) (z_2 : Int) (z_3_0 : Int) (z_3_1 : Int) (Az_3_2 : Option Addr) (cz_3_2 : Nat) (Lz_3_2 : List S91) (z_3_3 : ByteArray) (z_4 : ByteArray) (z_5 : ByteArray) (z_6 : ByteArray) (z_7 : ByteArray) (z_8 : ByteArray), cs = [.int .i64 z_0, .int .i64 z_1, .int .i64 z_2, .int .i64 z_3_0, .int .i64 z_3_1, .slice Az_3_2 Lz_3_2.length cz_3_2, .string z_3_3, .string z_4, .string z_5, .string z_6, .string z_7, .string z_8] ∧ Lz_3_2.length ≤ cz_3_2 ∧ Kd.C k91 W Az_3_2 Lz_3_2.length Lz_3_2 := by
  obtain ⟨xs, n, _, _, hl, hlen, hfi⟩ := DataW.trod_struct Tryd.underlying47 h
  rw [cells47] at hl
  match xs, hlen, cs, hl with
  | [y0, y1, y2, y3, y4, y5, y6, y7, y8], _, [q0, q1, q2, q3, q4, q5, q6, q7, q8, q9, q10, q11], _ =>
    have g0 := hfi 0 _ rfl
    have g1 := hfi 1 _ rfl
    have g2 := hfi 2 _ rfl
    have g3 := hfi 3 _ rfl
    have g4 := hfi 4 _ rfl
    have g5 := hfi 5 _ rfl
    have g6 := hfi 6 _ rfl
    have g7 := hfi 7 _ rfl
    have g8 := hfi 8 _ rfl
    simp [cells3, cells9, cells22, cells24, cells28, cells29, cells30, cells31, cells32, cells34, cells43, cells45, cells47, cells55, cells63, cells65, cells67, cells74, cells91] at g0
    simp [cells3, cells9, cells22, cells24, cells28, cells29, cells30, cells31, cells32, cells34, cells43, cells45, cells47, cells55, cells63, cells65, cells67, cells74, cells91] at g1
    simp [cells3, cells9, cells22, cells24, cells28, cells29, cells30, cells31, cells32, cells34, cells43, cells45, cells47, cells55, cells63, cells65, cells67, cells74, cells91] at g2
    simp [cells3, cells9, cells22, cells24, cells28, cells29, cells30, cells31, cells32, cells34, cells43, cells45, cells47, cells55, cells63, cells65, cells67, cells74, cells91] at g3
    simp [cells3, cells9, cells22, cells24, cells28, cells29, cells30, cells31, cells32, cells34, cells43, cells45, cells47, cells55, cells63, cells65, cells67, cells74, cells91] at g4
    simp [cells3, cells9, cells22, cells24, cells28, cells29, cells30, cells31, cells32, cells34, cells43, cells45, cells47, cells55, cells63, cells65, cells67, cells74, cells91] at g5
    simp [cells3, cells9, cells22, cells24, cells28, cells29, cells30, cells31, cells32, cells34, cells43, cells45, cells47, cells55, cells63, cells65, cells67, cells74, cells91] at g6
    simp [cells3, cells9, cells22, cells24, cells28, cells29, cells30, cells31, cells32, cells34, cells43, cells45, cells47, cells55, cells63, cells65, cells67, cells74, cells91] at g7
    simp [cells3, cells9, cells22, cells24, cells28, cells29, cells30, cells31, cells32, cells34, cells43, cells45, cells47, cells55, cells63, cells65, cells67, cells74, cells91] at g8
    obtain ⟨z_0, e0⟩ := op24 g0
    obtain ⟨z_1, e1⟩ := op3 g1
    obtain ⟨z_2, e2⟩ := op3 g2
    obtain ⟨z_3_0, z_3_1, Az_3_2, cz_3_2, Lz_3_2, z_3_3, e3, hcz_3_2, hkz_3_2⟩ := op45 g3
    obtain ⟨z_4, e4⟩ := op9 g4
    obtain ⟨z_5, e5⟩ := op9 g5
    obtain ⟨z_6, e6⟩ := op9 g6
    obtain ⟨z_7, e7⟩ := op9 g7
    obtain ⟨z_8, e8⟩ := op9 g8
    simp at e0
    simp at e1
    simp at e2
    simp at e3
    simp at e4
    simp at e5
    simp at e6
    simp at e7
    simp at e8
    subst e0
    subst e1
    subst e2
    obtain ⟨rfl, rfl, rfl, rfl⟩ := e3
    subst e4
    subst e5
    subst e6
    subst e7
    subst e8
    exact ⟨z_0, z_1, z_2, z_3_0, z_3_1, Az_3_2, cz_3_2, Lz_3_2, z_3_3, z_4, z_5, z_6, z_7, z_8, rfl, hcz_3_2, hkz_3_2⟩
theorem op28 {n : Nat} {cs : List Value} {x : DataW H × List MemPlace} (h : DataW.trod enc Tryd.prog W 0 (fun _ => true) true n 28 cs = some x) : ∃ a : Int, cs = [.int .i64 a] := by
  obtain ⟨a, e, _, _⟩ := DataW.trod_int Tryd.underlying28 h
  exact ⟨a, e⟩
theorem op29 {n : Nat} {cs : List Value} {x : DataW H × List MemPlace} (h : DataW.trod enc Tryd.prog W 0 (fun _ => true) true n 29 cs = some x) : ∃ (A : Option Addr) (c : Nat) (l : List ByteArray), cs = [.slice A l.length c] ∧ l.length ≤ c ∧ Kd.C Kd.string W A l.length l := by
  rcases Go.Deep.open_slice Tryd.underlying29 h with ⟨rfl, _⟩ | ⟨a, len, cap, m, n, D, Pl, rfl, hb, hl, hm, hmm, _, hx⟩
  · exact ⟨none, 0, [], rfl, Nat.le_refl 0, ⟨rfl, by simp, fun h => absurd h (by simp)⟩⟩
  · have each : ∀ i, i < len → ∃ y : ByteArray, W.cells? 0 (a.add (i * 1)) 1 = some [.string y] := by
      intro i hi
      obtain ⟨cs', h1, h2⟩ := hx i (by rw [hmm]; simp; omega)
      obtain ⟨y, rfl⟩ := op9 h2
      rw [cells9] at h1
      exact ⟨y, h1⟩
    obtain ⟨f, hf⟩ := Go.Deep.choose_lt each
    have hml : cap ≤ 9223372036854775807 := by simp only [maxLen] at hm; omega
    refine ⟨some a, cap, (List.range len).map f, by simp, by simpa using hl, ⟨by simp, by simp; omega, fun _ => ⟨a, rfl, fun j p hp => ?_⟩⟩⟩
    have hj : j < len := by
      have := (List.getElem?_eq_some_iff.1 hp).1
      simpa using this
    obtain rfl : f j = p := by
      rw [List.getElem?_map, List.getElem?_range hj] at hp
      simpa using hp
    obtain ⟨_, _, hcell⟩ := World.cells?_some (hf j hj)
    refine ⟨_, rfl, rfl, fun i u hu => ?_⟩
    have hi : i < 1 := by
      have := (List.getElem?_eq_some_iff.1 hu).1
      simpa using this
    have e := hcell i hi
    rw [Go.Deep.add_add] at e
    show W.cell? (a.add (j * 1 + i)) = some u
    rw [e, hu]
theorem op63 {n : Nat} {cs : List Value} {x : DataW H × List MemPlace} (h : DataW.trod enc Tryd.prog W 0 (fun _ => true) true n 63 cs = some x) : ∃ a : Int, cs = [.int .u32 a] ∧ (Lit.int .u32 a).wf = true := by
  obtain ⟨a, e, _, hw⟩ := DataW.trod_int Tryd.underlying63 h
  exact ⟨a, e, hw⟩
theorem op65 {n : Nat} {cs : List Value} {x : DataW H × List MemPlace} (h : DataW.trod enc Tryd.prog W 0 (fun _ => true) true n 65 cs = some x) : ∃ (z_0 : Int) (z_1 : ByteArray), cs = [.int .u32 z_0, .string z_1] ∧ (Lit.int .u32 z_0).wf = true := by
  obtain ⟨xs, n, _, _, hl, hlen, hfi⟩ := DataW.trod_struct Tryd.underlying65 h
  rw [cells65] at hl
  match xs, hlen, cs, hl with
  | [y0, y1], _, [q0, q1], _ =>
    have g0 := hfi 0 _ rfl
    have g1 := hfi 1 _ rfl
    simp [cells3, cells9, cells22, cells24, cells28, cells29, cells30, cells31, cells32, cells34, cells43, cells45, cells47, cells55, cells63, cells65, cells67, cells74, cells91] at g0
    simp [cells3, cells9, cells22, cells24, cells28, cells29, cells30, cells31, cells32, cells34, cells43, cells45, cells47, cells55, cells63, cells65, cells67, cells74, cells91] at g1
    obtain ⟨z_0, e0, hwz_0⟩ := op63 g0
    obtain ⟨z_1, e1⟩ := op9 g1
    simp at e0
    simp at e1
    subst e0
    subst e1
    exact ⟨z_0, z_1, rfl, hwz_0⟩
instance : Inhabited S65 := ⟨z65⟩
theorem op30 {n : Nat} {cs : List Value} {x : DataW H × List MemPlace} (h : DataW.trod enc Tryd.prog W 0 (fun _ => true) true n 30 cs = some x) : ∃ (A : Option Addr) (c : Nat) (l : List S65), cs = [.slice A l.length c] ∧ l.length ≤ c ∧ Kd.C k65 W A l.length l ∧ (∀ x ∈ l, (Lit.int .u32 x.f0).wf = true) := by
  rcases Go.Deep.open_slice Tryd.underlying30 h with ⟨rfl, _⟩ | ⟨a, len, cap, m, n, D, Pl, rfl, hb, hl, hm, hmm, _, hx⟩
  · exact ⟨none, 0, [], rfl, Nat.le_refl 0, ⟨rfl, by simp, fun h => absurd h (by simp)⟩, by simp⟩
  · have each : ∀ i, i < len → ∃ y : S65, W.cells? 0 (a.add (i * 2)) 2 = some [.int .u32 y.f0, .string y.f1] ∧ (Lit.int .u32 y.f0).wf = true := by
      intro i hi
      obtain ⟨cs', h1, h2⟩ := hx i (by rw [hmm]; simp; omega)
      obtain ⟨z_0, z_1, rfl, hwz_0⟩ := op65 h2
      rw [cells65] at h1
      exact ⟨⟨z_0, z_1⟩, h1, hwz_0⟩
    obtain ⟨f, hf⟩ := Go.Deep.choose_lt each
    have hml : cap ≤ 9223372036854775807 := by simp only [maxLen] at hm; omega
    refine ⟨some a, cap, (List.range len).map f, by simp, by simpa using hl, ⟨by simp, by simp; omega, fun _ => ⟨a, rfl, fun j p hp => ?_⟩⟩, fun x hx => by (obtain ⟨j, hj, rfl⟩ := List.mem_map.1 hx; exact (hf j (List.mem_range.1 hj)).2)⟩
    have hj : j < len := by
      have := (List.getElem?_eq_some_iff.1 hp).1
      simpa using this
    obtain rfl : f j = p := by
      rw [List.getElem?_map, List.getElem?_range hj] at hp
      simpa using hp
    obtain ⟨_, _, hcell⟩ := World.cells?_some (hf j hj).1
    refine ⟨_, rfl, k65_mk W (f j), fun i u hu => ?_⟩
    have hi : i < 2 := by
      have := (List.getElem?_eq_some_iff.1 hu).1
      simpa using this
    have e := hcell i hi
    rw [Go.Deep.add_add] at e
    show W.cell? (a.add (j * 2 + i)) = some u
    rw [e, hu]
theorem op74 {n : Nat} {cs : List Value} {x : DataW H × List MemPlace} (h : DataW.trod enc Tryd.prog W 0 (fun _ => true) true n 74 cs = some x) : ∃ (z_0 : Int) (z_1 : Int), cs = [.int .i64 z_0, .int .i64 z_1] := by
  obtain ⟨xs, n, _, _, hl, hlen, hfi⟩ := DataW.trod_struct Tryd.underlying74 h
  rw [cells74] at hl
  match xs, hlen, cs, hl with
  | [y0, y1], _, [q0, q1], _ =>
    have g0 := hfi 0 _ rfl
    have g1 := hfi 1 _ rfl
    simp [cells3, cells9, cells22, cells24, cells28, cells29, cells30, cells31, cells32, cells34, cells43, cells45, cells47, cells55, cells63, cells65, cells67, cells74, cells91] at g0
    simp [cells3, cells9, cells22, cells24, cells28, cells29, cells30, cells31, cells32, cells34, cells43, cells45, cells47, cells55, cells63, cells65, cells67, cells74, cells91] at g1
    obtain ⟨z_0, e0⟩ := op3 g0
    obtain ⟨z_1, e1⟩ := op3 g1
    simp at e0
    simp at e1
    subst e0
    subst e1
    exact ⟨z_0, z_1, rfl⟩
instance : Inhabited S74 := ⟨z74⟩
theorem op31 {n : Nat} {cs : List Value} {x : DataW H × List MemPlace} (h : DataW.trod enc Tryd.prog W 0 (fun _ => true) true n 31 cs = some x) : ∃ (A : Option Addr) (c : Nat) (l : List S74), cs = [.slice A l.length c] ∧ l.length ≤ c ∧ Kd.C k74 W A l.length l := by
  rcases Go.Deep.open_slice Tryd.underlying31 h with ⟨rfl, _⟩ | ⟨a, len, cap, m, n, D, Pl, rfl, hb, hl, hm, hmm, _, hx⟩
  · exact ⟨none, 0, [], rfl, Nat.le_refl 0, ⟨rfl, by simp, fun h => absurd h (by simp)⟩⟩
  · have each : ∀ i, i < len → ∃ y : S74, W.cells? 0 (a.add (i * 2)) 2 = some [.int .i64 y.f0, .int .i64 y.f1] := by
      intro i hi
      obtain ⟨cs', h1, h2⟩ := hx i (by rw [hmm]; simp; omega)
      obtain ⟨z_0, z_1, rfl⟩ := op74 h2
      rw [cells74] at h1
      exact ⟨⟨z_0, z_1⟩, h1⟩
    obtain ⟨f, hf⟩ := Go.Deep.choose_lt each
    have hml : cap ≤ 9223372036854775807 := by simp only [maxLen] at hm; omega
    refine ⟨some a, cap, (List.range len).map f, by simp, by simpa using hl, ⟨by simp, by simp; omega, fun _ => ⟨a, rfl, fun j p hp => ?_⟩⟩⟩
    have hj : j < len := by
      have := (List.getElem?_eq_some_iff.1 hp).1
      simpa using this
    obtain rfl : f j = p := by
      rw [List.getElem?_map, List.getElem?_range hj] at hp
      simpa using hp
    obtain ⟨_, _, hcell⟩ := World.cells?_some (hf j hj)
    refine ⟨_, rfl, k74_mk W (f j), fun i u hu => ?_⟩
    have hi : i < 2 := by
      have := (List.getElem?_eq_some_iff.1 hu).1
      simpa using this
    have e := hcell i hi
    rw [Go.Deep.add_add] at e
    show W.cell? (a.add (j * 2 + i)) = some u
    rw [e, hu]
theorem op67 {n : Nat} {cs : List Value} {x : DataW H × List MemPlace} (h : DataW.trod enc Tryd.prog W 0 (fun _ => true) true n 67 cs = some x) : ∃ (z_0 : Int) (z_1 : Int) (z_2 : Int) (z_3 : ByteArray) (z_4 : Int), cs = [.int .i64 z_0, .int .i64 z_1, .int .i64 z_2, .string z_3, .int .i64 z_4] := by
  obtain ⟨xs, n, _, _, hl, hlen, hfi⟩ := DataW.trod_struct Tryd.underlying67 h
  rw [cells67] at hl
  match xs, hlen, cs, hl with
  | [y0, y1, y2, y3, y4], _, [q0, q1, q2, q3, q4], _ =>
    have g0 := hfi 0 _ rfl
    have g1 := hfi 1 _ rfl
    have g2 := hfi 2 _ rfl
    have g3 := hfi 3 _ rfl
    have g4 := hfi 4 _ rfl
    simp [cells3, cells9, cells22, cells24, cells28, cells29, cells30, cells31, cells32, cells34, cells43, cells45, cells47, cells55, cells63, cells65, cells67, cells74, cells91] at g0
    simp [cells3, cells9, cells22, cells24, cells28, cells29, cells30, cells31, cells32, cells34, cells43, cells45, cells47, cells55, cells63, cells65, cells67, cells74, cells91] at g1
    simp [cells3, cells9, cells22, cells24, cells28, cells29, cells30, cells31, cells32, cells34, cells43, cells45, cells47, cells55, cells63, cells65, cells67, cells74, cells91] at g2
    simp [cells3, cells9, cells22, cells24, cells28, cells29, cells30, cells31, cells32, cells34, cells43, cells45, cells47, cells55, cells63, cells65, cells67, cells74, cells91] at g3
    simp [cells3, cells9, cells22, cells24, cells28, cells29, cells30, cells31, cells32, cells34, cells43, cells45, cells47, cells55, cells63, cells65, cells67, cells74, cells91] at g4
    obtain ⟨z_0, e0⟩ := op3 g0
    obtain ⟨z_1, e1⟩ := op3 g1
    obtain ⟨z_2, e2⟩ := op3 g2
    obtain ⟨z_3, e3⟩ := op9 g3
    obtain ⟨z_4, e4⟩ := op28 g4
    simp at e0
    simp at e1
    simp at e2
    simp at e3
    simp at e4
    subst e0
    subst e1
    subst e2
    subst e3
    subst e4
    exact ⟨z_0, z_1, z_2, z_3, z_4, rfl⟩
instance : Inhabited S67 := ⟨z67⟩
theorem op32 {n : Nat} {cs : List Value} {x : DataW H × List MemPlace} (h : DataW.trod enc Tryd.prog W 0 (fun _ => true) true n 32 cs = some x) : ∃ (A : Option Addr) (c : Nat) (l : List S67), cs = [.slice A l.length c] ∧ l.length ≤ c ∧ Kd.C k67 W A l.length l := by
  rcases Go.Deep.open_slice Tryd.underlying32 h with ⟨rfl, _⟩ | ⟨a, len, cap, m, n, D, Pl, rfl, hb, hl, hm, hmm, _, hx⟩
  · exact ⟨none, 0, [], rfl, Nat.le_refl 0, ⟨rfl, by simp, fun h => absurd h (by simp)⟩⟩
  · have each : ∀ i, i < len → ∃ y : S67, W.cells? 0 (a.add (i * 5)) 5 = some [.int .i64 y.f0, .int .i64 y.f1, .int .i64 y.f2, .string y.f3, .int .i64 y.f4] := by
      intro i hi
      obtain ⟨cs', h1, h2⟩ := hx i (by rw [hmm]; simp; omega)
      obtain ⟨z_0, z_1, z_2, z_3, z_4, rfl⟩ := op67 h2
      rw [cells67] at h1
      exact ⟨⟨z_0, z_1, z_2, z_3, z_4⟩, h1⟩
    obtain ⟨f, hf⟩ := Go.Deep.choose_lt each
    have hml : cap ≤ 9223372036854775807 := by simp only [maxLen] at hm; omega
    refine ⟨some a, cap, (List.range len).map f, by simp, by simpa using hl, ⟨by simp, by simp; omega, fun _ => ⟨a, rfl, fun j p hp => ?_⟩⟩⟩
    have hj : j < len := by
      have := (List.getElem?_eq_some_iff.1 hp).1
      simpa using this
    obtain rfl : f j = p := by
      rw [List.getElem?_map, List.getElem?_range hj] at hp
      simpa using hp
    obtain ⟨_, _, hcell⟩ := World.cells?_some (hf j hj)
    refine ⟨_, rfl, k67_mk W (f j), fun i u hu => ?_⟩
    have hi : i < 5 := by
      have := (List.getElem?_eq_some_iff.1 hu).1
      simpa using this
    have e := hcell i hi
    rw [Go.Deep.add_add] at e
    show W.cell? (a.add (j * 5 + i)) = some u
    rw [e, hu]
theorem op34 {n : Nat} {cs : List Value} {x : DataW H × List MemPlace} (h : DataW.trod enc Tryd.prog W 0 (fun _ => true) true n 34 cs = some x) : ∃ (z_0 : Int) (z_1 : Int) (z_2 : Int) (Az_3 : Option Addr) (cz_3 : Nat) (Lz_3 : List ByteArray) (z_4 : ByteArray) (z_5 : ByteArray) (Az_6 : Option Addr) (cz_6 : Nat) (Lz_6 : List S65) (Az_7 : Option Addr) (cz_7 : Nat) (Lz_7 : List S74) (z_8 : ByteArray) (Az_9 : Option Addr) (cz_9 : Nat) (Lz_9 : List S67) (z_10 : Int) (z_11 : Int), cs = [.int .i64 z_0, .int .i64 z_1, .int .i64 z_2, .slice Az_3 Lz_3.length cz_3, .string z_4, .string z_5, .slice Az_6 Lz_6.length cz_6, .slice Az_7 Lz_7.length cz_7, .string z_8, .slice Az_9 Lz_9.length cz_9, .int .i64 z_10, .int .i64 z_11] ∧ Lz_3.length ≤ cz_3 ∧ Kd.C Kd.string W Az_3 Lz_3.length Lz_3 ∧ Lz_6.length ≤ cz_6 ∧ Kd.C k65 W Az_6 Lz_6.length Lz_6 ∧ (∀ x ∈ Lz_6, (Lit.int .u32 x.f0).wf = true) ∧ Lz_7.length ≤ cz_7 ∧ Kd.C k74 W Az_7 Lz_7.length Lz_7 ∧ Lz_9.length ≤ cz_9 ∧ Kd.C k67 W Az_9 Lz_9.length Lz_9 := by
  obtain ⟨xs, n, _, _, hl, hlen, hfi⟩ := DataW.trod_struct Tryd.underlying34 h
  rw [cells34] at hl
  match xs, hlen, cs, hl with
  | [y0, y1, y2, y3, y4, y5, y6, y7, y8, y9, y10, y11], _, [q0, q1, q2, q3, q4, q5, q6, q7, q8, q9, q10, q11], _ =>
    have g0 := hfi 0 _ rfl
    have g1 := hfi 1 _ rfl
    have g2 := hfi 2 _ rfl
    have g3 := hfi 3 _ rfl
    have g4 := hfi 4 _ rfl
    have g5 := hfi 5 _ rfl
    have g6 := hfi 6 _ rfl
    have g7 := hfi 7 _ rfl
    have g8 := hfi 8 _ rfl
    have g9 := hfi 9 _ rfl
    have g10 := hfi 10 _ rfl
    have g11 := hfi 11 _ rfl
    simp [cells3, cells9, cells22, cells24, cells28, cells29, cells30, cells31, cells32, cells34, cells43, cells45, cells47, cells55, cells63, cells65, cells67, cells74, cells91] at g0
    simp [cells3, cells9, cells22, cells24, cells28, cells29, cells30, cells31, cells32, cells34, cells43, cells45, cells47, cells55, cells63, cells65, cells67, cells74, cells91] at g1
    simp [cells3, cells9, cells22, cells24, cells28, cells29, cells30, cells31, cells32, cells34, cells43, cells45, cells47, cells55, cells63, cells65, cells67, cells74, cells91] at g2
    simp [cells3, cells9, cells22, cells24, cells28, cells29, cells30, cells31, cells32, cells34, cells43, cells45, cells47, cells55, cells63, cells65, cells67, cells74, cells91] at g3
    simp [cells3, cells9, cells22, cells24, cells28, cells29, cells30, cells31, cells32, cells34, cells43, cells45, cells47, cells55, cells63, cells65, cells67, cells74, cells91] at g4
    simp [cells3, cells9, cells22, cells24, cells28, cells29, cells30, cells31, cells32, cells34, cells43, cells45, cells47, cells55, cells63, cells65, cells67, cells74, cells91] at g5
    simp [cells3, cells9, cells22, cells24, cells28, cells29, cells30, cells31, cells32, cells34, cells43, cells45, cells47, cells55, cells63, cells65, cells67, cells74, cells91] at g6
    simp [cells3, cells9, cells22, cells24, cells28, cells29, cells30, cells31, cells32, cells34, cells43, cells45, cells47, cells55, cells63, cells65, cells67, cells74, cells91] at g7
    simp [cells3, cells9, cells22, cells24, cells28, cells29, cells30, cells31, cells32, cells34, cells43, cells45, cells47, cells55, cells63, cells65, cells67, cells74, cells91] at g8
    simp [cells3, cells9, cells22, cells24, cells28, cells29, cells30, cells31, cells32, cells34, cells43, cells45, cells47, cells55, cells63, cells65, cells67, cells74, cells91] at g9
    simp [cells3, cells9, cells22, cells24, cells28, cells29, cells30, cells31, cells32, cells34, cells43, cells45, cells47, cells55, cells63, cells65, cells67, cells74, cells91] at g10
    simp [cells3, cells9, cells22, cells24, cells28, cells29, cells30, cells31, cells32, cells34, cells43, cells45, cells47, cells55, cells63, cells65, cells67, cells74, cells91] at g11
    obtain ⟨z_0, e0⟩ := op3 g0
    obtain ⟨z_1, e1⟩ := op3 g1
    obtain ⟨z_2, e2⟩ := op28 g2
    obtain ⟨Az_3, cz_3, Lz_3, e3, hcz_3, hkz_3⟩ := op29 g3
    obtain ⟨z_4, e4⟩ := op9 g4
    obtain ⟨z_5, e5⟩ := op9 g5
    obtain ⟨Az_6, cz_6, Lz_6, e6, hcz_6, hkz_6, hwz_6_0⟩ := op30 g6
    obtain ⟨Az_7, cz_7, Lz_7, e7, hcz_7, hkz_7⟩ := op31 g7
    obtain ⟨z_8, e8⟩ := op9 g8
    obtain ⟨Az_9, cz_9, Lz_9, e9, hcz_9, hkz_9⟩ := op32 g9
    obtain ⟨z_10, e10⟩ := op3 g10
    obtain ⟨z_11, e11⟩ := op3 g11
    simp at e0
    simp at e1
    simp at e2
    simp at e3
    simp at e4
    simp at e5
    simp at e6
    simp at e7
    simp at e8
    simp at e9
    simp at e10
    simp at e11
    subst e0
    subst e1
    subst e2
    subst e3
    subst e4
    subst e5
    subst e6
    subst e7
    subst e8
    subst e9
    subst e10
    subst e11
    exact ⟨z_0, z_1, z_2, Az_3, cz_3, Lz_3, z_4, z_5, Az_6, cz_6, Lz_6, Az_7, cz_7, Lz_7, z_8, Az_9, cz_9, Lz_9, z_10, z_11, rfl, hcz_3, hkz_3, hcz_6, hkz_6, hwz_6_0, hcz_7, hkz_7, hcz_9, hkz_9⟩
theorem op55 {n : Nat} {cs : List Value} {x : DataW H × List MemPlace} (h : DataW.trod enc Tryd.prog W 0 (fun _ => true) true n 55 cs = some x) : ∃ (z_0 : Int) (z_1 : Int), cs = [.int .i64 z_0, .int .i64 z_1] := by
  obtain ⟨xs, m, _, ex, hl0, hlen, hel⟩ := DataW.trod_array Tryd.underlying55 h
  have hl : cs.length = 2 := by first | (rw [cells55] at hl0; exact hl0) | omega
  match xs, hlen, cs, hl with
  | [y0, y1], _, [q0, q1], _ =>
    have g0 := hel 0 (by decide)
    have g1 := hel 1 (by decide)
    simp [cells3, cells9, cells22, cells24, cells28, cells29, cells30, cells31, cells32, cells34, cells43, cells45, cells47, cells55, cells63, cells65, cells67, cells74, cells91] at g0
    simp [cells3, cells9, cells22, cells24, cells28, cells29, cells30, cells31, cells32, cells34, cells43, cells45, cells47, cells55, cells63, cells65, cells67, cells74, cells91] at g1
    obtain ⟨z_0, e0⟩ := op3 g0
    obtain ⟨z_1, e1⟩ := op3 g1
    simp at e0
    simp at e1
    subst e0
    subst e1
    exact ⟨z_0, z_1, rfl⟩
end
theorem vo34 {H : Type} {enc : TypeId × Value → H} {W : World} {base : Nat} {v : Value} {d : DataW H} {p : List MemPlace} (hv : Value.okWide Tryd.prog W .any base 34 v) (h : ∃ fuel, DataW.trod enc Tryd.prog W 0 (fun _ => true) true fuel 34 v.cells.toList = some (d, p)) : ∃ (z_0 : Int) (z_1 : Int) (z_2 : Int) (Az_3 : Option Addr) (cz_3 : Nat) (Lz_3 : List ByteArray) (z_4 : ByteArray) (z_5 : ByteArray) (Az_6 : Option Addr) (cz_6 : Nat) (Lz_6 : List S65) (Az_7 : Option Addr) (cz_7 : Nat) (Lz_7 : List S74) (z_8 : ByteArray) (Az_9 : Option Addr) (cz_9 : Nat) (Lz_9 : List S67) (z_10 : Int) (z_11 : Int), v = .agg #[.int .i64 z_0, .int .i64 z_1, .int .i64 z_2, .slice Az_3 Lz_3.length cz_3, .string z_4, .string z_5, .slice Az_6 Lz_6.length cz_6, .slice Az_7 Lz_7.length cz_7, .string z_8, .slice Az_9 Lz_9.length cz_9, .int .i64 z_10, .int .i64 z_11] ∧ Lz_3.length ≤ cz_3 ∧ Kd.C Kd.string W Az_3 Lz_3.length Lz_3 ∧ Lz_6.length ≤ cz_6 ∧ Kd.C k65 W Az_6 Lz_6.length Lz_6 ∧ (∀ x ∈ Lz_6, (Lit.int .u32 x.f0).wf = true) ∧ Lz_7.length ≤ cz_7 ∧ Kd.C k74 W Az_7 Lz_7.length Lz_7 ∧ Lz_9.length ≤ cz_9 ∧ Kd.C k67 W Az_9 Lz_9.length Lz_9 := by
  obtain ⟨cs, rfl, hsz, _⟩ : ∃ cs, v = .agg cs ∧ cs.size = Tryd.prog.cellsOf 34 ∧ Row.okWide Tryd.prog W .any base 34 cs := by
    simpa [Value.okWide, Tryd.underlying34] using hv
  obtain ⟨fuel, hf⟩ := h
  obtain ⟨z_0, z_1, z_2, Az_3, cz_3, Lz_3, z_4, z_5, Az_6, cz_6, Lz_6, Az_7, cz_7, Lz_7, z_8, Az_9, cz_9, Lz_9, z_10, z_11, e, hcz_3, hkz_3, hcz_6, hkz_6, hwz_6_0, hcz_7, hkz_7, hcz_9, hkz_9⟩ := op34 hf
  refine ⟨z_0, z_1, z_2, Az_3, cz_3, Lz_3, z_4, z_5, Az_6, cz_6, Lz_6, Az_7, cz_7, Lz_7, z_8, Az_9, cz_9, Lz_9, z_10, z_11, ?_, hcz_3, hkz_3, hcz_6, hkz_6, hwz_6_0, hcz_7, hkz_7, hcz_9, hkz_9⟩
  obtain ⟨l⟩ := cs
  simp [Value.cells] at e
  subst e
  rfl
theorem vo47 {H : Type} {enc : TypeId × Value → H} {W : World} {base : Nat} {v : Value} {d : DataW H} {p : List MemPlace} (hv : Value.okWide Tryd.prog W .any base 47 v) (h : ∃ fuel, DataW.trod enc Tryd.prog W 0 (fun _ => true) true fuel 47 v.cells.toList = some (d, p)) : ∃ (z_0 : Int) (z_1 : Int) (z_2 : Int) (z_3_0 : Int) (z_3_1 : Int) (Az_3_2 : Option Addr) (cz_3_2 : Nat) (Lz_3_2 : List S91) (z_3_3 : ByteArray) (z_4 : ByteArray) (z_5 : ByteArray) (z_6 : ByteArray) (z_7 : ByteArray) (z_8 : ByteArray), v = .agg #[.int .i64 z_0, .int .i64 z_1, .int .i64 z_2, .int .i64 z_3_0, .int .i64 z_3_1, .slice Az_3_2 Lz_3_2.length cz_3_2, .string z_3_3, .string z_4, .string z_5, .string z_6, .string z_7, .string z_8] ∧ Lz_3_2.length ≤ cz_3_2 ∧ Kd.C k91 W Az_3_2 Lz_3_2.length Lz_3_2 := by
  obtain ⟨cs, rfl, hsz, _⟩ : ∃ cs, v = .agg cs ∧ cs.size = Tryd.prog.cellsOf 47 ∧ Row.okWide Tryd.prog W .any base 47 cs := by
    simpa [Value.okWide, Tryd.underlying47] using hv
  obtain ⟨fuel, hf⟩ := h
  obtain ⟨z_0, z_1, z_2, z_3_0, z_3_1, Az_3_2, cz_3_2, Lz_3_2, z_3_3, z_4, z_5, z_6, z_7, z_8, e, hcz_3_2, hkz_3_2⟩ := op47 hf
  refine ⟨z_0, z_1, z_2, z_3_0, z_3_1, Az_3_2, cz_3_2, Lz_3_2, z_3_3, z_4, z_5, z_6, z_7, z_8, ?_, hcz_3_2, hkz_3_2⟩
  obtain ⟨l⟩ := cs
  simp [Value.cells] at e
  subst e
  rfl
theorem vo55 {H : Type} {enc : TypeId × Value → H} {W : World} {base : Nat} {v : Value} {d : DataW H} {p : List MemPlace} (hv : Value.okWide Tryd.prog W .any base 55 v) (h : ∃ fuel, DataW.trod enc Tryd.prog W 0 (fun _ => true) true fuel 55 v.cells.toList = some (d, p)) : ∃ (z_0 : Int) (z_1 : Int), v = .agg #[.int .i64 z_0, .int .i64 z_1] := by
  obtain ⟨cs, rfl, hsz, _⟩ : ∃ cs, v = .agg cs ∧ cs.size = Tryd.prog.cellsOf 55 ∧ Row.okWide Tryd.prog W .any base 55 cs := by
    simpa [Value.okWide, Tryd.underlying55] using hv
  obtain ⟨fuel, hf⟩ := h
  obtain ⟨z_0, z_1, e⟩ := op55 hf
  refine ⟨z_0, z_1, ?_⟩
  obtain ⟨l⟩ := cs
  simp [Value.cells] at e
  subst e
  rfl
theorem u32_of {l : List S65} (h : ∀ x ∈ l, (Lit.int .u32 x.f0).wf = true) : ∀ x ∈ l, 0 ≤ x.f0 ∧ x.f0 < 4294967296 := by
  intro x hx
  have := h x hx
  simp [Lit.wf, IntKind.min, IntKind.max, IntKind.bits, IntKind.signed] at this
  omega
set_option maxHeartbeats 1000000 in
theorem lifted (os : Os) (started : os.Started) (H : Type) (enc : TypeId × Value → H) :
    ReturnsInHanded {} Tryd.checked os 7 .any (fun w args => (Rows.frameCutsSpec.pre enc Tryd.prog Tryd.f7 Rows.frameCutsRow.domain false w args ∧ laidMetH Tryd.prog Rows.frameCutsRow.laid w) ∧ sizedMet enc Tryd.prog Tryd.f7 (OpenSpec.ofChange Rows.frameCutsSpec) false w args)
      (Rows.frameCutsSpec.post enc Tryd.prog Tryd.f7 false true false false) := by
  refine returnsInHanded_of_change_and (C := Tryd.checked) (X := fun w _ => laidMetH Tryd.prog Rows.frameCutsRow.laid w) (fun _ _ _ hh h => h.of_heap hh) own started (by kernel_rfl) Tryd.func7
    (ChangeSpec.witness_shaped (enc := enc) (C := Tryd.checked) (os := os) (X := fun w _ => laidMetH Tryd.prog Rows.frameCutsRow.laid w) false (World.laidAll Tryd.prog os Rows.frameCutsRow.laid) #[.agg #[.int .i64 0, .int .i64 0, .int .i64 0, .int .i64 0, .int .i64 0, .slice none 0 0, .string ByteArray.empty, .string ByteArray.empty, .string ByteArray.empty, .string ByteArray.empty, .string ByteArray.empty, .string ByteArray.empty], .agg #[.int .i64 0, .int .i64 0, .int .i64 0, .slice none 0 0, .string ByteArray.empty, .string ByteArray.empty, .slice none 0 0, .slice none 0 0, .string ByteArray.empty, .slice none 0 0, .int .i64 0, .int .i64 0], .agg #[.int .i64 0, .int .i64 0]] 8 (World.laidAll_os _ _ _)
      (World.shaped_of_ZipB (by kernel_rfl) (by kernel_rfl)) (by kernel_rfl) (by kernel_rfl) (by kernel_rfl)
      (by rw [MakeChecks.laidMetH_plain _ _ _ (by kernel_rfl)]; exact laidMet_laidAll _ (by kernel_rfl) (by kernel_rfl))) ?_
  intro W base args ds gs before hval0 hW _ _ _ _
  have hval : ∀ (j : Nat) t v, Tryd.f7.params[j]? = some t → args[j]? = some v → Value.okWide Tryd.prog W .any base t v := hval0
  have hW' := hW
  obtain ⟨p, q, hA0, hV, rfl, hfz, hnd⟩ := hW
  have hA : DataW.TrodAll enc Tryd.prog W 0 (fun _ => true) true Tryd.f7.params.toList args.toList ds p := hA0
  rw [Tryd.params7] at hA hval
  obtain ⟨v0, vs0, d0, ds0, p0, q0, hargs, rfl, rfl, h0, r0⟩ := trodAll_cons hA
  obtain ⟨v1, vs1, d1, ds1, p1, q1, rfl, rfl, rfl, h1, r1⟩ := trodAll_cons r0
  obtain ⟨v2, vs2, d2, ds2, p2, q2, rfl, rfl, rfl, h2, r2⟩ := trodAll_cons r1
  obtain ⟨rfl, rfl, rfl⟩ := trodAll_nil r2
  obtain rfl : args = #[v0, v1, v2] := by cases args; simp_all
  obtain ⟨rfl, rfl⟩ := trodVars_none hV
  have k0 := h0
  have lt0 : ∀ x ∈ p0, x.block < W.heap.size := by obtain ⟨m, hm⟩ := k0; exact DataW.trod_lt m _ _ _ hm
  obtain ⟨a0_0, a0_1, a0_2, a0_3_0, a0_3_1, Aa0_3_2, ca0_3_2, La0_3_2, a0_3_3, a0_4, a0_5, a0_6, a0_7, a0_8, rfl, hca0_3_2, hka0_3_2⟩ := vo47 (hval 0 47 v0 rfl rfl) h0
  have k1 := h1
  have lt1 : ∀ x ∈ p1, x.block < W.heap.size := by obtain ⟨m, hm⟩ := k1; exact DataW.trod_lt m _ _ _ hm
  obtain ⟨a1_0, a1_1, a1_2, Aa1_3, ca1_3, La1_3, a1_4, a1_5, Aa1_6, ca1_6, La1_6, Aa1_7, ca1_7, La1_7, a1_8, Aa1_9, ca1_9, La1_9, a1_10, a1_11, rfl, hca1_3, hka1_3, hca1_6, hka1_6, hwa1_6_0, hca1_7, hka1_7, hca1_9, hka1_9⟩ := vo34 (hval 1 34 v1 rfl rfl) h1
  have k2 := h2
  have lt2 : ∀ x ∈ p2, x.block < W.heap.size := by obtain ⟨m, hm⟩ := k2; exact DataW.trod_lt m _ _ _ hm
  obtain ⟨a2_0, a2_1, rfl⟩ := vo55 (hval 2 55 v2 rfl rfl) h2
  clear hA0 hval0
  obtain ⟨k, sm, li, x, y, ex, ey, e1, e2, e3, e4, e5, e6, e7, e8, e9, e10⟩ := Pure.FrameCuts a0_0 a0_1 a0_2 a0_3_0 a0_3_1 La0_3_2 a0_3_3 a0_4 a0_5 a0_6 a0_7 a0_8 a1_0 a1_1 a1_2 La1_3 a1_4 a1_5 La1_6 La1_7 a1_8 La1_9 a1_10 a1_11 a2_0 a2_1 (u32_of hwa1_6_0)
  refine (cuts_walk k a0_0 a0_1 a0_2 a0_3_0 a0_3_1 Aa0_3_2 ca0_3_2 La0_3_2 a0_3_3 a0_4 a0_5 a0_6 a0_7 a0_8 a1_0 a1_1 a1_2 Aa1_3 ca1_3 La1_3 a1_4 a1_5 Aa1_6 ca1_6 La1_6 Aa1_7 ca1_7 La1_7 a1_8 Aa1_9 ca1_9 La1_9 a1_10 a1_11 a2_0 a2_1 W hka0_3_2 hca0_3_2 hka1_3 hca1_3 hka1_6 hca1_6 hka1_7 hca1_7 hka1_9 hca1_9 sm li x y ex ey e1 e2 e3 e4 e5 e6 e7 e8 e9 e10).mono fun e W' ⟨he, bel⟩ => ?_
  subst he
  exact ⟨_, rfl, _, _, _, [], _, [], hW', trodAll_mk1 (shut_bool Tryd.underlying4 _), (trodAll_cons_mk (Below.trod laidOut (by kernel_rfl) (of_decide_eq_true (by kernel_rfl)) k0 bel lt0) (trodAll_cons_mk (Below.trod laidOut (by kernel_rfl) (of_decide_eq_true (by kernel_rfl)) k1 bel lt1) (trodAll_cons_mk (Below.trod laidOut (by kernel_rfl) (of_decide_eq_true (by kernel_rfl)) k2 bel lt2) trodAll_mk0))), rfl, bel.frame _, fun h => by cases h⟩
theorem row_holds : Rows.FrameCutsSaid :=
  OpenClaim.holds_of_wide 7 Tryd.f7 rfl rfl rfl rfl rfl rfl rfl ⟨rfl, rfl, rfl, rfl, rfl⟩ rfl rfl rfl rfl rfl (by kernel_rfl) Tryd.func7 (by kernel_rfl)
    (of_decide_eq_true (by kernel_rfl)) (by unfold Func.isWrapper; first | (rw [if_pos (by decide +kernel)]; kernel_rfl) | (rw [if_neg (by decide +kernel)]; exact ⟨rfl, rfl⟩))
    (fun os started H enc _ => lifted os started H enc)
theorem card : Rows.FrameCutsCardSaid :=
  Claim7.holds_tied_plain_at .later [] [.data, .pinned] true (true, "e9bc444a9c35ad318d51e270f734c5eed80d77c1af19b6f031e5ce7f99efee5a") false
    row_holds (fun _ h => by cases h) (by kernel_rfl) (fun _ h => by cases h) frameCuts_row_tie rfl ⟨rfl, rfl⟩ (by kernel_rfl) rfl
    (fun f fn hf hfn => by
      obtain rfl : f = 7 := Option.some.inj ((show Tryd.prog.funcNamed "strongroom/strongroomlaw25.FrameCuts" = some 7 by kernel_rfl).symm.trans hf) |>.symm
      obtain rfl : fn = Tryd.f7 := (Option.some.inj (Tryd.func7.symm.trans hfn)).symm
      exact ⟨by kernel_rfl, fun j t ht => by
        rw [Tryd.params7] at ht
        have hm : t ∈ [47, 34, 55] := by simpa using Array.mem_of_getElem? ht
        have hall : ([47, 34, 55].all fun u => !Tryd.prog.wantsStandIn u) = true := by kernel_rfl
        exact (show Tryd.prog.wantsStandIn t = false by simpa using List.all_eq_true.1 hall t hm)⟩)
    (by kernel_rfl)
#print axioms card
end Go.Proofs.YtoankokkdmbjmaaDoor.frameCuts
namespace Go.Proofs.YtoankokkdmbjmaaDoor
/-- The card, under a short name, for the claim. -/
theorem frameCuts_card : Rows.FrameCutsCardSaid := frameCuts.card
end Go.Proofs.YtoankokkdmbjmaaDoor
