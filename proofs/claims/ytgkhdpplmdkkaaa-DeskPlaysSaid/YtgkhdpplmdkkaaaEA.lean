/- Joined: Ea, Eb, Ec, Ed, Ee. -/
import Derived.Test.YtgkhdpplmdkkaaaDB
set_option linter.unusedVariables false
set_option linter.unusedSimpArgs false
/- What a desk, and the reference's desk, have: session by session. -/
namespace Go.Proofs.Ytgkhdpplmdkkaaa.Ds
open Go.RowKit Go.Proofs.YtgkhdpplmdkkaaaH.HDeskPlays Go.Proofs.YtgkhdpplmdkkaaaW.PrintWords Go.Proofs.YtgkhdpplmdkkaaaW.PrintLast Go.Proofs.YtgkhdpplmdkkaaaW.PrintMore Go.Proofs.Ytgkhdpplmdkkaaa.Dp

/-- a session -/
structure Ses where
  l : Int
  r : ByteArray
  p : Bool
  su : ByteArray
  no : ByteArray
  sl : List S42
  tk : List S74
def ses0 : Ses := ⟨0, ⟨#[]⟩, false, ⟨#[]⟩, ⟨#[]⟩, [], []⟩

/-- the session at o of a desk's cells; its spans lie in blocks of okS, its tickets in blocks of okT -/
def SesAt (w : World) (okS okT : Nat → Prop) (cs : Array Value) (o : Nat) (x : Ses) : Prop :=
  ∃ A5 n5 A6 n6, S7 cs o x.l x.r x.p x.su x.no (.slice A5 x.sl.length n5) (.slice A6 x.tk.length n6) ∧ Kd.R k42 42 w 0 okS (.slice A5 x.sl.length n5) x.sl ∧ Kd.R k74 74 w 0 okT (.slice A6 x.tk.length n6) x.tk

theorem SesAt.step {w w' : World} {okS okT okS' okT' : Nat → Prop} {cs : Array Value} {o : Nat} {x : Ses} (h : SesAt w okS okT cs o x) (hk : ∀ k, okS k ∨ okT k → k < w.heap.size → w'.heap[k]? = w.heap[k]?)
    (hS : ∀ k, okS k → k < w.heap.size → okS' k) (hT : ∀ k, okT k → k < w.heap.size → okT' k) : SesAt w' okS' okT' cs o x := by
  obtain ⟨A5, n5, A6, n6, h7, hs, ht⟩ := h
  exact ⟨A5, n5, A6, n6, h7, Kd.R_mono (Kd.R_step (Kd.R_bound hs) (fun k h1 h2 => hk k (.inl h1.1) h2)) (fun k h1 => hS k h1.1 h1.2.2.1), Kd.R_mono (Kd.R_step (Kd.R_bound ht) (fun k h1 h2 => hk k (.inr h1.1) h2)) (fun k h1 => hT k h1.1 h1.2.2.1)⟩
theorem SesAt.cells {w : World} {okS okT : Nat → Prop} {cs cs' : Array Value} {o : Nat} {x : Ses} (h : SesAt w okS okT cs o x) (hc : ∀ i, o ≤ i → i < o + 7 → cs'[i]? = cs[i]?) : SesAt w okS okT cs' o x := by
  obtain ⟨A5, n5, A6, n6, ⟨c0, c1, c2, c3, c4, c5, c6⟩, hs, ht⟩ := h
  exact ⟨A5, n5, A6, n6, ⟨(hc _ (by omega) (by omega)).trans c0, (hc _ (by omega) (by omega)).trans c1, (hc _ (by omega) (by omega)).trans c2, (hc _ (by omega) (by omega)).trans c3, (hc _ (by omega) (by omega)).trans c4, (hc _ (by omega) (by omega)).trans c5, (hc _ (by omega) (by omega)).trans c6⟩, hs, ht⟩

/-- the desk, by the colours of blocks: 0 what is never written, 1 the desk, j + 2 the tickets of session j -/
def DI (w : World) (g : Nat) (cs : Array Value) (col : Nat → Nat) (V : Nat → Ses) : Prop :=
  Blk w g 106 cs ∧ cs.size = 224 ∧ (col g = 1 ∧ ∀ k, 2 ≤ col k → g < k) ∧ ∀ j, j < 32 → SesAt w (fun k => col k = 0) (fun k => col k = j + 2) cs (7 * j) (V j)
/-- the reference's desk -/
def XI (w : World) (xs : Array Value) (col : Nat → Nat) (U : Nat → Ses) : Prop :=
  xs.size = 224 ∧ xs.all (·.oneCell') = true ∧ ∀ j, j < 32 → SesAt w (fun k => col k = 0) (fun k => col k = 0) xs (7 * j) (U j)
theorem DI.below {w w' : World} {g : Nat} {cs : Array Value} {col : Nat → Nat} {V : Nat → Ses} (h : DI w g cs col V) (hb : Below w.heap.size w w') : DI w' g cs col V :=
  ⟨h.1.below hb h.1.lt, h.2.1, h.2.2.1, fun j hj => (h.2.2.2 j hj).step (fun k _ hk => hb.block k hk) (fun _ h _ => h) (fun _ h _ => h)⟩
theorem XI.below {w w' : World} {xs : Array Value} {col : Nat → Nat} {U : Nat → Ses} (h : XI w xs col U) (hb : Below w.heap.size w w') : XI w' xs col U :=
  ⟨h.1, h.2.1, fun j hj => (h.2.2 j hj).step (fun k _ hk => hb.block k hk) (fun _ h _ => h) (fun _ h _ => h)⟩
/-- colours, new blocks being of colour c -/
def colN (col : Nat → Nat) (n c : Nat) : Nat → Nat := fun k => if k < n then col k else c
theorem colN_old {col : Nat → Nat} {n c k : Nat} (h : k < n) : colN col n c k = col k := if_pos h
def setS (V : Nat → Ses) (j : Nat) (x : Ses) : Nat → Ses := fun i => if i = j then x else V i
theorem setS_same (V : Nat → Ses) (j : Nat) (x : Ses) : setS V j x j = x := if_pos rfl
theorem setS_ne {V : Nat → Ses} {j i : Nat} {x : Ses} (h : i ≠ j) : setS V j x i = V i := if_neg h
/-- what is written into one session -/
theorem DI.upd {w w' : World} {g : Nat} {cs cs' : Array Value} {col : Nat → Nat} {V : Nat → Ses} {j c : Nat} {x : Ses} {row : Option Nat} (h : DI w g cs col V) (hk : KeepBut w w' g row) (hr : ∀ b, row = some b → col b = j + 2) (hb : Blk w' g 106 cs')
    (hz : cs'.size = 224) (hj : j < 32) (hc : ∀ i, ¬ (7 * j ≤ i ∧ i < 7 * j + 7) → cs'[i]? = cs[i]?) (hx : SesAt w' (fun k => colN col w.heap.size c k = 0) (fun k => colN col w.heap.size c k = j + 2) cs' (7 * j) x) :
    DI w' g cs' (colN col w.heap.size c) (setS V j x) := by
  refine ⟨hb, hz, ⟨by rw [colN_old h.1.lt]; exact h.2.2.1.1, fun k hk2 => ?_⟩, fun i hi => ?_⟩
  · by_cases e : k < w.heap.size
    · rw [colN_old e] at hk2; exact h.2.2.1.2 k hk2
    · have := h.1.lt; omega
  by_cases e : i = j
  · subst e; rw [setS_same]; exact hx
  · rw [setS_ne e]
    refine ((h.2.2.2 i hi).step (fun k hk' hlt => ?_) (fun k h1 h2 => by show colN _ _ _ k = 0; rw [colN_old h2]; exact h1) (fun k h1 h2 => by show colN _ _ _ k = i + 2; rw [colN_old h2]; exact h1)).cells (fun q h1 h2 => hc q (by omega))
    refine hk.2 k hlt (fun e1 => ?_) (fun e1 => ?_)
    · have := h.2.2.1.1; rw [← e1] at this; rcases hk' with h1 | h1 <;> omega
    · have := hr k e1.symm; rcases hk' with h1 | h1 <;> omega
theorem XI.keep {w w' : World} {g : Nat} {xs : Array Value} {col : Nat → Nat} {U : Nat → Ses} {j c : Nat} {row : Option Nat} (h : XI w xs col U) (hg : col g = 1) (hk : KeepBut w w' g row) (hr : ∀ b, row = some b → col b = j + 2) : XI w' xs (colN col w.heap.size c) U := by
  refine ⟨h.1, h.2.1, fun i hi => (h.2.2 i hi).step (fun k hk' hlt => ?_) (fun k h1 h2 => by show colN _ _ _ k = 0; rw [colN_old h2]; exact h1) (fun k h1 h2 => by show colN _ _ _ k = 0; rw [colN_old h2]; exact h1)⟩
  refine hk.2 k hlt (fun e1 => ?_) (fun e1 => ?_)
  · rw [← e1] at hg; rcases hk' with h1 | h1 <;> omega
  · have := hr k e1.symm; rcases hk' with h1 | h1 <;> omega
theorem DI.recol {w : World} {g : Nat} {cs : Array Value} {col : Nat → Nat} {V : Nat → Ses} {n c : Nat} (h : DI w g cs col V) (hn : w.heap.size ≤ n) : DI w g cs (colN col n c) V :=
  ⟨h.1, h.2.1, ⟨by rw [colN_old (Nat.lt_of_lt_of_le h.1.lt hn)]; exact h.2.2.1.1, fun k hk2 => by
    by_cases e : k < n
    · rw [colN_old e] at hk2; exact h.2.2.1.2 k hk2
    · have := h.1.lt; omega⟩, fun j hj => (h.2.2.2 j hj).step (fun _ _ _ => rfl) (fun k h1 h2 => by show colN _ _ _ k = 0; rw [colN_old (by omega)]; exact h1) (fun k h1 h2 => by show colN _ _ _ k = j + 2; rw [colN_old (by omega)]; exact h1)⟩
/-- what the reference writes into one session -/
theorem XI.upd {w w' : World} {xs ys : Array Value} {col : Nat → Nat} {U : Nat → Ses} {j : Nat} {x : Ses} (h : XI w xs col U) (hb : Below w.heap.size w w') (hz : ys.size = 224) (h1 : ys.all (·.oneCell') = true)
    (hc : ∀ i, ¬ (7 * j ≤ i ∧ i < 7 * j + 7) → ys[i]? = xs[i]?) (hx : SesAt w' (fun k => colN col w.heap.size 0 k = 0) (fun k => colN col w.heap.size 0 k = 0) ys (7 * j) x) : XI w' ys (colN col w.heap.size 0) (setS U j x) := by
  refine ⟨hz, h1, fun i hi => ?_⟩
  by_cases e : i = j
  · subst e; rw [setS_same]; exact hx
  · rw [setS_ne e]
    exact ((h.2.2 i hi).step (fun k _ hlt => hb.block k hlt) (fun k h1 h2 => by show colN _ _ _ k = 0; rw [colN_old h2]; exact h1) (fun k h1 h2 => by show colN _ _ _ k = 0; rw [colN_old h2]; exact h1)).cells (fun q h1 h2 => hc q (by omega))

/-- what stood ahead of the desk is as it was -/
theorem below_row {w w' : World} {g j : Nat} {cs : Array Value} {col : Nat → Nat} {V : Nat → Ses} {row : Option Nat} (h : DI w g cs col V) (h0 : Below 0 w w') (hk : KeepBut w w' g row) (hr : ∀ b, row = some b → col b = j + 2) : Below g w w' :=
  ⟨h0.os, h0.tape, h0.output, h0.size, fun i hi => hk.2 i (Nat.lt_trans hi h.1.lt) (Nat.ne_of_lt hi) (fun e => by have := h.2.2.1.2 i (by rw [hr i e.symm]; omega); omega)⟩

/-- the place of a session -/
def ix (t s : Int) : Nat := (t.toNat - 1) * 4 + s.toNat
theorem ix_lt {t s : Int} (h : isP t s) : ix t s < 32 := by obtain ⟨h1, h2, h3, h4⟩ := h; unfold ix; omega
theorem ix_o {t s : Int} : (t.toNat - 1) * 28 + s.toNat * 7 = 7 * ix t s := by unfold ix; omega

/-- what a session may have -/
structure SOk (x : Ses) : Prop where
  tk : x.tk.length ≤ 8
  l0 : 0 ≤ x.l
  r : x.l = 0 → x.r = ⟨#[]⟩
  c : x.p = false → x.su = ⟨#[]⟩ ∧ x.no = ⟨#[]⟩ ∧ x.sl = []
  n : x.sl.length ≤ 4
  pf : ∃ pf : ByteArray → ByteArray, ∀ c : ByteArray, c.size ≤ 1000 → (∃ k, desk_Proof.f k x.su x.no x.sl c = some (pf c)) ∧ ∃ k, strongroomref27_Proof.f k x.su x.no x.sl c = some (pf c)

end Go.Proofs.Ytgkhdpplmdkkaaa.Ds
/- The desk's methods, told by what its sessions have. -/
namespace Go.Proofs.Ytgkhdpplmdkkaaa.Ds
open Go.RowKit Go.Proofs.YtgkhdpplmdkkaaaH.HDeskPlays Go.Proofs.YtgkhdpplmdkkaaaW.PrintWords Go.Proofs.YtgkhdpplmdkkaaaW.PrintLast Go.Proofs.YtgkhdpplmdkkaaaW.PrintMore Go.Proofs.Ytgkhdpplmdkkaaa.Dp

/-- what a method of the desk leaves: the desk has V', the reference's desk what it had -/
def Out (w w' : World) (g : Nat) (col : Nat → Nat) (V' : Nat → Ses) : Prop := Below g w w' ∧ (∃ cs' col', DI w' g cs' col' V' ∧ (∀ xs U, XI w xs col U → XI w' xs col' U) ∧ ∀ k, k < w.heap.size → col' k = col k) ∧ ∀ k, k < w.heap.size → col k = 0 → w'.heap[k]? = w.heap[k]?
/-- what is kept but for the desk and a session's tickets, is kept of colour 0 -/
theorem keep0 {w w' : World} {g j : Nat} {cs : Array Value} {col : Nat → Nat} {V : Nat → Ses} {row : Option Nat} (h : DI w g cs col V) (hk : KeepBut w w' g row) (hr : ∀ b, row = some b → col b = j + 2) : ∀ k, k < w.heap.size → col k = 0 → w'.heap[k]? = w.heap[k]? :=
  fun k hlt h0 => hk.2 k hlt (fun e => by have := h.2.2.1.1; rw [e] at h0; omega) (fun e => by have := hr k e.symm; omega)
theorem Out.of_below {w w' : World} {g : Nat} {cs : Array Value} {col : Nat → Nat} {V : Nat → Ses} (h : DI w g cs col V) (hb : Below w.heap.size w w') : Out w w' g col V := ⟨hb.mono (Nat.le_of_lt h.1.lt), ⟨cs, col, h.below hb, fun _ _ hx => hx.below hb, fun _ _ => rfl⟩, fun k hk _ => hb.block k hk⟩
theorem Out.of_eq {w w' : World} {g : Nat} {cs : Array Value} {col : Nat → Nat} {V : Nat → Ses} (h : DI w g cs col V) (hb : w = w') : Out w w' g col V := by subst hb; exact Out.of_below h (Below.refl _ _)

def lookV (V : Nat → Ses) (t s q : Int) : Int × ByteArray × Int := if isP t s then (lkK (V (ix t s)).l q, lkR (V (ix t s)).l (V (ix t s)).r q, lkE q) else (0, ⟨#[]⟩, 1)
def ansE (V : Nat → Ses) (t s q : Int) (rp : ByteArray) : Int := if isP t s then anE (V (ix t s)).l q rp else 1
def ansV (V : Nat → Ses) (t s q : Int) (rp : ByteArray) : Nat → Ses := if isP t s ∧ anE (V (ix t s)).l q rp = 0 then setS V (ix t s) { V (ix t s) with l := q, r := rp } else V
def resE (V : Nat → Ses) (t s q : Int) : Int := if isP t s then reE q (V (ix t s)).l (V (ix t s)).p (V (ix t s)).tk.length else 1
def resV (V : Nat → Ses) (t s q : Int) : Nat → Ses := if isP t s ∧ reE q (V (ix t s)).l (V (ix t s)).p (V (ix t s)).tk.length = 0 then setS V (ix t s) { V (ix t s) with l := q } else V

theorem d_look {w : World} {g : Nat} {cs : Array Value} {col : Nat → Nat} {V : Nat → Ses} (h : DI w g cs col V) (t s q : Int) :
    Calls Try.prog 18 #[.pointer (some ⟨g, 0, none⟩), .int .i64 t, .int .i64 s, .int .i64 q] w fun e w' =>
      e = .returned (.tuple #[.int .i64 (lookV V t s q).1, .string (lookV V t s q).2.1, .int .i64 (lookV V t s q).2.2]) ∧ Out w w' g col V := by
  by_cases hp : isP t s
  · obtain ⟨A5, n5, A6, n6, h7, _, _⟩ := h.2.2.2 _ (ix_lt hp)
    have hp' := hp
    obtain ⟨h1, h2, h3, h4⟩ := hp'
    refine (look_yes g cs _ t s q (V (ix t s)).l (V (ix t s)).r (7 * ix t s) w h1 h2 h3 h4 ix_o h.1 ⟨h7.c0, h7.c1⟩).mono ?_
    rintro e w' ⟨rfl, n, rfl⟩
    exact ⟨by simp only [lookV, if_pos hp], Out.of_below h (below_drewN (Below.refl _ _) _)⟩
  · refine (look_no g t s q w hp).mono ?_
    rintro e w' ⟨rfl, rfl⟩
    exact ⟨by simp only [lookV, if_neg hp], Out.of_eq h rfl⟩

theorem S7.set0 {cs : Array Value} {o : Nat} {l : Int} {r : ByteArray} {p : Bool} {su no : ByteArray} {v5 v6 : Value} (h : S7 cs o l r p su no v5 v6) (y : Int) : S7 (cs.setIfInBounds (o) (.int .i64 y)) o y r p su no v5 v6 := by
  have hb := (Array.getElem?_eq_some_iff.1 h.c0).1
  obtain ⟨c0, c1, c2, c3, c4, c5, c6⟩ := h
  refine ⟨?_, ?_, ?_, ?_, ?_, ?_, ?_⟩
  · rw [Array.getElem?_setIfInBounds_self_of_lt hb]
  · rw [Array.getElem?_setIfInBounds_ne (by omega)]; exact c1
  · rw [Array.getElem?_setIfInBounds_ne (by omega)]; exact c2
  · rw [Array.getElem?_setIfInBounds_ne (by omega)]; exact c3
  · rw [Array.getElem?_setIfInBounds_ne (by omega)]; exact c4
  · rw [Array.getElem?_setIfInBounds_ne (by omega)]; exact c5
  · rw [Array.getElem?_setIfInBounds_ne (by omega)]; exact c6
theorem S7.set1 {cs : Array Value} {o : Nat} {l : Int} {r : ByteArray} {p : Bool} {su no : ByteArray} {v5 v6 : Value} (h : S7 cs o l r p su no v5 v6) (y : ByteArray) : S7 (cs.setIfInBounds (o + 1) (.string y)) o l y p su no v5 v6 := by
  have hb := (Array.getElem?_eq_some_iff.1 h.c1).1
  obtain ⟨c0, c1, c2, c3, c4, c5, c6⟩ := h
  refine ⟨?_, ?_, ?_, ?_, ?_, ?_, ?_⟩
  · rw [Array.getElem?_setIfInBounds_ne (by omega)]; exact c0
  · rw [Array.getElem?_setIfInBounds_self_of_lt hb]
  · rw [Array.getElem?_setIfInBounds_ne (by omega)]; exact c2
  · rw [Array.getElem?_setIfInBounds_ne (by omega)]; exact c3
  · rw [Array.getElem?_setIfInBounds_ne (by omega)]; exact c4
  · rw [Array.getElem?_setIfInBounds_ne (by omega)]; exact c5
  · rw [Array.getElem?_setIfInBounds_ne (by omega)]; exact c6
theorem S7.set2 {cs : Array Value} {o : Nat} {l : Int} {r : ByteArray} {p : Bool} {su no : ByteArray} {v5 v6 : Value} (h : S7 cs o l r p su no v5 v6) (y : Bool) : S7 (cs.setIfInBounds (o + 2) (.bool y)) o l r y su no v5 v6 := by
  have hb := (Array.getElem?_eq_some_iff.1 h.c2).1
  obtain ⟨c0, c1, c2, c3, c4, c5, c6⟩ := h
  refine ⟨?_, ?_, ?_, ?_, ?_, ?_, ?_⟩
  · rw [Array.getElem?_setIfInBounds_ne (by omega)]; exact c0
  · rw [Array.getElem?_setIfInBounds_ne (by omega)]; exact c1
  · rw [Array.getElem?_setIfInBounds_self_of_lt hb]
  · rw [Array.getElem?_setIfInBounds_ne (by omega)]; exact c3
  · rw [Array.getElem?_setIfInBounds_ne (by omega)]; exact c4
  · rw [Array.getElem?_setIfInBounds_ne (by omega)]; exact c5
  · rw [Array.getElem?_setIfInBounds_ne (by omega)]; exact c6
theorem S7.set3 {cs : Array Value} {o : Nat} {l : Int} {r : ByteArray} {p : Bool} {su no : ByteArray} {v5 v6 : Value} (h : S7 cs o l r p su no v5 v6) (y : ByteArray) : S7 (cs.setIfInBounds (o + 3) (.string y)) o l r p y no v5 v6 := by
  have hb := (Array.getElem?_eq_some_iff.1 h.c3).1
  obtain ⟨c0, c1, c2, c3, c4, c5, c6⟩ := h
  refine ⟨?_, ?_, ?_, ?_, ?_, ?_, ?_⟩
  · rw [Array.getElem?_setIfInBounds_ne (by omega)]; exact c0
  · rw [Array.getElem?_setIfInBounds_ne (by omega)]; exact c1
  · rw [Array.getElem?_setIfInBounds_ne (by omega)]; exact c2
  · rw [Array.getElem?_setIfInBounds_self_of_lt hb]
  · rw [Array.getElem?_setIfInBounds_ne (by omega)]; exact c4
  · rw [Array.getElem?_setIfInBounds_ne (by omega)]; exact c5
  · rw [Array.getElem?_setIfInBounds_ne (by omega)]; exact c6
theorem S7.set4 {cs : Array Value} {o : Nat} {l : Int} {r : ByteArray} {p : Bool} {su no : ByteArray} {v5 v6 : Value} (h : S7 cs o l r p su no v5 v6) (y : ByteArray) : S7 (cs.setIfInBounds (o + 4) (.string y)) o l r p su y v5 v6 := by
  have hb := (Array.getElem?_eq_some_iff.1 h.c4).1
  obtain ⟨c0, c1, c2, c3, c4, c5, c6⟩ := h
  refine ⟨?_, ?_, ?_, ?_, ?_, ?_, ?_⟩
  · rw [Array.getElem?_setIfInBounds_ne (by omega)]; exact c0
  · rw [Array.getElem?_setIfInBounds_ne (by omega)]; exact c1
  · rw [Array.getElem?_setIfInBounds_ne (by omega)]; exact c2
  · rw [Array.getElem?_setIfInBounds_ne (by omega)]; exact c3
  · rw [Array.getElem?_setIfInBounds_self_of_lt hb]
  · rw [Array.getElem?_setIfInBounds_ne (by omega)]; exact c5
  · rw [Array.getElem?_setIfInBounds_ne (by omega)]; exact c6
theorem S7.set5 {cs : Array Value} {o : Nat} {l : Int} {r : ByteArray} {p : Bool} {su no : ByteArray} {v5 v6 : Value} (h : S7 cs o l r p su no v5 v6) (y : Value) : S7 (cs.setIfInBounds (o + 5) (y)) o l r p su no y v6 := by
  have hb := (Array.getElem?_eq_some_iff.1 h.c5).1
  obtain ⟨c0, c1, c2, c3, c4, c5, c6⟩ := h
  refine ⟨?_, ?_, ?_, ?_, ?_, ?_, ?_⟩
  · rw [Array.getElem?_setIfInBounds_ne (by omega)]; exact c0
  · rw [Array.getElem?_setIfInBounds_ne (by omega)]; exact c1
  · rw [Array.getElem?_setIfInBounds_ne (by omega)]; exact c2
  · rw [Array.getElem?_setIfInBounds_ne (by omega)]; exact c3
  · rw [Array.getElem?_setIfInBounds_ne (by omega)]; exact c4
  · rw [Array.getElem?_setIfInBounds_self_of_lt hb]
  · rw [Array.getElem?_setIfInBounds_ne (by omega)]; exact c6
theorem S7.set6 {cs : Array Value} {o : Nat} {l : Int} {r : ByteArray} {p : Bool} {su no : ByteArray} {v5 v6 : Value} (h : S7 cs o l r p su no v5 v6) (y : Value) : S7 (cs.setIfInBounds (o + 6) (y)) o l r p su no v5 y := by
  have hb := (Array.getElem?_eq_some_iff.1 h.c6).1
  obtain ⟨c0, c1, c2, c3, c4, c5, c6⟩ := h
  refine ⟨?_, ?_, ?_, ?_, ?_, ?_, ?_⟩
  · rw [Array.getElem?_setIfInBounds_ne (by omega)]; exact c0
  · rw [Array.getElem?_setIfInBounds_ne (by omega)]; exact c1
  · rw [Array.getElem?_setIfInBounds_ne (by omega)]; exact c2
  · rw [Array.getElem?_setIfInBounds_ne (by omega)]; exact c3
  · rw [Array.getElem?_setIfInBounds_ne (by omega)]; exact c4
  · rw [Array.getElem?_setIfInBounds_ne (by omega)]; exact c5
  · rw [Array.getElem?_setIfInBounds_self_of_lt hb]
theorem far7 {cs : Array Value} {o a i : Nat} {u : Value} (h : ¬ (o ≤ i ∧ i < o + 7)) (ha : o ≤ a ∧ a < o + 7) : (cs.setIfInBounds a u)[i]? = cs[i]? := by
  rw [Array.getElem?_setIfInBounds_ne (by omega)]

set_option maxHeartbeats 400000 in
theorem answer_keep (g : Nat) (cs : Array Value) (T : TypeId) (t s seq last : Int) (reply was : ByteArray) (o : Nat) (w : World) (h1 : 1 ≤ t) (h2 : t ≤ 8) (h3 : 0 ≤ s) (h4 : s ≤ 3)
    (ho : (t.toNat - 1) * 28 + s.toNat * 7 = o) (hb : Blk w g T cs) (hs : Se cs o last was) (_hr : reply.size ≤ 140737488351232) :
    Calls Try.prog 19 #[.pointer (some ⟨g, 0, none⟩), .int .i64 t, .int .i64 s, .int .i64 seq, .string reply] w fun e w' =>
      e = .returned (.int .i64 (anE last seq reply)) ∧ KeepBut w w' g none ∧ Below g w w' ∧ Blk w' g T (anA cs o last seq reply) := by
  subst ho
  have k0 := (hb.cell _).trans hs.1
  have k1 := (hb.cell _).trans hs.2
  have f0 := hb.frozen ((t.toNat - 1) * 28 + s.toNat * 7)
  have f1 := hb.frozen ((t.toNat - 1) * 28 + s.toNat * 7 + 1)
  have HB := Lib.hid hb
  have HC := Lib.hid hs
  clear hb hs
  go_enter Try.func19, Try.ntmps19
  go_wp2_with (first
    | (go_at_call 18; refine (look_yes _ _ _ _ _ _ _ _ _ _ (by omega) (by omega) (by omega) (by omega) rfl HB.out HC.out).mono ?_; rintro e w' ⟨rfl, n, rfl⟩)
    | (go_at_call 51; refine (find_yes _ _ _ _ (by omega) (by omega) (by omega) (by omega)).mono ?_; rintro e w' ⟨rfl, rfl⟩))
  · go_ret
    have he := anE_1 (last := last) (reply := reply) ‹_›
    exact ⟨ret_int he, KeepBut.of_below (below_drewN (Below.refl _ _) _) _ _, below_drewN (Below.refl _ _) _, by rw [anA_no (by rw [← he]; simp at *; assumption)]; exact HB.out⟩
  · go_ret
    have he := anE_2 (last := last) (reply := reply) ‹_› ‹_›
    exact ⟨ret_int he, KeepBut.of_below (below_drewN (Below.refl _ _) _) _ _, below_drewN (Below.refl _ _) _, by rw [anA_no (by rw [← he]; decide)]; exact HB.out⟩
  · go_ret
    have he := anE_3 (last := last) (reply := reply) ‹_› ‹_› ‹_›
    exact ⟨ret_int he, KeepBut.of_below (below_drewN (Below.refl _ _) _) _ _, below_drewN (Below.refl _ _) _, by rw [anA_no (by rw [← he]; decide)]; exact HB.out⟩
  · go_ret
    have he := anE_4 (last := last) (reply := reply) ‹_› ‹_› ‹_›
    refine ⟨ret_int he, ((KeepBut.of_below (below_drewN (Below.refl _ _) _) _ _).set_ _ _).set_ _ _, below_set (below_set (below_drewN (Below.refl _ _) _) (Nat.le_refl _) _ _) (Nat.le_refl _) _ _, ?_⟩
    unfold anA
    rw [if_pos he.symm]
    exact ((HB.out.drewN n).set_ _ _).set_ _ _

set_option maxHeartbeats 400000 in
theorem restore_keep (g : Nat) (cs : Array Value) (T : TypeId) (t s q : Int) (o : Nat) (l : Int) (r : ByteArray) (p : Bool) (su no : ByteArray) (v5 : Value) (A6 : Option Addr) (n6 c6 : Nat) (w : World) (h : isP t s) (ho : (t.toNat - 1) * 28 + s.toNat * 7 = o)
    (hb : Blk w g T cs) (hs : S7 cs o l r p su no v5 (.slice A6 n6 c6)) :
    Calls Try.prog 79 #[.pointer (some ⟨g, 0, none⟩), .int .i64 t, .int .i64 s, .int .i64 q] w fun e w' =>
      e = .returned (.int .i64 (reE q l p n6)) ∧ KeepBut w w' g none ∧ Below g w w' ∧ Blk w' g T (reA cs o q l p n6) := by
  have HB := Lib.hid hb
  have HS := Lib.hid hs
  have H := Lib.hid (And.intro h ho)
  have k0 := (hb.cell o).trans hs.c0
  have f0 := hb.frozen o
  clear hb hs h ho
  by_cases hq : q < 0 ∨ 2147483648 < q
  · rcases hq with hq | hq
    all_goals
      have e1 : reE q l p n6 = 1 := by unfold reE; rw [if_pos (by omega)]
      have E1 := Lib.hid e1
      clear e1
      go_enter Try.func79, Try.ntmps79
      go_wp2_with (go_at_call 51; refine (find_at _ _ _ o _ H.out.1 H.out.2).mono ?_; rintro e w' ⟨rfl, rfl⟩)
      go_ret
      exact ⟨ret_int E1.out.symm, KeepBut.refl _ _ _, Below.refl _ _, by unfold reA; rw [E1.out, if_neg (by decide)]; exact HB.out⟩
  · have hq1 : 0 ≤ q := by omega
    have hq2 : q ≤ 2147483648 := by omega
    have e1 : reE q l p n6 = if anyB l p n6 = true then 8 else 0 := by unfold reE; rw [if_neg hq]
    have E1 := Lib.hid e1
    clear hq e1
    cases ha : anyB l p n6
    all_goals
      have HA := Lib.hid ha
      clear ha
      go_enter Try.func79, Try.ntmps79
      go_wp2_with (first
        | (go_at_call 51; refine (find_at _ _ _ o _ H.out.1 H.out.2).mono ?_; rintro e w' ⟨rfl, rfl⟩)
        | (go_at_call 80; refine (any_at _ _ _ o l r p su no v5 A6 n6 c6 _ HB.out HS.out).mono ?_; rintro e w' ⟨rfl, rfl⟩; rw [HA.out]))
      go_ret
    · have E2 : reE q l p n6 = 0 := by rw [E1.out, HA.out]; rfl
      exact ⟨ret_int E2.symm, (KeepBut.refl _ _ _).set_ _ _, below_set (Below.refl _ _) (Nat.le_refl _) _ _, by unfold reA; rw [if_pos E2]; exact HB.out.set_ _ _⟩
    · have E2 : reE q l p n6 = 8 := by rw [E1.out, HA.out]; rfl
      exact ⟨ret_int E2.symm, KeepBut.refl _ _ _, Below.refl _ _, by unfold reA; rw [E2, if_neg (by decide)]; exact HB.out⟩


/-- a change of whole numbers, strings alone -/
theorem Out.flat {w w' : World} {g : Nat} {cs cs' : Array Value} {col : Nat → Nat} {V : Nat → Ses} {j : Nat} {x : Ses} {A5 A6 : Option Addr} {n5 n6 : Nat} (h : DI w g cs col V) (hj : j < 32) (hk : KeepBut w w' g none) (hb : Below g w w') (hB : Blk w' g 106 cs') (hz : cs'.size = 224)
    (hc : ∀ i, ¬ (7 * j ≤ i ∧ i < 7 * j + 7) → cs'[i]? = cs[i]?) (h7 : S7 cs' (7 * j) x.l x.r x.p x.su x.no (.slice A5 x.sl.length n5) (.slice A6 x.tk.length n6))
    (hs : Kd.R k42 42 w 0 (fun k => col k = 0) (.slice A5 x.sl.length n5) x.sl) (ht : Kd.R k74 74 w 0 (fun k => col k = j + 2) (.slice A6 x.tk.length n6) x.tk) : Out w w' g col (setS V j x) := by
  have hg := h.2.2.1.1
  refine ⟨hb, ⟨cs', colN col w.heap.size 0, h.upd hk (fun b e => by cases e) hB hz hj hc ⟨A5, n5, A6, n6, h7, ?_, ?_⟩, fun xs U hx => hx.keep (j := 0) hg hk (fun b e => by cases e), fun k hk' => colN_old hk'⟩, keep0 (j := 0) h hk (fun b e => by cases e)⟩
  · exact Kd.R_mono (Kd.R_keep (Kd.R_bound hs) hk (fun k h1 e => by rw [e] at h1; omega)) (fun k h1 => by rw [colN_old h1.2.2.1]; exact h1.1)
  · exact Kd.R_mono (Kd.R_keep (Kd.R_bound ht) hk (fun k h1 e => by rw [e] at h1; omega)) (fun k h1 => by rw [colN_old h1.2.2.1]; exact h1.1)
theorem Out.still {w w' : World} {g : Nat} {cs : Array Value} {col : Nat → Nat} {V : Nat → Ses} (h : DI w g cs col V) (hk : KeepBut w w' g none) (hb : Below g w w') (hB : Blk w' g 106 cs) : Out w w' g col V := by
  have hg := h.2.2.1.1
  refine ⟨hb, ⟨cs, col, ⟨hB, h.2.1, h.2.2.1, fun j hj => (h.2.2.2 j hj).step (fun k h1 hlt => hk.2 k hlt (fun e => by rw [e] at h1; omega) (by simp)) (fun _ h _ => h) (fun _ h _ => h)⟩, fun xs U hx => ⟨hx.1, hx.2.1, fun j hj => (hx.2.2 j hj).step (fun k h1 hlt => hk.2 k hlt (fun e => by rw [e] at h1; omega) (by simp)) (fun _ h _ => h) (fun _ h _ => h)⟩, fun _ _ => rfl⟩, keep0 (j := 0) h hk (fun b e => by cases e)⟩

theorem d_answer {w : World} {g : Nat} {cs : Array Value} {col : Nat → Nat} {V : Nat → Ses} (h : DI w g cs col V) (t s q : Int) (rp : ByteArray) (hr : rp.size ≤ 140737488351232) :
    Calls Try.prog 19 #[.pointer (some ⟨g, 0, none⟩), .int .i64 t, .int .i64 s, .int .i64 q, .string rp] w fun e w' =>
      e = .returned (.int .i64 (ansE V t s q rp)) ∧ Out w w' g col (ansV V t s q rp) := by
  by_cases hp : isP t s
  · obtain ⟨A5, n5, A6, n6, h7, hs, ht⟩ := h.2.2.2 _ (ix_lt hp)
    have hp' := hp
    obtain ⟨h1, h2, h3, h4⟩ := hp'
    refine (answer_keep g cs _ t s q (V (ix t s)).l rp (V (ix t s)).r (7 * ix t s) w h1 h2 h3 h4 ix_o h.1 ⟨h7.c0, h7.c1⟩ hr).mono ?_
    rintro e w' ⟨rfl, hk, hb, hB⟩
    refine ⟨by simp only [ansE, if_pos hp], ?_⟩
    by_cases he : anE (V (ix t s)).l q rp = 0
    · rw [anA, if_pos he] at hB
      rw [ansV, if_pos ⟨hp, he⟩]
      exact Out.flat h (ix_lt hp) hk hb hB (by simp; exact h.2.1) (fun i hi => (far7 hi (by omega)).trans (far7 hi (by omega))) ((h7.set0 q).set1 rp) hs ht
    · rw [anA_no he] at hB
      rw [ansV, if_neg (fun h_ => he h_.2)]
      exact Out.still h hk hb hB
  · refine (answer_no g t s q rp w hp).mono ?_
    rintro e w' ⟨rfl, rfl⟩
    exact ⟨by simp only [ansE, if_neg hp], by rw [ansV, if_neg (fun h_ => hp h_.1)]; exact Out.of_eq h rfl⟩

theorem d_restore {w : World} {g : Nat} {cs : Array Value} {col : Nat → Nat} {V : Nat → Ses} (h : DI w g cs col V) (t s q : Int) :
    Calls Try.prog 79 #[.pointer (some ⟨g, 0, none⟩), .int .i64 t, .int .i64 s, .int .i64 q] w fun e w' =>
      e = .returned (.int .i64 (resE V t s q)) ∧ Out w w' g col (resV V t s q) := by
  by_cases hp : isP t s
  · obtain ⟨A5, n5, A6, n6, h7, hs, ht⟩ := h.2.2.2 _ (ix_lt hp)
    refine (restore_keep g cs _ t s q (7 * ix t s) _ _ _ _ _ _ _ _ n6 w hp ix_o h.1 h7).mono ?_
    rintro e w' ⟨rfl, hk, hb, hB⟩
    refine ⟨by simp only [resE, if_pos hp], ?_⟩
    by_cases he : reE q (V (ix t s)).l (V (ix t s)).p (V (ix t s)).tk.length = 0
    · rw [reA, if_pos he] at hB
      rw [resV, if_pos ⟨hp, he⟩]
      exact Out.flat h (ix_lt hp) hk hb hB (by simp; exact h.2.1) (fun i hi => far7 hi (by omega)) (h7.set0 q) hs ht
    · rw [reA, if_neg he] at hB
      rw [resV, if_neg (fun h_ => he h_.2)]
      exact Out.still h hk hb hB
  · refine (restore_no g t s q w hp).mono ?_
    rintro e w' ⟨rfl, rfl⟩
    exact ⟨by simp only [resE, if_neg hp], by rw [resV, if_neg (fun h_ => hp h_.1)]; exact Out.of_eq h rfl⟩

end Go.Proofs.Ytgkhdpplmdkkaaa.Ds
/- The desk's Claim, Spend, Forget, Prove, told by what its sessions have. -/
namespace Go.Proofs.Ytgkhdpplmdkkaaa.Ds
open Go.RowKit Go.Proofs.YtgkhdpplmdkkaaaH.HDeskPlays Go.Proofs.YtgkhdpplmdkkaaaW.PrintWords Go.Proofs.YtgkhdpplmdkkaaaW.PrintLast Go.Proofs.YtgkhdpplmdkkaaaW.PrintMore Go.Proofs.Ytgkhdpplmdkkaaa.Dp

abbrev clmP (t s : Int) (sum : ByteArray) : Prop := isP t s ∧ 1 ≤ sum.size ∧ sum.size ≤ 32
def clmV (V : Nat → Ses) (t s : Int) (sum no : ByteArray) (sl : List S42) : Nat → Ses := if clmP t s sum then setS V (ix t s) { V (ix t s) with p := true, su := sum, no := no, sl := sl } else V
def clmR (t s : Int) (sum no : ByteArray) (sl : List S42) : ByteArray × ByteArray × List S42 × Int := if clmP t s sum then (sum, no, sl, 0) else (⟨#[]⟩, ⟨#[]⟩, [], 1)

theorem d_claim {w : World} {g : Nat} {cs : Array Value} {col : Nat → Nat} {V : Nat → Ses} (h : DI w g cs col V) (t s : Int) (sum draw no : ByteArray) (sl : List S42) (hD : clmP t s sum → (∃ k, desk_Draw.f k sum draw = some (sum, no, sl)) ∧ desk_copied.f sum no sl = some (sum, no, sl)) :
    Calls Try.prog 37 #[.pointer (some ⟨g, 0, none⟩), .int .i64 t, .int .i64 s, .string sum, .string draw] w fun e w' =>
      (∃ v, e = .returned (.tuple #[.agg #[.string (clmR t s sum no sl).1, .string (clmR t s sum no sl).2.1, v], .int .i64 (clmR t s sum no sl).2.2.2]) ∧ Kd.R k42 42 w' w.heap.size (fun k => k ≠ g) v (clmR t s sum no sl).2.2.1) ∧ Out w w' g col (clmV V t s sum no sl) := by
  by_cases hp : isP t s
  · have hp' := hp
    obtain ⟨h1, h2, h3, h4⟩ := hp'
    by_cases hz : 1 ≤ sum.size ∧ sum.size ≤ 32
    · have hc : clmP t s sum := ⟨hp, hz⟩
      obtain ⟨⟨k, hdr⟩, hcp⟩ := hD hc
      obtain ⟨A5, n5, A6, n6, h7, hs, ht⟩ := h.2.2.2 _ (ix_lt hp)
      have hix := ix_lt hp
      refine (claim_yes g cs t s sum draw (7 * ix t s) k sum no sl w h1 h2 h3 h4 ix_o hz.1 hz.2 hdr hcp h.1 (by rw [h.2.1]; omega)).mono ?_
      rintro e w' ⟨v1, v2, rfl, hk, hb, hB, hr1, hr2⟩
      obtain ⟨B5, m5, rfl⟩ := Kd.R_slice hr1
      rw [clmR, if_pos hc, clmV, if_pos hc]
      have hlt := h.1.lt
      refine ⟨⟨v2, rfl, Kd.R_mono (Kd.R_bound hr2) (fun k hk => by have := hk.2.1; omega)⟩, hb, ⟨clA cs (7 * ix t s) sum no (.slice B5 sl.length m5), colN col w.heap.size 0, ?_, fun xs U hx => hx.keep (j := 0) h.2.2.1.1 hk (fun b e => by cases e), fun k hk' => colN_old hk'⟩, keep0 (j := 0) h hk (fun b e => by cases e)⟩
      refine h.upd hk (fun b e => by cases e) hB (by unfold clA; simp; exact h.2.1) hix (fun i hi => ?_) ⟨B5, m5, A6, n6, (((h7.set2 true).set3 sum).set4 no).set5 _, ?_, ?_⟩
      · unfold clA
        rw [far7 hi (by omega), far7 hi (by omega), far7 hi (by omega), far7 hi (by omega)]
      · exact Kd.R_lower (Kd.R_mono (Kd.R_bound hr1) (fun k hk => by have := hk.2.1; show colN col w.heap.size 0 k = 0; unfold colN; rw [if_neg (by omega)])) (Nat.zero_le _)
      · exact Kd.R_mono (Kd.R_keep (Kd.R_bound ht) hk (fun k h1 e => by have := h.2.2.1.1; rw [e] at h1; omega)) (fun k h1 => by rw [colN_old h1.2.2.1]; exact h1.1)
    · have hc : ¬ clmP t s sum := fun h_ => hz h_.2
      refine (claim_no g t s sum draw (7 * ix t s) w h1 h2 h3 h4 ix_o (by omega)).mono ?_
      rintro e w' ⟨rfl, hb⟩
      rw [clmR, if_neg hc, clmV, if_neg hc]
      exact ⟨⟨_, rfl, Kd.R_nil _ _ _ _ _⟩, Out.of_below h hb⟩
  · have hc : ¬ clmP t s sum := fun h_ => hp h_.1
    refine (claim_noslot g t s sum draw w hp).mono ?_
    rintro e w' ⟨rfl, hb⟩
    rw [clmR, if_neg hc, clmV, if_neg hc]
    exact ⟨⟨_, rfl, Kd.R_nil _ _ _ _ _⟩, Out.of_below h hb⟩

set_option maxHeartbeats 1000000 in
theorem spend_none (g : Nat) (cs : Array Value) (t s : Int) (o : Nat) (A : Option Addr) (c : Nat) (w : World) (h : isP t s) (ho : (t.toNat - 1) * 28 + s.toNat * 7 = o)
    (hb : Blk w g 106 cs) (htk : cs[o + 6]? = some (.slice A 0 c)) :
    Calls Try.prog 40 #[.pointer (some ⟨g, 0, none⟩), .int .i64 t, .int .i64 s] w fun e w' =>
      e = .returned (.tuple #[.slice none 0 0, .int .i64 6]) ∧ Below w.heap.size w w' := by
  have k2 := (hb.cell (o + 6)).trans htk
  have H := Lib.hid (And.intro h ho)
  clear hb h ho
  go_enter Try.func40, Try.ntmps40
  go_wp2_with (go_at_call 51; refine (Ds.find_at _ _ _ o _ H.out.1 H.out.2).mono ?_; rintro e w' ⟨rfl, rfl⟩)
  go_ret2
  exact ⟨rfl, by first | exact Below.refl _ _ | exact below_drewN (Below.refl _ _) _⟩

def spdV (V : Nat → Ses) (t s : Int) : Nat → Ses := if isP t s then setS V (ix t s) { V (ix t s) with tk := [] } else V
def spdR (V : Nat → Ses) (t s : Int) : List S74 × Int := if isP t s then ((V (ix t s)).tk, if (V (ix t s)).tk.length = 0 then 6 else 0) else ([], 1)
theorem setS_self (V : Nat → Ses) (j : Nat) : setS V j (V j) = V := by
  funext i
  unfold setS
  split
  · subst_vars; rfl
  · rfl
theorem d_spend {w : World} {g : Nat} {cs : Array Value} {col : Nat → Nat} {V : Nat → Ses} (h : DI w g cs col V) (t s : Int) :
    Calls Try.prog 40 #[.pointer (some ⟨g, 0, none⟩), .int .i64 t, .int .i64 s] w fun e w' =>
      (∃ v, e = .returned (.tuple #[v, .int .i64 (spdR V t s).2]) ∧ Kd.R k74 74 w' 0 (fun k => k ≠ g) v (spdR V t s).1) ∧ Out w w' g col (spdV V t s) := by
  by_cases hp : isP t s
  · have hp' := hp
    obtain ⟨h1, h2, h3, h4⟩ := hp'
    have hix := ix_lt hp
    obtain ⟨A5, n5, A6, n6, h7, hs, ht⟩ := h.2.2.2 _ hix
    rw [spdR, if_pos hp, spdV, if_pos hp]
    by_cases hn : (V (ix t s)).tk.length = 0
    · have hnil : (V (ix t s)).tk = [] := List.length_eq_zero_iff.1 hn
      have h6 := h7.c6
      rw [hn] at h6
      refine (spend_none g cs t s (7 * ix t s) A6 n6 w hp ix_o h.1 h6).mono ?_
      rintro e w' ⟨rfl, hb⟩
      rw [if_pos hn]
      refine ⟨⟨_, rfl, by rw [hnil]; exact Kd.R_nil _ _ _ _ _⟩, ?_⟩
      have e : ({ V (ix t s) with tk := [] } : Ses) = V (ix t s) := by rw [← hnil]
      rw [e, setS_self]
      exact Out.of_below h hb
    · have hml : (V (ix t s)).tk.length ≤ 9223372036854775807 := (Kd.R_reads' ht).2.2.2.1
      refine (spend_yes g cs t s (7 * ix t s) _ n6 A6 w h1 h2 h3 h4 ix_o h.1 h7.c6 (by omega) hml).mono ?_
      rintro e w' ⟨rfl, hk, hb, hB⟩
      rw [if_neg hn]
      refine ⟨⟨_, rfl, Kd.R_mono (Kd.R_keep ht hk (fun k h1 e => by have := h.2.2.1.1; rw [e] at h1; omega)) (fun k h1 e => by have := h.2.2.1.1; rw [e] at h1; omega)⟩, ?_⟩
      exact Out.flat (x := { V (ix t s) with tk := [] }) (A6 := none) (n6 := 0) h hix hk hb hB (by simp; exact h.2.1) (fun i hi => far7 hi (by omega)) (h7.set6 _) hs (Kd.R_nil _ _ _ _ _)
  · refine (spend_noslot g t s w hp).mono ?_
    rintro e w' ⟨rfl, rfl⟩
    rw [spdR, if_neg hp, spdV, if_neg hp]
    exact ⟨⟨_, rfl, Kd.R_nil _ _ _ _ _⟩, Out.of_eq h rfl⟩

end Go.Proofs.Ytgkhdpplmdkkaaa.Ds
/- The desk's Forget, Prove, told by what its sessions have. -/
namespace Go.Proofs.Ytgkhdpplmdkkaaa.Ds
open Go.RowKit Go.Proofs.YtgkhdpplmdkkaaaH.HDeskPlays Go.Proofs.YtgkhdpplmdkkaaaW.PrintWords Go.Proofs.YtgkhdpplmdkkaaaW.PrintLast Go.Proofs.YtgkhdpplmdkkaaaW.PrintMore Go.Proofs.Ytgkhdpplmdkkaaa.Dp

theorem zero7_S7 {cs : Array Value} {o : Nat} {l : Int} {r : ByteArray} {p : Bool} {su no : ByteArray} {v5 v6 : Value} (h : S7 cs o l r p su no v5 v6) : S7 (zero7 cs o) o 0 ⟨#[]⟩ false ⟨#[]⟩ ⟨#[]⟩ (.slice none 0 0) (.slice none 0 0) :=
  ((((((h.set0 0).set1 ⟨#[]⟩).set2 false).set3 ⟨#[]⟩).set4 ⟨#[]⟩).set5 (.slice none 0 0)).set6 (.slice none 0 0)
theorem zero7_far {cs : Array Value} {o i : Nat} (h : ¬ (o ≤ i ∧ i < o + 7)) : (zero7 cs o)[i]? = cs[i]? := by
  unfold zero7
  rw [far7 h (by omega), far7 h (by omega), far7 h (by omega), far7 h (by omega), far7 h (by omega), far7 h (by omega), far7 h (by omega)]
theorem fgt_cons (cs : Array Value) (base : Nat) (i : Int) (l : List Int) : fgt cs base (i :: l) = fgt (zero7 cs (base + i.toNat * 7)) base l := by unfold fgt; rw [List.foldl_cons]
theorem fgt_keep (base q : Nat) : ∀ (l : List Int) (cs : Array Value), (∀ i ∈ l, ¬ (base + i.toNat * 7 ≤ q ∧ q < base + i.toNat * 7 + 7)) → (fgt cs base l)[q]? = cs[q]?
  | [], cs, _ => rfl
  | i :: l, cs, h => by
    rw [fgt_cons, fgt_keep base q l _ (fun j hj => h j (by simp [hj])), zero7_far (h i (by simp))]
theorem fgt_hit (base k : Nat) : ∀ (l : List Int) (cs : Array Value) (a : Int) (r : ByteArray) (p : Bool) (su no : ByteArray) (v5 v6 : Value), S7 cs (base + k * 7) a r p su no v5 v6 → (k : Int) ∈ l → (∀ i ∈ l, 0 ≤ i) → S7 (fgt cs base l) (base + k * 7) 0 ⟨#[]⟩ false ⟨#[]⟩ ⟨#[]⟩ (.slice none 0 0) (.slice none 0 0)
  | [], _, _, _, _, _, _, _, _, _, hm, _ => by cases hm
  | i :: l, cs, a, r, p, su, no, v5, v6, h, hm, h0 => by
    rw [fgt_cons]
    have hi := h0 i (by simp)
    have h0' : ∀ j ∈ l, 0 ≤ j := fun j hj => h0 j (by simp [hj])
    by_cases e : i.toNat = k
    · have hz := zero7_S7 h
      rw [e]
      by_cases hk : (k : Int) ∈ l
      · exact fgt_hit base k l _ _ _ _ _ _ _ _ hz hk h0'
      · have hf : ∀ q, base + k * 7 ≤ q → q < base + k * 7 + 7 → (fgt (zero7 cs (base + k * 7)) base l)[q]? = (zero7 cs (base + k * 7))[q]? := fun q q1 q2 => fgt_keep base q l _ (fun j hj hq => hk (by have := h0' j hj; have e2 : j = (k : Int) := by omega
                                                                                                                                                                                                         rw [← e2]; exact hj))
        obtain ⟨c0, c1, c2, c3, c4, c5, c6⟩ := hz
        exact ⟨(hf _ (by omega) (by omega)).trans c0, (hf _ (by omega) (by omega)).trans c1, (hf _ (by omega) (by omega)).trans c2, (hf _ (by omega) (by omega)).trans c3, (hf _ (by omega) (by omega)).trans c4, (hf _ (by omega) (by omega)).trans c5, (hf _ (by omega) (by omega)).trans c6⟩
    · have hf : ∀ q, base + k * 7 ≤ q → q < base + k * 7 + 7 → (zero7 cs (base + i.toNat * 7))[q]? = cs[q]? := fun q q1 q2 => zero7_far (by omega)
      obtain ⟨c0, c1, c2, c3, c4, c5, c6⟩ := h
      refine fgt_hit base k l _ a r p su no v5 v6 ⟨(hf _ (by omega) (by omega)).trans c0, (hf _ (by omega) (by omega)).trans c1, (hf _ (by omega) (by omega)).trans c2, (hf _ (by omega) (by omega)).trans c3, (hf _ (by omega) (by omega)).trans c4, (hf _ (by omega) (by omega)).trans c5, (hf _ (by omega) (by omega)).trans c6⟩ ?_ h0'
      rcases List.mem_cons.1 hm with e2 | e2
      · omega
      · exact e2
theorem mem_hasAt {b : Nat → Bool} {n : Nat} {i : Int} : i ∈ hasAt b n ↔ ∃ j : Nat, j < n ∧ b j = true ∧ i = (j : Int) := by
  unfold hasAt
  rw [List.mem_map]
  constructor
  · rintro ⟨j, hj, rfl⟩
    rw [List.mem_filter, List.mem_range] at hj
    exact ⟨j, hj.1, hj.2, rfl⟩
  · rintro ⟨j, h1, h2, rfl⟩
    exact ⟨j, by rw [List.mem_filter, List.mem_range]; exact ⟨h1, h2⟩, rfl⟩

/-- has the j-th session anything -/
def anyS (x : Ses) : Bool := anyB x.l x.p x.tk.length
def fgtB (V : Nat → Ses) (t : Int) : Nat → Bool := fun k => anyS (V ((t.toNat - 1) * 4 + k))
def fgtV (V : Nat → Ses) (t : Int) : Nat → Ses := fun j => if (1 ≤ t ∧ t ≤ 8) ∧ j / 4 = t.toNat - 1 ∧ anyS (V j) = true then ses0 else V j
def fgtN (V : Nat → Ses) (t : Int) : Int := if 1 ≤ t ∧ t ≤ 8 then ((hasAt (fgtB V t) 4).length : Int) else 0
theorem d_has {w : World} {g : Nat} {cs : Array Value} {col : Nat → Nat} {V : Nat → Ses} (h : DI w g cs col V) (t : Int) (ht : 1 ≤ t ∧ t ≤ 8) : Has cs t (fgtB V t) := by
  intro k hk
  obtain ⟨A5, n5, A6, n6, h7, _, _⟩ := h.2.2.2 ((t.toNat - 1) * 4 + k) (by omega)
  rw [show 7 * ((t.toNat - 1) * 4 + k) = (t.toNat - 1) * 28 + k * 7 by omega] at h7
  exact ⟨_, _, _, _, _, _, A6, _, n6, h7, rfl⟩
theorem d_forget {w : World} {g : Nat} {cs : Array Value} {col : Nat → Nat} {V : Nat → Ses} (h : DI w g cs col V) (t : Int) :
    Calls Try.prog 47 #[.pointer (some ⟨g, 0, none⟩), .int .i64 t] w fun e w' =>
      e = .returned (.int .i64 (fgtN V t)) ∧ Out w w' g col (fgtV V t) := by
  by_cases ht : 1 ≤ t ∧ t ≤ 8
  · refine (forget_yes g cs _ t (fgtB V t) w ht.1 ht.2 h.1 (d_has h t ht) h.2.1).mono ?_
    rintro e w' ⟨rfl, hk, hb, hB⟩
    refine ⟨by rw [fgtN, if_pos ht], hb, ⟨_, col, ⟨hB, by rw [fgt_size]; exact h.2.1, h.2.2.1, fun j hj => ?_⟩, fun xs U hx => ⟨hx.1, hx.2.1, fun j hj => (hx.2.2 j hj).step (fun k h1 hlt => hk.2 k hlt (fun e => by have := h.2.2.1.1; rw [e] at h1; omega) (by simp)) (fun _ h _ => h) (fun _ h _ => h)⟩, fun _ _ => rfl⟩, keep0 (j := 0) h hk (fun b e => by cases e)⟩
    have hold := (h.2.2.2 j hj).step (w' := w') (okS' := fun k => col k = 0) (okT' := fun k => col k = j + 2) (fun k h1 hlt => hk.2 k hlt (fun e => by have := h.2.2.1.1; rw [e] at h1; omega) (by simp)) (fun _ h _ => h) (fun _ h _ => h)
    by_cases hc : j / 4 = t.toNat - 1 ∧ anyS (V j) = true
    · rw [fgtV, if_pos ⟨ht, hc⟩]
      obtain ⟨A5, n5, A6, n6, h7, _, _⟩ := hold
      have ho : 7 * j = (t.toNat - 1) * 28 + (j % 4) * 7 := by omega
      rw [ho] at h7
      have hm : ((j % 4 : Nat) : Int) ∈ hasAt (fgtB V t) 4 := mem_hasAt.2 ⟨j % 4, by omega, by unfold fgtB; rw [show (t.toNat - 1) * 4 + j % 4 = j by omega]; exact hc.2, rfl⟩
      have hh := fgt_hit ((t.toNat - 1) * 28) (j % 4) (hasAt (fgtB V t) 4) cs _ _ _ _ _ _ _ h7 hm (fun i hi => by obtain ⟨q, _, _, rfl⟩ := mem_hasAt.1 hi; omega)
      rw [← ho] at hh
      exact ⟨none, 0, none, 0, hh, Kd.R_nil _ _ _ _ _, Kd.R_nil _ _ _ _ _⟩
    · rw [fgtV, if_neg (fun h_ => hc h_.2)]
      refine hold.cells (fun q q1 q2 => fgt_keep _ q _ _ (fun i hi hq => ?_))
      obtain ⟨m, hm, hbm, rfl⟩ := mem_hasAt.1 hi
      rw [Int.toNat_natCast] at hq
      refine hc ⟨by omega, ?_⟩
      unfold fgtB at hbm
      rw [show (t.toNat - 1) * 4 + m = j by omega] at hbm
      exact hbm
  · refine (forget_no (some ⟨g, 0, none⟩) t w (fun s w => find_no g t s w (fun h_ => ht ⟨h_.1, h_.2.1⟩))).mono ?_
    rintro e w' ⟨rfl, hb⟩
    refine ⟨by rw [fgtN, if_neg ht], ?_⟩
    rw [show fgtV V t = V from funext fun j => by rw [fgtV, if_neg (fun h_ => ht h_.1)]]
    exact Out.of_below h hb

/-- the first content whose proof is the answer, and what it makes -/
theorem first_of (pf : ByteArray → ByteArray) (answer : ByteArray) (xs : List ByteArray) (ys : List S74) (n : Nat) : ∃ R : Int × S74, ((∀ i, i < xs.length → (pf (xs.getD i ⟨#[]⟩)).toList ≠ answer.toList) → R = (11, z74)) ∧
    (∀ m, m < xs.length → (pf (xs.getD m ⟨#[]⟩)).toList = answer.toList → (∀ i, i < m → (pf (xs.getD i ⟨#[]⟩)).toList ≠ answer.toList) → R = if n = 8 then (5, z74) else (0, ys.getD m z74)) := by
  by_cases h : ∃ m, m < xs.length ∧ (pf (xs.getD m ⟨#[]⟩)).toList = answer.toList ∧ ∀ i, i < m → (pf (xs.getD i ⟨#[]⟩)).toList ≠ answer.toList
  · obtain ⟨m, hm, he, hl⟩ := h
    refine ⟨if n = 8 then (5, z74) else (0, ys.getD m z74), fun h => absurd he (h m hm), fun m' hm' he' hl' => ?_⟩
    have : m' = m := by
      rcases Nat.lt_trichotomy m' m with h1 | h1 | h1
      · exact absurd he' (hl m' h1)
      · exact h1
      · exact absurd he (hl' m h1)
    rw [this]
  · exact ⟨(11, z74), fun _ => rfl, fun m hm he hl => absurd ⟨m, hm, he, hl⟩ h⟩
def prvP (V : Nat → Ses) (t s : Int) : Prop := isP t s ∧ (V (ix t s)).p = true
def prvV (V : Nat → Ses) (t s : Int) (R : Int × S74) : Nat → Ses := if isP t s then (if (V (ix t s)).p = true then setS V (ix t s) { V (ix t s) with p := false, su := ⟨#[]⟩, no := ⟨#[]⟩, sl := [], tk := if R.1 = 0 then (V (ix t s)).tk ++ [R.2] else (V (ix t s)).tk } else V) else V
def prvR (V : Nat → Ses) (t s : Int) (R : Int × S74) : Int × S74 := if isP t s then (if (V (ix t s)).p = true then R else (6, z74)) else (1, z74)
theorem clB_S7 {cs : Array Value} {o : Nat} {l : Int} {r : ByteArray} {p : Bool} {su no : ByteArray} {v5 v6 : Value} (h : S7 cs o l r p su no v5 v6) : S7 (clB cs o) o l r false ⟨#[]⟩ ⟨#[]⟩ (.slice none 0 0) v6 := (((h.set2 false).set3 ⟨#[]⟩).set4 ⟨#[]⟩).set5 (.slice none 0 0)
theorem clB_far {cs : Array Value} {o i : Nat} (h : ¬ (o ≤ i ∧ i < o + 7)) : (clB cs o)[i]? = cs[i]? := by
  unfold clB
  rw [far7 h (by omega), far7 h (by omega), far7 h (by omega), far7 h (by omega)]
theorem d_prove {w : World} {g : Nat} {cs : Array Value} {col : Nat → Nat} {V : Nat → Ses} (h : DI w g cs col V) (t s : Int) (answer : ByteArray) (xs : List ByteArray) (A4 : Option Addr) (c4 : Nat) (ys : List S74) (A3 : Option Addr) (c3 : Nat) (pf : ByteArray → ByteArray) (R : Int × S74)
    (hx : ∀ W', KeepBut w W' g none → Kd.C Kd.string W' A4 xs.length xs) (hy : ∀ W' row, KeepBut w W' g row → (∀ b, row = some b → col b = ix t s + 2) → Kd.C k74 W' A3 ys.length ys) (hl : ys.length = xs.length) (hlen : xs.length ≤ 1000) (htk : isP t s → (V (ix t s)).tk.length ≤ 8)
    (hp : isP t s → (V (ix t s)).p = true → ∀ x ∈ xs, ∃ k, desk_Proof.f k (V (ix t s)).su (V (ix t s)).no (V (ix t s)).sl x = some (pf x))
    (hmiss : (∀ i, i < xs.length → (pf (xs.getD i ⟨#[]⟩)).toList ≠ answer.toList) → R = (11, z74))
    (hhit : isP t s → ∀ m, m < xs.length → (pf (xs.getD m ⟨#[]⟩)).toList = answer.toList → (∀ i, i < m → (pf (xs.getD i ⟨#[]⟩)).toList ≠ answer.toList) → R = if (V (ix t s)).tk.length = 8 then (5, z74) else (0, ys.getD m z74)) :
    Calls Try.prog 38 #[.pointer (some ⟨g, 0, none⟩), .int .i64 t, .int .i64 s, .string answer, .slice A3 ys.length c3, .slice A4 xs.length c4] w fun e w' =>
      e = .returned (.tuple #[.agg #[.string (prvR V t s R).2.f0, .int .i64 (prvR V t s R).2.f1], .int .i64 (prvR V t s R).1]) ∧ Out w w' g col (prvV V t s R) := by
  have hg := h.2.2.1.1
  by_cases hi : isP t s
  · have hix := ix_lt hi
    have hi' := hi
    obtain ⟨h1, h2, h3, h4⟩ := hi'
    obtain ⟨A5, n5, A6, n6, h7, hs, ht⟩ := h.2.2.2 _ hix
    rw [prvR, if_pos hi, prvV, if_pos hi]
    cases ho : (V (ix t s)).p
    · rw [if_neg (by decide), if_neg (by decide)]
      have h2' := h7.c2
      rw [ho] at h2'
      rw [hl]
      refine (prove_shut g cs t s (7 * ix t s) answer A3 A4 xs.length c3 c4 w h1 h2 h3 h4 ix_o h.1 h2' (by omega)).mono ?_
      rintro e w' ⟨rfl, hb⟩
      exact ⟨rfl, Out.of_below h hb⟩
    · rw [if_pos rfl, if_pos rfl]
      have h7o := h7
      rw [ho] at h7o
      have hrow : ∀ b, (Value.slice A6 (V (ix t s)).tk.length n6).ownBlock = some b → col b = ix t s + 2 := fun b e => ht.1 b e
      refine (prove_open g cs _ t s (7 * ix t s) answer _ _ _ A5 n5 _ _ _ A6 n6 (fun k => col k = ix t s + 2) xs A4 c4 ys A3 c3 pf R w hi ix_o h.1 h7o (Kd.R_reads' hs).2.1
        (fun W' hk => (Kd.R_reads' (Kd.R_keep hs hk (fun k h1 e => by rw [e] at h1; omega))).2.2) hx (fun W' hk => hy W' _ hk hrow) hl hlen (by have := htk hi; omega) ht (fun k h1 e => by rw [e] at h1; omega) (hp hi ho) hmiss (hhit hi)).mono ?_
      rintro e w' ⟨rfl, h0, hk, hD⟩
      refine ⟨rfl, below_row h h0 hk hrow, ?_, keep0 h hk hrow⟩
      have hsp : Kd.R k42 42 w' 0 (fun k => colN col w.heap.size (ix t s + 2) k = 0) (.slice none 0 0) [] := Kd.R_nil _ _ _ _ _
      rcases hD with ⟨hne, hkn, hB⟩ | ⟨he, v, hB, hr⟩
      · refine ⟨clB cs (7 * ix t s), colN col w.heap.size (ix t s + 2), h.upd hk hrow hB (by unfold clB; simp; exact h.2.1) hix (fun i hi' => clB_far hi') ⟨none, 0, A6, n6, ?_, hsp, ?_⟩, fun xs U hx => hx.keep hg hk hrow, fun k hk' => colN_old hk'⟩
        · rw [if_neg hne]; exact clB_S7 h7
        · rw [if_neg hne]
          exact Kd.R_mono (Kd.R_keep (Kd.R_bound ht) hkn (fun k h1 e => by rw [e] at h1; omega)) (fun k h1 => by show colN col w.heap.size (ix t s + 2) k = ix t s + 2; rw [colN_old h1.2.2.1]; exact h1.1)
      · obtain ⟨B6, m6, rfl⟩ := Kd.R_slice hr
        refine ⟨(clB cs (7 * ix t s)).setIfInBounds (7 * ix t s + 6) (.slice B6 ((V (ix t s)).tk ++ [R.2]).length m6), colN col w.heap.size (ix t s + 2), h.upd hk hrow hB (by unfold clB; simp; exact h.2.1) hix (fun i hi' => (far7 hi' (by omega)).trans (clB_far hi')) ⟨none, 0, B6, m6, ?_, hsp, ?_⟩, fun xs U hx => hx.keep hg hk hrow, fun k hk' => colN_old hk'⟩
        · rw [if_pos he]; exact (clB_S7 h7).set6 _
        · rw [if_pos he]
          refine Kd.R_mono hr (fun k hk' => ?_)
          show colN col w.heap.size (ix t s + 2) k = ix t s + 2
          by_cases e : k < w.heap.size
          · rw [colN_old e]; rcases hk' with h_ | h_
            · exact h_
            · omega
          · unfold colN; rw [if_neg e]
  · rw [prvR, if_neg hi, prvV, if_neg hi, hl]
    refine (prove_noslot g t s answer A3 A4 xs.length c3 c4 w hi).mono ?_
    rintro e w' ⟨rfl, hb⟩
    exact ⟨rfl, Out.of_below h hb⟩

end Go.Proofs.Ytgkhdpplmdkkaaa.Ds
/- The reference's desk, told by what its sessions have. -/
namespace Go.Proofs.Ytgkhdpplmdkkaaa.Ds
open Go.RowKit Go.Proofs.YtgkhdpplmdkkaaaH.HDeskPlays Go.Proofs.YtgkhdpplmdkkaaaW.PrintWords Go.Proofs.YtgkhdpplmdkkaaaW.PrintLast Go.Proofs.YtgkhdpplmdkkaaaW.PrintMore Go.Proofs.Ytgkhdpplmdkkaaa.Dp

theorem XI.recol {w : World} {xs : Array Value} {col : Nat → Nat} {U : Nat → Ses} {n c : Nat} (h : XI w xs col U) (hn : w.heap.size ≤ n) : XI w xs (colN col n c) U :=
  ⟨h.1, h.2.1, fun j hj => (h.2.2 j hj).step (fun _ _ _ => rfl) (fun k h1 h2 => by show colN _ _ _ k = 0; rw [colN_old (by omega)]; exact h1) (fun k h1 h2 => by show colN _ _ _ k = 0; rw [colN_old (by omega)]; exact h1)⟩
/-- nothing of the reference's desk has changed -/
theorem XI.still {w w' : World} {xs : Array Value} {col : Nat → Nat} {U : Nat → Ses} (h : XI w xs col U) (hb : Below w.heap.size w w') : XI w' xs (colN col w.heap.size 0) U := (h.recol (Nat.le_refl _)).below hb
/-- whole numbers, strings alone have changed -/
theorem XI.flat {w w' : World} {xs ys : Array Value} {col : Nat → Nat} {U : Nat → Ses} {j : Nat} {x : Ses} {A5 A6 : Option Addr} {n5 n6 : Nat} (h : XI w xs col U) (hb : Below w.heap.size w w') (hz : ys.size = 224) (h1 : ys.all (·.oneCell') = true)
    (hc : ∀ i, ¬ (7 * j ≤ i ∧ i < 7 * j + 7) → ys[i]? = xs[i]?) (h7 : S7 ys (7 * j) x.l x.r x.p x.su x.no (.slice A5 x.sl.length n5) (.slice A6 x.tk.length n6))
    (hs : Kd.R k42 42 w 0 (fun k => col k = 0) (.slice A5 x.sl.length n5) x.sl) (ht : Kd.R k74 74 w 0 (fun k => col k = 0) (.slice A6 x.tk.length n6) x.tk) : XI w' ys (colN col w.heap.size 0) (setS U j x) :=
  h.upd hb hz h1 hc ⟨A5, n5, A6, n6, h7, Kd.R_mono (Kd.R_below (Kd.R_bound hs) hb) (fun k h1 => by show colN _ _ _ k = 0; rw [colN_old h1.2.2.1]; exact h1.1), Kd.R_mono (Kd.R_below (Kd.R_bound ht) hb) (fun k h1 => by show colN _ _ _ k = 0; rw [colN_old h1.2.2.1]; exact h1.1)⟩

theorem x_look {w0 w : World} {xs : Array Value} {col : Nat → Nat} {U : Nat → Ses} (h : XI w0 xs col U) (t s q : Int) :
    Calls Try.prog 72 #[.agg xs, .int .i64 t, .int .i64 s, .int .i64 q] w fun e w' =>
      e = .returned (.tuple #[.int .i64 (lookV U t s q).1, .string (lookV U t s q).2.1, .int .i64 (lookV U t s q).2.2]) ∧ Below w.heap.size w w' := by
  by_cases hp : isP t s
  · obtain ⟨A5, n5, A6, n6, h7, _, _⟩ := h.2.2 _ (ix_lt hp)
    simp only [lookV, if_pos hp]
    exact rlook_yes xs t s q _ _ _ _ _ A5 A6 _ n5 _ n6 _ w hp ix_o h7
  · simp only [lookV, if_neg hp]
    exact rlook_no xs t s q w hp
theorem x_answer {w : World} {xs : Array Value} {col : Nat → Nat} {U : Nat → Ses} (h : XI w xs col U) (t s q : Int) (rp : ByteArray) :
    Calls Try.prog 73 #[.agg xs, .int .i64 t, .int .i64 s, .int .i64 q, .string rp] w fun e w' =>
      ∃ ys, e = .returned (.tuple #[.agg ys, .int .i64 (ansE U t s q rp)]) ∧ Below w.heap.size w w' ∧ XI w' ys (colN col w.heap.size 0) (ansV U t s q rp) := by
  by_cases hp : isP t s
  · obtain ⟨A5, n5, A6, n6, h7, hs, ht⟩ := h.2.2 _ (ix_lt hp)
    by_cases he : anE (U (ix t s)).l q rp = 0
    · have ea : anA xs (7 * ix t s) (U (ix t s)).l q rp = (xs.setIfInBounds (7 * ix t s) (.int .i64 q)).setIfInBounds (7 * ix t s + 1) (.string rp) := if_pos he
      have hz : (anA xs (7 * ix t s) (U (ix t s)).l q rp).size = 224 := by rw [ea]; simp; exact h.1
      have h1 : (anA xs (7 * ix t s) (U (ix t s)).l q rp).all (·.oneCell') = true := by rw [ea]; exact one_set (one_set h.2.1 _ _ rfl) _ _ rfl
      refine (ranswer_yes xs t s q (U (ix t s)).l rp _ _ _ _ A5 A6 _ n5 _ n6 _ w hp ix_o h7 h.1 h.2.1 h1 hz).mono ?_
      rintro e w' ⟨rfl, hb⟩
      rw [ansE, if_pos hp, ansV, if_pos ⟨hp, he⟩]
      refine ⟨_, rfl, hb, ?_⟩
      rw [ea] at hz h1 ⊢
      exact XI.flat h hb hz h1 (fun i hi => (far7 hi (by omega)).trans (far7 hi (by omega))) ((h7.set0 q).set1 rp) hs ht
    · have ea : anA xs (7 * ix t s) (U (ix t s)).l q rp = xs := anA_no he
      refine (ranswer_yes xs t s q (U (ix t s)).l rp _ _ _ _ A5 A6 _ n5 _ n6 _ w hp ix_o h7 h.1 h.2.1 (by rw [ea]; exact h.2.1) (by rw [ea]; exact h.1)).mono ?_
      rintro e w' ⟨rfl, hb⟩
      rw [ansE, if_pos hp, ansV, if_neg (fun h_ => he h_.2), ea]
      exact ⟨_, rfl, hb, h.still hb⟩
  · refine (ranswer_no xs t s q rp w hp h.1 h.2.1).mono ?_
    rintro e w' ⟨rfl, hb⟩
    rw [ansE, if_neg hp, ansV, if_neg (fun h_ => hp h_.1)]
    exact ⟨_, rfl, hb, h.still hb⟩
theorem x_restore {w : World} {xs : Array Value} {col : Nat → Nat} {U : Nat → Ses} (h : XI w xs col U) (t s q : Int) :
    Calls Try.prog 78 #[.agg xs, .int .i64 t, .int .i64 s, .int .i64 q] w fun e w' =>
      ∃ ys, e = .returned (.tuple #[.agg ys, .int .i64 (resE U t s q)]) ∧ Below w.heap.size w w' ∧ XI w' ys (colN col w.heap.size 0) (resV U t s q) := by
  by_cases hp : isP t s
  · obtain ⟨A5, n5, A6, n6, h7, hs, ht⟩ := h.2.2 _ (ix_lt hp)
    refine (rrestore_yes xs t s q (7 * ix t s) _ _ _ _ _ A5 A6 _ n5 _ n6 w hp ix_o h7 h.1 h.2.1).mono ?_
    rintro e w' ⟨rfl, hb⟩
    rw [resE, if_pos hp]
    refine ⟨_, rfl, hb, ?_⟩
    by_cases he : reE q (U (ix t s)).l (U (ix t s)).p (U (ix t s)).tk.length = 0
    · rw [reA, if_pos he, resV, if_pos ⟨hp, he⟩]
      exact XI.flat h hb (by simp; exact h.1) (one_set h.2.1 _ _ rfl) (fun i hi => far7 hi (by omega)) (h7.set0 q) hs ht
    · rw [reA, if_neg he, resV, if_neg (fun h_ => he h_.2)]
      exact h.still hb
  · refine (rrestore_no xs t s q w hp h.1 h.2.1).mono ?_
    rintro e w' ⟨rfl, hb⟩
    rw [resE, if_neg hp, resV, if_neg (fun h_ => hp h_.1)]
    exact ⟨_, rfl, hb, h.still hb⟩
theorem x_claim {w : World} {xs : Array Value} {col : Nat → Nat} {U : Nat → Ses} (h : XI w xs col U) (t s : Int) (sum draw no : ByteArray) (sl : List S42) (hD : clmP t s sum → ∃ k, strongroomref27_Draw.f k sum draw = some (sum, no, sl)) :
    Calls Try.prog 74 #[.agg xs, .int .i64 t, .int .i64 s, .string sum, .string draw] w fun e w' =>
      ∃ ys v, e = .returned (.tuple #[.agg ys, .agg #[.string (clmR t s sum no sl).1, .string (clmR t s sum no sl).2.1, v], .int .i64 (clmR t s sum no sl).2.2.2]) ∧ Below w.heap.size w w' ∧ XI w' ys (colN col w.heap.size 0) (clmV U t s sum no sl) ∧ Kd.R k42 42 w' w.heap.size (fun _ => True) v (clmR t s sum no sl).2.2.1 := by
  by_cases hc : clmP t s sum
  · obtain ⟨k, hdr⟩ := hD hc
    obtain ⟨A5, n5, A6, n6, h7, hs, ht⟩ := h.2.2 _ (ix_lt hc.1)
    refine (rclaim_yes xs t s sum draw (7 * ix t s) k _ _ _ _ _ _ _ sum no sl w hc.1 ix_o hc.2.1 hc.2.2 hdr h7 h.1 h.2.1).mono ?_
    rintro e w' ⟨v, rfl, hb, hr⟩
    obtain ⟨B5, m5, rfl⟩ := Kd.R_slice hr
    rw [clmR, if_pos hc, clmV, if_pos hc]
    refine ⟨_, _, rfl, hb, ?_, hr⟩
    refine h.upd hb (by unfold clA; simp; exact h.1) (by unfold clA; exact one_set (one_set (one_set (one_set h.2.1 _ _ rfl) _ _ rfl) _ _ rfl) _ _ rfl) (fun i hi => ?_) ⟨B5, m5, A6, n6, (((h7.set2 true).set3 sum).set4 no).set5 _, ?_, ?_⟩
    · unfold clA
      rw [far7 hi (by omega), far7 hi (by omega), far7 hi (by omega), far7 hi (by omega)]
    · exact Kd.R_lower (Kd.R_mono (Kd.R_bound hr) (fun k hk => by have := hk.2.1; show colN col w.heap.size 0 k = 0; unfold colN; rw [if_neg (by omega)])) (Nat.zero_le _)
    · exact Kd.R_mono (Kd.R_below (Kd.R_bound ht) hb) (fun k h1 => by show colN _ _ _ k = 0; rw [colN_old h1.2.2.1]; exact h1.1)
  · refine (rclaim_no xs t s sum draw w ?_ h.1 h.2.1).mono ?_
    · by_cases hp : isP t s
      · exact .inr ⟨hp, by have : ¬ (1 ≤ sum.size ∧ sum.size ≤ 32) := fun h_ => hc ⟨hp, h_⟩
                           omega⟩
      · exact .inl hp
    · rintro e w' ⟨rfl, hb⟩
      rw [clmR, if_neg hc, clmV, if_neg hc]
      exact ⟨_, _, rfl, hb, h.still hb, Kd.R_nil _ _ _ _ _⟩

/-- both desks, behind a step -/
def Fin (w w' : World) (g : Nat) (V' U' : Nat → Ses) (ys : Array Value) : Prop := Below g w w' ∧ ∃ cs' col', DI w' g cs' col' V' ∧ XI w' ys col' U'
theorem DI.still {w w' : World} {g : Nat} {cs : Array Value} {col : Nat → Nat} {V : Nat → Ses} (h : DI w g cs col V) (hb : Below w.heap.size w w') : DI w' g cs (colN col w.heap.size 0) V := (h.recol (Nat.le_refl _)).below hb

end Go.Proofs.Ytgkhdpplmdkkaaa.Ds
