/- The plain law of the desk's steps: what is drawn, copied, numbered, proved; which sessions may be. -/
import Derived.Test.YtgkhdpplmdkkaaaEg
import Derived.Test.YtgkhdpplmdkkaaaHDeskPlaysx3
import Derived.Test.YtgkhdpplmdkkaaaHDeskPlaysx5
import Derived.Test.YtgkhdpplmdkkaaaHDeskPlaysx6
import Derived.Test.YtgkhdpplmdkkaaaHDeskPlaysx7
import Derived.Laws.BitsAllLaws
set_option linter.unusedVariables false
set_option linter.unusedSimpArgs false
namespace Go.Proofs.Ytgkhdpplmdkkaaa.PureS
open Go.RowKit Go.Proofs.YtgkhdpplmdkkaaaH.HDeskPlays Go.Proofs.YtgkhdpplmdkkaaaW.PrintWords Go.Proofs.YtgkhdpplmdkkaaaW.PrintLast Go.Proofs.YtgkhdpplmdkkaaaW.PrintMore Go.Proofs.Ytgkhdpplmdkkaaa.Dp Go.Proofs.Ytgkhdpplmdkkaaa.Ds

abbrev I (b : UInt8) : Int := (b.toNat : Int)
def putL (n : Nat) : List UInt8 := if n < 128 then [UInt8.ofNat n] else UInt8.ofNat (n % 128 + 128) :: putL (n / 128)
termination_by n
decreasing_by omega
theorem putL_small {n : Nat} (h : n < 128) : putL n = [UInt8.ofNat n] := by rw [putL, if_pos h]
theorem putL_big {n : Nat} (h : ¬ n < 128) : putL n = UInt8.ofNat (n % 128 + 128) :: putL (n / 128) := by rw [putL, if_neg h]
theorem putL_len : ∀ (k n : Nat), n < 128 ^ (k + 1) → (putL n).length ≤ k + 1
  | 0, n, h => by rw [putL_small (by simpa using h)]; simp
  | k + 1, n, h => by
    by_cases hn : n < 128
    · rw [putL_small hn]; simp
    · rw [putL_big hn, List.length_cons]
      have := putL_len k (n / 128) (by rw [Nat.div_lt_iff_lt_mul (by decide), ← Nat.pow_succ]; exact h)
      omega
theorem putL_ten {n : Nat} (h : n < 18446744073709551616) : (putL n).length ≤ 10 := putL_len 9 n (Nat.lt_trans h (by decide))
theorem or128 (n : Nat) : Go.bits .or .u8 ((n : Int) % 256) 128 = I (UInt8.ofNat (n % 128 + 128)) := by
  have h : ∀ m, m < 256 → Go.bits .or .u8 ((m : Nat) : Int) 128 = I (UInt8.ofNat (m % 128 + 128)) := by decide +kernel
  have h2 := h (n % 256) (Nat.mod_lt _ (by decide))
  rw [show ((n : Int) % 256) = ((n % 256 : Nat) : Int) by omega, h2, Nat.mod_mod_of_dvd n (by decide)]
theorem I_ofNat {n : Nat} (h : n < 256) : I (UInt8.ofNat n) = (n : Int) := by
  simp only [I, UInt8.toNat_ofNat']; omega
theorem mk_app (a b : List UInt8) : (⟨a.toArray⟩ : ByteArray) ++ ⟨b.toArray⟩ = ⟨(a ++ b).toArray⟩ := by
  apply ByteArray.ext
  simp [ByteArray.data_append]
theorem mk_size (a : List UInt8) : (⟨a.toArray⟩ : ByteArray).size = a.length := by simp [ByteArray.size]
theorem nums_mk (l : List UInt8) : strOfNums (l.map I) = ⟨l.toArray⟩ := by
  simp [strOfNums, I, Function.comp_def]
theorem bytes_mk (l : List UInt8) : bytesOf ⟨l.toArray⟩ = l.map I := by simp [bytesOf]
theorem u64_nat {n : Nat} (h : n < 18446744073709551616) : IntKind.u64.wrap (n : Int) = (n : Int) := by
  simp [IntKind.wrap, IntKind.bits, IntKind.signed]; omega
theorem ifpos {α : Type} {c : Prop} [Decidable c] {f g : Nat → Option α} {r : α} (h : c) (k : Ev f r) : Ev (fun n => if c then f n else g n) r := Ev.congr (fun _ => if_pos h) k
theorem ifneg {α : Type} {c : Prop} [Decidable c] {f g : Nat → Option α} {r : α} (h : ¬ c) (k : Ev g r) : Ev (fun n => if c then f n else g n) r := Ev.congr (fun _ => if_neg h) k
theorem mk_all (a : ByteArray) : ∃ l : List UInt8, a = ⟨l.toArray⟩ ∧ l.length = a.size := ⟨a.data.toList, rfl, rfl⟩
theorem lay_ev : ∀ (n : Nat) (l : List UInt8), l.length + (putL n).length < 140737488355328 → Ev (fun k => num_lay.l0 k (l.map I) (n : Int)) ((l ++ putL n).map I) := by
  intro n
  induction n using Nat.strongRecOn with
  | ind n ih =>
    intro l hl
    by_cases hn : n < 128
    · rw [putL_small hn] at hl ⊢
      refine Ev.step (f := fun _ => some ((l ++ [UInt8.ofNat n]).map I)) (fun k => ?_) (Ev.now _)
      simp only [num_lay.l0]
      rw [if_neg (by omega), if_pos (by simp at hl ⊢; omega)]
      simp only [List.map_append, List.map_cons, List.map_nil, I_ofNat (show n < 256 by omega)]
      rw [show (n : Int) % 256 = (n : Int) by omega]
    · rw [putL_big hn] at hl ⊢
      have h2 := ih (n / 128) (by omega) (l ++ [UInt8.ofNat (n % 128 + 128)]) (by simp at hl ⊢; omega)
      rw [show l ++ UInt8.ofNat (n % 128 + 128) :: putL (n / 128) = l ++ [UInt8.ofNat (n % 128 + 128)] ++ putL (n / 128) by simp]
      refine Ev.step (fun k => ?_) h2
      simp only [num_lay.l0]
      rw [if_pos (by omega), if_pos (by simp at hl ⊢; omega), or128, show (n : Int) / 128 = ((n / 128 : Nat) : Int) by omega]
      simp
theorem own_is (l : List Int) (h : l.length < 140737488355328) : num_own.f l = some l := by
  simp [num_own.f, h]
theorem put_ev (l : List UInt8) (n : Nat) (h : l.length + (putL n).length < 140737488355328) : Ev (fun k => num_Put.f k (l.map I) (n : Int)) ((l ++ putL n).map I) := by
  refine Ev.congr (f := fun k => (num_lay.l0 k (l.map I) (n : Int)).bind fun t => some t) (fun k => ?_) (Ev.bind (lay_ev n l h) (Ev.now _))
  simp only [num_Put.f, own_is _ (show (l.map I).length < 140737488355328 by simp; omega), Option.bind_some, num_lay.f]
theorem putText_ev (l s : List UInt8) (h : l.length + s.length + 10 < 140737488355328) (hs : s.length < 18446744073709551616) : Ev (fun k => num_PutText.f k (l.map I) ⟨s.toArray⟩) ((l ++ putL s.length ++ s).map I) := by
  have h10 := putL_ten hs
  refine Ev.congr (f := fun k => (num_lay.l0 k (l.map I) ((s.length : Nat) : Int)).bind fun t => if t.length + s.length < 140737488355328 then some (t ++ s.map I) else none) (fun k => ?_) (Ev.bind (lay_ev s.length l (by omega)) ?_)
  · simp only [num_PutText.f, own_is _ (show (l.map I).length < 140737488355328 by simp; omega), Option.bind_some, num_lay.f, mk_size, bytes_mk, u64_nat hs]
  · rw [if_pos (by simp; omega)]
    rw [← List.map_append]
    exact Ev.now _
theorem rput_ev : ∀ (n : Nat), n < 18446744073709551616 → Ev (fun k => strongroomref01_Put.f k (n : Int)) ⟨(putL n).toArray⟩ := by
  intro n
  induction n using Nat.strongRecOn with
  | ind n ih =>
    intro hb
    by_cases hn : n < 128
    · rw [putL_small hn]
      refine Ev.step (f := fun _ => some (⟨[UInt8.ofNat n].toArray⟩ : ByteArray)) (fun k => ?_) (Ev.now _)
      simp only [strongroomref01_Put.f]
      rw [if_pos (by omega), ← nums_mk]
      simp only [List.map_cons, List.map_nil, I_ofNat (show n < 256 by omega)]
      rw [show (n : Int) % 256 = (n : Int) by omega]
    · have h2 := ih (n / 128) (by omega) (by omega)
      have hl := putL_ten (n := n / 128) (by omega)
      rw [putL_big hn]
      refine Ev.step (f := fun k => (strongroomref01_Put.f k ((n / 128 : Nat) : Int)).bind fun t => if (⟨[UInt8.ofNat (n % 128 + 128)].toArray⟩ : ByteArray).size + t.size ≤ 9223372036854775807 then some (⟨[UInt8.ofNat (n % 128 + 128)].toArray⟩ ++ t) else none) (fun k => ?_) (Ev.bind h2 ?_)
      · simp only [strongroomref01_Put.f]
        rw [if_neg (by omega), ← nums_mk]
        have e1 : Int.tmod (n : Int) 128 = ((n % 128 : Nat) : Int) := by rw [Int.tmod_eq_emod_of_nonneg (by omega)]; omega
        have e2 : Int.tdiv (n : Int) 128 = ((n / 128 : Nat) : Int) := by rw [Int.tdiv_eq_ediv_of_nonneg (by omega)]; omega
        rw [e1, e2, u64_nat (show n / 128 < 18446744073709551616 by omega), show ((n % 128 : Nat) : Int) + 128 = ((n % 128 + 128 : Nat) : Int) by omega, u64_nat (by omega)]
        simp only [Option.bind_some, List.map_cons, List.map_nil, I_ofNat (show n % 128 + 128 < 256 by omega)]
        rw [show ((n % 128 + 128 : Nat) : Int) % 256 = ((n % 128 + 128 : Nat) : Int) by omega]
      · rw [if_pos (by rw [mk_size, mk_size]; simp; omega), mk_app]
        exact Ev.now _
theorem rtext_ev (s : List UInt8) (hs : s.length < 140737488355328) : Ev (fun k => strongroomref01_Text.f k ⟨s.toArray⟩) ⟨(putL s.length ++ s).toArray⟩ := by
  have h10 := putL_ten (n := s.length) (by omega)
  refine Ev.congr (f := fun k => (strongroomref01_Put.f k ((s.length : Nat) : Int)).bind fun t => if t.size + (⟨s.toArray⟩ : ByteArray).size ≤ 9223372036854775807 then some (t ++ ⟨s.toArray⟩) else none) (fun k => ?_) (Ev.bind (rput_ev s.length (by omega)) ?_)
  · simp only [strongroomref01_Text.f, mk_size, u64_nat (show s.length < 18446744073709551616 by omega)]
  · rw [if_pos (by rw [mk_size, mk_size]; omega), mk_app]
    exact Ev.now _
/-- bytes of a content from a place on -/
def pieceL (s : List UInt8) (from_ size : Nat) : List UInt8 := (List.range size).map fun i => s.getD ((from_ + i) % s.length) 0
theorem pieceL_len (s : List UInt8) (f n : Nat) : (pieceL s f n).length = n := by simp [pieceL]
theorem pieceL_succ (s : List UInt8) (f n : Nat) : pieceL s f (n + 1) = pieceL s f n ++ [s.getD ((f + n) % s.length) 0] := by
  simp [pieceL, List.range_succ]
theorem bt_mk (s : List UInt8) (i : Nat) (h : i < s.length) : bt ⟨s.toArray⟩ (i : Int) = I (s.getD i 0) := by
  have hs : i < (⟨s.toArray⟩ : ByteArray).size := by rw [mk_size]; exact h
  simp only [bt, Int.toNat_natCast, hs, dite_true, I]
  simp [List.getD_eq_getElem?_getD, h]
  rfl
theorem piece_loop (s : List UInt8) (f n : Nat) (hs : 0 < s.length) (hf : f < 1000) (hn : n ≤ 128) (hsl : s.length < 140737488355328) : ∀ d i, i + d = n → Ev (fun k => desk_piece.l0 k ⟨s.toArray⟩ ((pieceL s f i).map I) (f : Int) (n : Int) (i : Int)) ⟨(pieceL s f n).toArray⟩ := by
  intro d
  induction d with
  | zero =>
    intro i hi
    obtain rfl : i = n := by omega
    refine Ev.step (f := fun _ => some (⟨(pieceL s f i).toArray⟩ : ByteArray)) (fun k => ?_) (Ev.now _)
    simp only [desk_piece.l0]
    rw [if_neg (by omega), nums_mk]
  | succ d ih =>
    intro i hi
    refine Ev.step (fun k => ?_) (ih (i + 1) (by omega))
    have hm : (f + i) % s.length < s.length := Nat.mod_lt _ hs
    have e0 : wrap64 ((f : Int) + (i : Int)) = ((f + i : Nat) : Int) := by unfold wrap64; omega
    have e1 : Int.tmod ((f + i : Nat) : Int) ((s.length : Nat) : Int) = (((f + i) % s.length : Nat) : Int) := by
      rw [Int.tmod_eq_emod_of_nonneg (by omega)]; rfl
    simp only [desk_piece.l0, mk_size]
    rw [if_pos (by omega), if_neg (by omega), e0, e1, if_pos (by omega), if_pos (by omega), if_pos (by rw [List.length_map, pieceL_len]; omega), bt_mk _ _ hm]
    rw [show wrap64 ((i : Int) + 1) = ((i + 1 : Nat) : Int) by unfold wrap64; omega, pieceL_succ, List.map_append]
    rfl
theorem ite_id {α : Type} (c : Prop) [Decidable c] (a : α) : (if c then a else a) = a := by split <;> rfl
theorem pieceL_mod (s : List UInt8) (f n : Nat) : pieceL s (f % s.length) n = pieceL s f n := by
  simp [pieceL, Nat.mod_add_mod]
theorem toList_nil (s : List UInt8) : (⟨s.toArray⟩ : ByteArray).toList = s := by
  rw [ByteArray.toList_eq]
theorem piece_ev (s : List UInt8) (f n : Nat) (hf : f < 128) (hn : n ≤ 64) (hsl : s.length < 140737488355328) : Ev (fun k => desk_piece.f k ⟨s.toArray⟩ (f : Int) (n : Int)) ⟨(if s = [] then [] else pieceL s f n).toArray⟩ := by
  by_cases hs : s = []
  · subst hs
    refine Ev.congr (f := fun _ => some (⟨#[]⟩ : ByteArray)) (fun k => ?_) (Ev.now _)
    simp only [desk_piece.f, toList_nil]
    rw [if_pos trivial]
  · have h0 : 0 < s.length := List.length_pos_iff.2 hs
    rw [if_neg hs]
    have := piece_loop s (f % s.length) n h0 (Nat.lt_of_le_of_lt (Nat.mod_le _ _) (by omega)) (by omega) hsl n 0 (by omega)
    rw [pieceL_mod s f n] at this
    refine Ev.congr (fun k => ?_) this
    simp only [desk_piece.f, toList_nil, mk_size]
    rw [if_neg hs, if_neg (by omega)]
    have e1 : mx (f : Int) 0 = (f : Int) := by unfold mx; omega
    have e2 : mn (mx (n : Int) 0) 128 = (n : Int) := by unfold mx mn; split <;> split <;> omega
    rw [e1, e2]
    rfl
theorem cut_one (s : List UInt8) (a : Nat) (h : a < s.length) : (⟨s.toArray⟩ : ByteArray).extract a (a + 1) = ⟨[s.getD a 0].toArray⟩ := by
  apply ByteArray.ext
  simp [ByteArray.data_extract, List.getD_eq_getElem?_getD, h]
  rw [List.drop_eq_getElem_cons h, List.take_succ_cons, List.take_zero]
theorem rpiece_loop (s : List UInt8) (f n : Nat) (hs : 0 < s.length) (hf : f < 128) (hn : n ≤ 64) (hsl : s.length < 140737488355328) : ∀ d i, i + d = f + n → Ev (fun k => strongroomref27_piece.l0 k ⟨s.toArray⟩ ⟨(pieceL s f (i - f)).toArray⟩ ((i % s.length : Nat) : Int) (i : Int) (f : Int) (n : Int)) ⟨(pieceL s f n).toArray⟩ := by
  intro d
  induction d with
  | zero =>
    intro i hi
    refine Ev.step (f := fun _ => some (⟨(pieceL s f n).toArray⟩ : ByteArray)) (fun k => ?_) (Ev.now _)
    simp only [strongroomref27_piece.l0]
    rw [if_neg (by unfold wrap64; omega), show i - f = n by omega]
  | succ d ih =>
    intro i hi
    have hm : i % s.length < s.length := Nat.mod_lt _ hs
    have hnext : (if wrap64 (((i % s.length : Nat) : Int) + 1) = (s.length : Int) then (0 : Int) else wrap64 (((i % s.length : Nat) : Int) + 1)) = (((i + 1) % s.length : Nat) : Int) := by
      have e : wrap64 (((i % s.length : Nat) : Int) + 1) = ((i % s.length + 1 : Nat) : Int) := by unfold wrap64; omega
      rw [e]
      by_cases hq : i % s.length + 1 = s.length
      · rw [if_pos (by omega), ← Nat.mod_add_mod, hq, Nat.mod_self]; rfl
      · rw [if_neg (by omega), ← Nat.mod_add_mod, Nat.mod_eq_of_lt (by omega : i % s.length + 1 < s.length)]
    refine Ev.step (fun k => ?_) (ih (i + 1) (by omega))
    have e : wrap64 (((i % s.length : Nat) : Int) + 1) = ((i % s.length + 1 : Nat) : Int) := by unfold wrap64; omega
    have e3 : wrap64 ((i : Int) + 1) = ((i + 1 : Nat) : Int) := by unfold wrap64; omega
    rw [← hnext]
    simp only [strongroomref27_piece.l0, mk_size]
    rw [if_pos (by unfold wrap64; omega)]
    by_cases hi2 : f ≤ i
    · have ec : (⟨s.toArray⟩ : ByteArray).extract (((i % s.length : Nat) : Int)).toNat ((wrap64 (((i % s.length : Nat) : Int) + 1))).toNat = ⟨[s.getD (i % s.length) 0].toArray⟩ := by
        rw [e]; exact cut_one s _ hm
      have ep : (⟨(pieceL s f (i - f)).toArray⟩ : ByteArray) ++ ⟨[s.getD (i % s.length) 0].toArray⟩ = ⟨(pieceL s f (i + 1 - f)).toArray⟩ := by
        rw [mk_app, show i + 1 - f = (i - f) + 1 by omega, pieceL_succ, show f + (i - f) = i by omega]
      rw [if_pos (by omega), if_pos (by omega), if_pos (by rw [e]; omega), if_pos (by rw [e]; omega), ec, ep, e3, if_pos (by rw [mk_size, pieceL_len]; simp only [List.length_singleton]; omega)]
      split <;> rfl
    · rw [if_neg (by omega), e3, show i + 1 - f = i - f by omega]
      split <;> rfl
theorem rpiece_ev (s : List UInt8) (f n : Nat) (hf : f < 128) (hn : n ≤ 64) (hsl : s.length < 140737488355328) : Ev (fun k => strongroomref27_piece.f k ⟨s.toArray⟩ (f : Int) (n : Int)) ⟨(if s = [] then [] else pieceL s f n).toArray⟩ := by
  by_cases hs : s = []
  · subst hs
    refine Ev.congr (f := fun _ => some (⟨#[]⟩ : ByteArray)) (fun k => ?_) (Ev.now _)
    simp only [strongroomref27_piece.f, toList_nil]
    rw [if_pos trivial]
  · have h0 : 0 < s.length := List.length_pos_iff.2 hs
    rw [if_neg hs]
    have := rpiece_loop s f n h0 hf hn hsl (f + n) 0 (by omega)
    refine Ev.congr (fun k => ?_) this
    simp only [strongroomref27_piece.f, toList_nil]
    rw [if_neg hs]
    simp [pieceL]

def spanN (D : List UInt8) (i : Nat) : Nat × Nat := ((D.getD (12 + 2 * i) 0).toNat % 128, (D.getD (13 + 2 * i) 0).toNat % 64 + 1)
def spanS (p : Nat × Nat) : S42 := ⟨(p.1 : Int), (p.2 : Int)⟩
def spans (D : List UInt8) (n : Nat) : List (Nat × Nat) := (List.range n).map (spanN D)
theorem spans_succ (D : List UInt8) (n : Nat) : spans D (n + 1) = spans D n ++ [spanN D n] := by simp [spans, List.range_succ]
theorem wrap_id {n : Int} (h0 : 0 ≤ n) (h1 : n < 1000000) : wrap64 n = n := by unfold wrap64; omega
theorem span_f (b : UInt8) : wrap64 (Int.tmod (I b) 128) = ((b.toNat % 128 : Nat) : Int) := by
  rw [Int.tmod_eq_emod_of_nonneg (by simp)]
  show wrap64 (((b.toNat : Nat) : Int) % 128) = _
  generalize b.toNat = x
  rw [wrap_id (by omega) (by omega)]; omega
theorem span_s (b : UInt8) : wrap64 (wrap64 (Int.tmod (I b) 64) + 1) = ((b.toNat % 64 + 1 : Nat) : Int) := by
  rw [Int.tmod_eq_emod_of_nonneg (by simp)]
  show wrap64 (wrap64 (((b.toNat : Nat) : Int) % 64) + 1) = _
  generalize b.toNat = x
  rw [wrap_id (n := (x : Int) % 64) (by omega) (by omega), wrap_id (by omega) (by omega)]; omega
theorem span_rf (b : UInt8) : Int.tmod (I b) 128 = ((b.toNat % 128 : Nat) : Int) := by
  rw [Int.tmod_eq_emod_of_nonneg (by simp)]
  rfl
theorem span_rs (b : UInt8) : wrap64 (Int.tmod (I b) 64 + 1) = ((b.toNat % 64 + 1 : Nat) : Int) := by
  rw [Int.tmod_eq_emod_of_nonneg (by simp)]
  show wrap64 (((b.toNat : Nat) : Int) % 64 + 1) = _
  generalize b.toNat = x
  rw [wrap_id (by omega) (by omega)]; omega
theorem byte_w (b : UInt8) : wrap64 (I b) = I b := by
  have := b.toNat_lt
  simp only [I]
  generalize b.toNat = x at *
  rw [wrap_id (by omega) (by omega)]
theorem draw_loop (D : List UInt8) (hD : D.length = 20) (s n : ByteArray) : ∀ d i : Nat, i + d = 4 → Ev (fun k => desk_Draw.l0 k ⟨D.toArray⟩ (i : Int) s n ((spans D i).map spanS)) (s, n, (spans D 4).map spanS) := by
  intro d
  induction d with
  | zero =>
    intro i hi
    obtain rfl : i = 4 := by omega
    refine Ev.step (f := fun _ => some (s, n, (spans D 4).map spanS)) (fun k => ?_) (Ev.now _)
    simp only [desk_Draw.l0]
    rw [if_neg (by omega)]
  | succ d ih =>
    intro i hi
    refine Ev.step (fun k => ?_) (ih (i + 1) (by omega))
    have e1 : wrap64 (12 + wrap64 (2 * (i : Int))) = ((12 + 2 * i : Nat) : Int) := by unfold wrap64; omega
    have e2 : wrap64 (((12 + 2 * i : Nat) : Int) + 1) = ((13 + 2 * i : Nat) : Int) := by unfold wrap64; omega
    have e3 : wrap64 ((i : Int) + 1) = ((i + 1 : Nat) : Int) := by unfold wrap64; omega
    simp only [desk_Draw.l0, mk_size, hD]
    rw [e1, e2, e3, if_pos (by omega), if_pos (by omega), if_pos (by omega), if_pos (by omega), if_pos (by omega), if_pos (by simp [spans]; omega), bt_mk _ _ (by omega), bt_mk _ _ (by omega), spans_succ, List.map_append]
    rw [span_f, span_s]
    simp only [List.map_cons, List.map_nil, spanS, spanN]
theorem rdraw_loop (D : List UInt8) (hD : D.length = 20) (s n : ByteArray) : ∀ d i : Nat, i + d = 4 → Ev (fun k => strongroomref27_Draw.l0 k ⟨D.toArray⟩ (i : Int) s n ((spans D i).map spanS)) (s, n, (spans D 4).map spanS) := by
  intro d
  induction d with
  | zero =>
    intro i hi
    obtain rfl : i = 4 := by omega
    refine Ev.step (f := fun _ => some (s, n, (spans D 4).map spanS)) (fun k => ?_) (Ev.now _)
    simp only [strongroomref27_Draw.l0]
    rw [if_neg (by omega)]
  | succ d ih =>
    intro i hi
    refine Ev.step (fun k => ?_) (ih (i + 1) (by omega))
    have e1 : wrap64 (12 + wrap64 (2 * (i : Int))) = ((12 + 2 * i : Nat) : Int) := by unfold wrap64; omega
    have e2 : wrap64 (13 + wrap64 (2 * (i : Int))) = ((13 + 2 * i : Nat) : Int) := by unfold wrap64; omega
    have e3 : wrap64 ((i : Int) + 1) = ((i + 1 : Nat) : Int) := by unfold wrap64; omega
    simp only [strongroomref27_Draw.l0, mk_size, hD]
    rw [e1, e2, e3, if_pos (by omega), if_pos (by omega), if_pos (by omega), if_pos (by omega), if_pos (by omega), if_pos (by simp [spans]; omega), bt_mk _ _ (by omega), bt_mk _ _ (by omega), spans_succ, List.map_append]
    rw [byte_w, byte_w, span_rf, span_rs]
    simp only [List.map_cons, List.map_nil, spanS, spanN]
theorem spans_ok (D : List UInt8) (n : Nat) : ∀ p ∈ spans D n, p.1 < 128 ∧ 1 ≤ p.2 ∧ p.2 ≤ 64 := by
  intro p hp
  simp only [spans, List.mem_map] at hp
  obtain ⟨i, _, rfl⟩ := hp
  simp only [spanN]
  omega
theorem spans_length (D : List UInt8) (n : Nat) : (spans D n).length = n := by simp [spans]
/-- what a draw is: the nonce and four spans -/
def drawD (draw : List UInt8) : List UInt8 := (dout draw [115, 116, 114, 111, 110, 103, 114, 111, 111, 109, 32, 99, 108, 97, 105, 109] 1).take 20
theorem drawD_len (draw : List UInt8) : (drawD draw).length = 20 := by rw [drawD, List.length_take, dout_length]; rfl
theorem derive_is (a : List UInt8) (h : a.length ≤ 549755813888) : macDeriveF ⟨a.toArray⟩ ⟨#[115, 116, 114, 111, 110, 103, 114, 111, 111, 109, 32, 99, 108, 97, 105, 109]⟩ 20 = some (⟨(drawD a).toArray⟩, 0) := by
  unfold macDeriveF
  rw [if_pos ⟨by rw [mk_size]; exact h, by decide, by decide, by decide⟩]
  rfl
theorem cut12 (D : List UInt8) : (⟨D.toArray⟩ : ByteArray).extract 0 12 = ⟨(D.take 12).toArray⟩ := by
  apply ByteArray.ext
  simp [ByteArray.data_extract]
theorem draw_ev (s : ByteArray) (a : List UInt8) (h : a.length ≤ 549755813888) : Ev (fun k => desk_Draw.f k s ⟨a.toArray⟩) (s, ⟨((drawD a).take 12).toArray⟩, (spans (drawD a) 4).map spanS) := by
  refine Ev.congr (fun k => ?_) (draw_loop (drawD a) (drawD_len a) s ⟨((drawD a).take 12).toArray⟩ 4 0 (by omega))
  simp only [desk_Draw.f, mac_Derive.f, derive_is a h, Option.bind_some, mk_size, drawD_len, cut12]
  rw [if_pos (by omega), if_pos (by omega)]
  rfl
theorem rdraw_ev (s : ByteArray) (a : List UInt8) (h : a.length ≤ 549755813888) : Ev (fun k => strongroomref27_Draw.f k s ⟨a.toArray⟩) (s, ⟨((drawD a).take 12).toArray⟩, (spans (drawD a) 4).map spanS) := by
  refine Ev.congr (fun k => ?_) (rdraw_loop (drawD a) (drawD_len a) s ⟨((drawD a).take 12).toArray⟩ 4 0 (by omega))
  simp only [strongroomref27_Draw.f, strongroomref03_Derive.f, derive_is a h, Option.bind_some, mk_size, drawD_len, cut12]
  rw [if_pos (by omega), if_pos (by omega)]
  rfl
theorem sameSpans_ev (l : List S42) (hl : l.length < 140737488355328) : Ev (fun k => strongroomref27_SameSpans.f k l l) true := by
  have loop : ∀ d i, i + d = l.length → Ev (fun k => strongroomref27_SameSpans.l0 k l l (i : Int)) true := by
    intro d
    induction d with
    | zero =>
      intro i hi
      refine Ev.step (f := fun _ => some true) (fun k => ?_) (Ev.now _)
      simp only [strongroomref27_SameSpans.l0]
      rw [if_neg (by omega)]
    | succ d ih =>
      intro i hi
      refine Ev.step (fun k => ?_) (ih (i + 1) (by omega))
      simp only [strongroomref27_SameSpans.l0]
      rw [if_pos (by omega), if_pos (by omega), if_pos (by omega), if_neg (by simp), show wrap64 ((i : Int) + 1) = ((i + 1 : Nat) : Int) by unfold wrap64; omega]
  refine Ev.congr (fun k => ?_) (loop l.length 0 (by omega))
  simp only [strongroomref27_SameSpans.f]
  rw [if_pos trivial]
  rfl
theorem same_ev (a b : ByteArray) (l : List S42) (hl : l.length < 140737488355328) : Ev (fun k => strongroomlaw27_same.f k a b l a b l) true := by
  refine Ev.congr (f := fun k => (strongroomref27_SameSpans.f k l l).bind fun t => some t) (fun k => ?_) (Ev.bind (sameSpans_ev l hl) (Ev.now _))
  simp only [strongroomlaw27_same.f]
  rw [if_pos trivial, if_pos trivial]
/-- a span's part of a proof's text -/
def segL (s : List UInt8) (p : Nat × Nat) : List UInt8 := putL p.1 ++ putL p.2 ++ (putL (if s = [] then [] else pieceL s p.1 p.2).length ++ (if s = [] then [] else pieceL s p.1 p.2))
theorem pce_len (s : List UInt8) (p : Nat × Nat) : (if s = [] then [] else pieceL s p.1 p.2).length ≤ p.2 := by split <;> simp [pieceL_len]
theorem segL_len (s : List UInt8) (p : Nat × Nat) (h : p.1 < 128 ∧ 1 ≤ p.2 ∧ p.2 ≤ 64) : (segL s p).length ≤ 100 := by
  have h1 := putL_ten (n := p.1) (by omega)
  have h2 := putL_ten (n := p.2) (by omega)
  have h3 := pce_len s p
  have h4 := putL_ten (n := (if s = [] then [] else pieceL s p.1 p.2).length) (by omega)
  simp only [segL, List.length_append]
  omega
def proofL (s : List UInt8) : List UInt8 → List (Nat × Nat) → List UInt8
  | b, [] => b
  | b, p :: ps => proofL s (b ++ segL s p) ps
theorem proofL_len (s : List UInt8) : ∀ (ps : List (Nat × Nat)) (b : List UInt8), (∀ p ∈ ps, p.1 < 128 ∧ 1 ≤ p.2 ∧ p.2 ≤ 64) → (proofL s b ps).length ≤ b.length + 100 * ps.length
  | [], b, _ => by simp [proofL]
  | p :: ps, b, h => by
    have h1 := segL_len s p (h p (by simp))
    have h2 := proofL_len s ps (b ++ segL s p) (fun q hq => h q (by simp [hq]))
    simp only [proofL, List.length_cons, List.length_append] at h2 ⊢
    omega
theorem rd_at (ps : List (Nat × Nat)) (i : Nat) (p : Nat × Nat) (h : ps[i]? = some p) : rd_T42 (ps.map spanS) (i : Int) = spanS p := by
  simp [rd_T42, List.getD_eq_getElem?_getD, h]
theorem seal_is (n m : List UInt8) (h1 : n.length ≤ 549755813888) (h2 : m.length ≤ 274877906944) : macSealF ⟨n.toArray⟩ ⟨m.toArray⟩ = some ⟨(sealB n m).toArray⟩ := by
  unfold macSealF
  rw [if_pos ⟨by rw [mk_size]; exact h1, by rw [mk_size]; exact h2⟩]
theorem proof_loop (s n : List UInt8) (su : ByteArray) (all : List (Nat × Nat)) (hs : s.length < 1000000) (hn : n.length ≤ 1000) (hall : ∀ p ∈ all, p.1 < 128 ∧ 1 ≤ p.2 ∧ p.2 ≤ 64) (ha : all.length ≤ 1000) : ∀ (ps : List (Nat × Nat)) (i : Nat) (b : List UInt8), all.drop i = ps → i ≤ all.length → b.length + 100 * ps.length < 1000000 → (L : List S42) → Ev (fun k => desk_Proof.l0 k ⟨s.toArray⟩ (b.map I) (all.map spanS) ((all.length : Nat) : Int) (i : Int) su ⟨n.toArray⟩ L) ⟨(sealB n (proofL s b ps)).toArray⟩ := by
  intro ps
  induction ps with
  | nil =>
    intro i b hd hi hb L
    have hi2 : i = all.length := by have := congrArg List.length hd; simp at this; omega
    subst hi2
    refine Ev.step (f := fun _ => some (⟨(sealB n b).toArray⟩ : ByteArray)) (fun k => ?_) (Ev.now _)
    simp only [desk_Proof.l0]
    rw [if_neg (by omega), nums_mk, mac_Seal.f, seal_is n b (by omega) (by simp at hb; omega)]
    rfl
  | cons p ps ih =>
    intro i b hd hi hb L
    have hlt : i < all.length := by
      rcases Nat.lt_or_ge i all.length with h | h
      · exact h
      · rw [List.drop_eq_nil_of_le h] at hd; cases hd
    have hp : all[i]? = some p := by
      have := congrArg List.head? hd
      simpa [List.head?_drop] using this
    have hok := hall p (List.mem_of_getElem? hp)
    have hd2 : all.drop (i + 1) = ps := by
      have := congrArg List.tail hd
      simpa [List.tail_drop] using this
    have hsl := segL_len s p hok
    have h1 := putL_ten (n := p.1) (by omega)
    have h2 := putL_ten (n := p.2) (by omega)
    have h3 := pce_len s p
    simp only [List.length_cons] at hb
    have IH := ih (i + 1) (b ++ segL s p) hd2 (by omega) (by rw [List.length_append]; omega) L
    refine Ev.step (f := fun k => (num_Put.f k (b.map I) (p.1 : Int)).bind fun t => (num_Put.f k t (p.2 : Int)).bind fun t2 => (desk_piece.f k ⟨s.toArray⟩ (p.1 : Int) (p.2 : Int)).bind fun t3 => (num_PutText.f k t2 t3).bind fun t4 => desk_Proof.l0 k ⟨s.toArray⟩ t4 (all.map spanS) ((all.length : Nat) : Int) ((i + 1 : Nat) : Int) su ⟨n.toArray⟩ L) (fun k => ?_) ?_
    · simp only [desk_Proof.l0, rd_at all i p hp, spanS, List.length_map]
      rw [if_pos (by omega), if_pos (by omega), if_pos (by omega), u64_nat (by omega), u64_nat (by omega), show wrap64 ((i : Int) + 1) = ((i + 1 : Nat) : Int) by unfold wrap64; omega]
    · refine Ev.bind (put_ev b p.1 (by omega)) (Ev.bind (put_ev (b ++ putL p.1) p.2 (by simp; omega)) (Ev.bind (piece_ev s p.1 p.2 (by omega) (by omega) (by omega)) (Ev.bind (putText_ev (b ++ putL p.1 ++ putL p.2) _ (by simp only [List.length_append]; omega) (by omega)) ?_)))
      have e : b ++ putL p.1 ++ putL p.2 ++ putL (if s = [] then [] else pieceL s p.1 p.2).length ++ (if s = [] then [] else pieceL s p.1 p.2) = b ++ segL s p := by simp only [segL, List.append_assoc]
      rw [e]
      exact IH
theorem rproof_loop (s n : List UInt8) (su : ByteArray) (all : List (Nat × Nat)) (hs : s.length < 1000000) (hn : n.length ≤ 1000) (hall : ∀ p ∈ all, p.1 < 128 ∧ 1 ≤ p.2 ∧ p.2 ≤ 64) (ha : all.length ≤ 1000) : ∀ (ps : List (Nat × Nat)) (i : Nat) (b : List UInt8), all.drop i = ps → i ≤ all.length → b.length + 100 * ps.length < 1000000 → Ev (fun k => strongroomref27_Proof.l0 k ⟨s.toArray⟩ ⟨b.toArray⟩ (i : Int) su ⟨n.toArray⟩ (all.map spanS)) ⟨(sealB n (proofL s b ps)).toArray⟩ := by
  intro ps
  induction ps with
  | nil =>
    intro i b hd hi hb
    have hi2 : i = all.length := by have := congrArg List.length hd; simp at this; omega
    subst hi2
    refine Ev.step (f := fun _ => some (⟨(sealB n b).toArray⟩ : ByteArray)) (fun k => ?_) (Ev.now _)
    simp only [strongroomref27_Proof.l0, List.length_map]
    rw [if_neg (by omega), strongroomref03_Seal.f, seal_is n b (by omega) (by simp at hb; omega)]
    rfl
  | cons p ps ih =>
    intro i b hd hi hb
    have hlt : i < all.length := by
      rcases Nat.lt_or_ge i all.length with h | h
      · exact h
      · rw [List.drop_eq_nil_of_le h] at hd; cases hd
    have hp : all[i]? = some p := by
      have := congrArg List.head? hd
      simpa [List.head?_drop] using this
    have hok := hall p (List.mem_of_getElem? hp)
    have hd2 : all.drop (i + 1) = ps := by
      have := congrArg List.tail hd
      simpa [List.tail_drop] using this
    have hsl := segL_len s p hok
    have h1 := putL_ten (n := p.1) (by omega)
    have h2 := putL_ten (n := p.2) (by omega)
    have h3 := pce_len s p
    have h4 := putL_ten (n := (if s = [] then [] else pieceL s p.1 p.2).length) (by omega)
    simp only [List.length_cons] at hb
    have IH := ih (i + 1) (b ++ segL s p) hd2 (by omega) (by rw [List.length_append]; omega)
    refine Ev.step (f := fun k => (strongroomref01_Put.f k (p.1 : Int)).bind fun t => if (⟨b.toArray⟩ : ByteArray).size + t.size ≤ 9223372036854775807 then (strongroomref01_Put.f k (p.2 : Int)).bind fun t2 => if (⟨b.toArray⟩ ++ t).size + t2.size ≤ 9223372036854775807 then (strongroomref27_piece.f k ⟨s.toArray⟩ (p.1 : Int) (p.2 : Int)).bind fun t3 => (strongroomref01_Text.f k t3).bind fun t4 => if ((⟨b.toArray⟩ ++ t) ++ t2).size + t4.size ≤ 9223372036854775807 then strongroomref27_Proof.l0 k ⟨s.toArray⟩ (((⟨b.toArray⟩ ++ t) ++ t2) ++ t4) ((i + 1 : Nat) : Int) su ⟨n.toArray⟩ (all.map spanS) else none else none else none) (fun k => ?_) ?_
    · simp only [strongroomref27_Proof.l0, rd_at all i p hp, spanS, List.length_map]
      rw [if_pos (by omega), if_pos (by omega), u64_nat (by omega), u64_nat (by omega), show wrap64 ((i : Int) + 1) = ((i + 1 : Nat) : Int) by unfold wrap64; omega]
    · refine Ev.bind (rput_ev p.1 (by omega)) ?_
      refine ifpos (by rw [mk_size, mk_size]; omega) ?_
      rw [mk_app]
      refine Ev.bind (rput_ev p.2 (by omega)) ?_
      refine ifpos (by rw [mk_size, mk_size, List.length_append]; omega) ?_
      rw [mk_app]
      refine Ev.bind (rpiece_ev s p.1 p.2 (by omega) (by omega) (by omega)) (Ev.bind (rtext_ev _ (by omega)) ?_)
      refine ifpos (by rw [mk_size, mk_size]; simp only [List.length_append]; omega) ?_
      rw [mk_app]
      have e : b ++ putL p.1 ++ putL p.2 ++ (putL (if s = [] then [] else pieceL s p.1 p.2).length ++ (if s = [] then [] else pieceL s p.1 p.2)) = b ++ segL s p := by simp only [segL, List.append_assoc]
      rw [e]
      exact IH
/-- the proof of a content by a challenge -/
def proofP (su n : List UInt8) (ps : List (Nat × Nat)) (s : List UInt8) : List UInt8 := sealB n (proofL s (putL su.length ++ su ++ putL s.length) ps)
theorem proof_ev (su n s : List UInt8) (ps : List (Nat × Nat)) (hsu : su.length ≤ 1000) (hs : s.length ≤ 1000) (hn : n.length ≤ 1000) (hps : ∀ p ∈ ps, p.1 < 128 ∧ 1 ≤ p.2 ∧ p.2 ≤ 64) (hl : ps.length ≤ 1000) : Ev (fun k => desk_Proof.f k ⟨su.toArray⟩ ⟨n.toArray⟩ (ps.map spanS) ⟨s.toArray⟩) ⟨(proofP su n ps s).toArray⟩ := by
  have h1 := putL_ten (n := su.length) (by omega)
  have h2 := putL_ten (n := s.length) (by omega)
  have LP := proof_loop s n ⟨su.toArray⟩ ps (by omega) hn hps hl ps 0 (putL su.length ++ su ++ putL s.length) rfl (by omega) (by simp only [List.length_append]; omega) (ps.map spanS)
  refine Ev.congr (f := fun k => (num_PutText.f k (([] : List UInt8).map I) ⟨su.toArray⟩).bind fun t => (num_Put.f k t ((s.length : Nat) : Int)).bind fun t2 => desk_Proof.l0 k ⟨s.toArray⟩ t2 (ps.map spanS) ((ps.length : Nat) : Int) 0 ⟨su.toArray⟩ ⟨n.toArray⟩ (ps.map spanS)) (fun k => ?_) (Ev.bind (putText_ev [] su (by simp; omega) (by omega)) (Ev.bind (put_ev ([] ++ putL su.length ++ su) s.length (by simp only [List.length_append, List.length_nil]; omega)) ?_))
  · simp only [desk_Proof.f, mk_size, List.length_map, List.map_nil, u64_nat (show s.length < 18446744073709551616 by omega)]
  · exact LP
theorem rproof_ev (su n s : List UInt8) (ps : List (Nat × Nat)) (hsu : su.length ≤ 1000) (hs : s.length ≤ 1000) (hn : n.length ≤ 1000) (hps : ∀ p ∈ ps, p.1 < 128 ∧ 1 ≤ p.2 ∧ p.2 ≤ 64) (hl : ps.length ≤ 1000) : Ev (fun k => strongroomref27_Proof.f k ⟨su.toArray⟩ ⟨n.toArray⟩ (ps.map spanS) ⟨s.toArray⟩) ⟨(proofP su n ps s).toArray⟩ := by
  have h1 := putL_ten (n := su.length) (by omega)
  have h2 := putL_ten (n := s.length) (by omega)
  have LP := rproof_loop s n ⟨su.toArray⟩ ps (by omega) hn hps hl ps 0 (putL su.length ++ su ++ putL s.length) rfl (by omega) (by simp only [List.length_append]; omega)
  refine Ev.congr (f := fun k => (strongroomref01_Text.f k ⟨su.toArray⟩).bind fun t => (strongroomref01_Put.f k ((s.length : Nat) : Int)).bind fun t2 => if t.size + t2.size ≤ 9223372036854775807 then strongroomref27_Proof.l0 k ⟨s.toArray⟩ (t ++ t2) 0 ⟨su.toArray⟩ ⟨n.toArray⟩ (ps.map spanS) else none) (fun k => ?_) (Ev.bind (rtext_ev su (by omega)) (Ev.bind (rput_ev s.length (by omega)) ?_))
  · simp only [strongroomref27_Proof.f, mk_size, u64_nat (show s.length < 18446744073709551616 by omega)]
  · refine ifpos (by rw [mk_size, mk_size, List.length_append]; omega) ?_
    rw [mk_app]
    exact LP
theorem light_loop (kd t s q n : Int) (x0 x1 : ByteArray) (b : Bool) (xs : List ByteArray) (hl : xs.length ≤ 12) : ∀ d i : Nat, i + d = xs.length → ∃ r, Ev (fun k => strongroomlaw27_light.l0 k (i : Int) kd t s q n x0 x1 b xs) r ∧ (r = true → ∀ j, i ≤ j → j < xs.length → (xs.getD j ByteArray.empty).size ≤ 300) := by
  intro d
  induction d with
  | zero =>
    intro i hi
    refine ⟨true, Ev.step (f := fun _ => some true) (fun k => ?_) (Ev.now _), fun _ j h1 h2 => by omega⟩
    simp only [strongroomlaw27_light.l0]
    rw [if_neg (by omega)]
  | succ d ih =>
    intro i hi
    by_cases h : ((rdOf ByteArray.empty xs (i : Int)).size : Int) > 300
    · refine ⟨false, Ev.step (f := fun _ => some false) (fun k => ?_) (Ev.now _), fun h => by cases h⟩
      simp only [strongroomlaw27_light.l0]
      rw [if_pos (by omega), if_pos (by omega), if_pos h]
    · obtain ⟨r, hr, hj⟩ := ih (i + 1) (by omega)
      refine ⟨r, Ev.step (fun k => ?_) hr, fun he j h1 h2 => ?_⟩
      · simp only [strongroomlaw27_light.l0]
        rw [if_pos (by omega), if_pos (by omega), if_neg h, show wrap64 ((i : Int) + 1) = ((i + 1 : Nat) : Int) by unfold wrap64; omega]
      · by_cases h3 : j = i
        · subst h3
          have h4 : ¬ (((xs.getD j ByteArray.empty).size : Int) > 300) := h
          omega
        · exact hj he j (by omega) h2
theorem light_ok (kd t s q n : Int) (x0 x1 : ByteArray) (b : Bool) (xs : List ByteArray) : ∃ r k, strongroomlaw27_light.f k kd t s q n x0 x1 b xs = some r ∧ (r = true → x0.size ≤ 200 ∧ x1.size ≤ 1000 ∧ xs.length ≤ 12 ∧ ∀ x ∈ xs, x.size ≤ 300) := by
  have no : ∃ k, strongroomlaw27_light.j0 k true kd t s q n x0 x1 b xs = some false := by
    refine ⟨1, ?_⟩
    simp only [strongroomlaw27_light.j0]
    rw [if_pos trivial]
  obtain ⟨kn, hn⟩ := no
  by_cases h0 : (x0.size : Int) > 200
  · refine ⟨false, kn, ?_, fun h => by cases h⟩
    simp only [strongroomlaw27_light.f]
    rw [if_pos h0]
    exact hn
  by_cases h1 : (x1.size : Int) > 1000
  · refine ⟨false, kn, ?_, fun h => by cases h⟩
    simp only [strongroomlaw27_light.f]
    rw [if_neg h0, if_pos h1]
    exact hn
  by_cases h2 : (xs.length : Int) > 12
  · refine ⟨false, kn, ?_, fun h => by cases h⟩
    simp only [strongroomlaw27_light.f]
    rw [if_neg h0, if_neg h1, decide_eq_true h2]
    exact hn
  obtain ⟨r, hr, hj⟩ := light_loop kd t s q n x0 x1 b xs (by omega) xs.length 0 (by omega)
  obtain ⟨k, hk⟩ := hr.rounds
  refine ⟨r, k + 1, ?_, fun he => ⟨by omega, by omega, by omega, fun x hx => ?_⟩⟩
  · simp only [strongroomlaw27_light.f]
    rw [if_neg h0, if_neg h1, decide_eq_false h2]
    simp only [strongroomlaw27_light.j0]
    rw [if_neg (by decide)]
    exact hk
  · obtain ⟨i, hi, rfl⟩ := List.getElem_of_mem hx
    have := hj he i (by omega) hi
    rwa [List.getD_eq_getElem?_getD, List.getElem?_eq_getElem hi] at this
theorem ids_loop (n : Nat) (hn : n ≤ 1000) : ∀ d i : Nat, i + d = n → Ev (fun k => strongroomlaw27_ids.l0 k (n : Int) ((List.range i).map fun (j : Nat) => (⟨⟨#[100]⟩, (j : Int)⟩ : S74)) (i : Int)) ((List.range n).map fun (j : Nat) => (⟨⟨#[100]⟩, (j : Int)⟩ : S74)) := by
  intro d
  induction d with
  | zero =>
    intro i hi
    obtain rfl : i = n := by omega
    refine Ev.step (fun k => ?_) (Ev.now _)
    simp only [strongroomlaw27_ids.l0]
    rw [if_neg (by omega)]
  | succ d ih =>
    intro i hi
    refine Ev.step (fun k => ?_) (ih (i + 1) (by omega))
    simp only [strongroomlaw27_ids.l0]
    rw [if_pos (by omega), if_pos (by simp; omega), show wrap64 ((i : Int) + 1) = ((i + 1 : Nat) : Int) by unfold wrap64; omega, List.range_succ, List.map_append]
    rfl
theorem ids_ok (n : Nat) (hn : n ≤ 1000) : ∃ k ys, strongroomlaw27_ids.f k (n : Int) = some ys ∧ ys.length = n ∧ ∀ j, j < n → (ys.getD j z74).f1 = j := by
  obtain ⟨k, hk⟩ := (ids_loop n hn n 0 (by omega)).rounds
  refine ⟨k, _, hk, by simp, fun j hj => ?_⟩
  rw [List.getD_eq_getElem?_getD, List.getElem?_map, List.getElem?_range hj]
  rfl
theorem ba_list (a : ByteArray) : ∃ l : List UInt8, a = ⟨l.toArray⟩ ∧ l.length = a.size := ⟨a.data.toList, rfl, rfl⟩
theorem copied_ok (a b : ByteArray) (l : List S42) (h : l.length < 1000) : desk_copied.f a b l = some (a, b, l) := by
  simp only [desk_copied.f, Option.bind_some, List.length_nil, List.nil_append, Nat.zero_add]
  rw [if_pos (by omega)]
/-- two lists of ids, told alike or not -/
theorem sameIDs_ok (a b : List S74) (ha : a.length < 1000) : ∃ k r, strongroomref27_SameIDs.f k a b = some r ∧ (a = b → r = true) := by
  by_cases hl : (a.length : Int) = (b.length : Int)
  · have loop : ∀ d i, i + d = a.length → ∃ r, Ev (fun k => strongroomref27_SameIDs.l0 k a b (i : Int)) r ∧ (a = b → r = true) := by
      intro d
      induction d with
      | zero =>
        intro i hi
        refine ⟨true, Ev.step (f := fun _ => some true) (fun k => ?_) (Ev.now _), fun _ => rfl⟩
        simp only [strongroomref27_SameIDs.l0]
        rw [if_neg (by omega)]
      | succ d ih =>
        intro i hi
        obtain ⟨r, hr, he⟩ := ih (i + 1) (by omega)
        by_cases hq : (rd_T74 a (i : Int)).f0.toList = (rd_T74 b (i : Int)).f0.toList ∧ (rd_T74 a (i : Int)).f1 = (rd_T74 b (i : Int)).f1
        · refine ⟨r, Ev.step (fun k => ?_) hr, he⟩
          simp only [strongroomref27_SameIDs.l0]
          rw [if_pos (by omega), if_pos (by omega), if_pos (by omega), if_neg (by simpa using hq), show wrap64 ((i : Int) + 1) = ((i + 1 : Nat) : Int) by unfold wrap64; omega]
        · refine ⟨false, Ev.step (f := fun _ => some false) (fun k => ?_) (Ev.now _), fun e => absurd ⟨by rw [e], by rw [e]⟩ hq⟩
          simp only [strongroomref27_SameIDs.l0]
          rw [if_pos (by omega), if_pos (by omega), if_pos (by omega), if_pos (by by_cases h1 : (rd_T74 a (i : Int)).f0.toList = (rd_T74 b (i : Int)).f0.toList <;> simp_all)]
    obtain ⟨r, hr, he⟩ := loop a.length 0 (by omega)
    obtain ⟨k, hk⟩ := hr.rounds
    refine ⟨k, r, ?_, he⟩
    simp only [strongroomref27_SameIDs.f]
    rw [if_pos hl]
    exact hk
  · refine ⟨0, false, ?_, fun e => absurd (by rw [e]) hl⟩
    simp only [strongroomref27_SameIDs.f]
    rw [if_neg hl]
theorem sok_pf (su n : List UInt8) (ps : List (Nat × Nat)) (hsu : su.length ≤ 1000) (hn : n.length ≤ 1000) (hps : ∀ p ∈ ps, p.1 < 128 ∧ 1 ≤ p.2 ∧ p.2 ≤ 64) (hl : ps.length ≤ 1000) :
    ∃ pf : ByteArray → ByteArray, ∀ c : ByteArray, c.size ≤ 1000 → (∃ k, desk_Proof.f k ⟨su.toArray⟩ ⟨n.toArray⟩ (ps.map spanS) c = some (pf c)) ∧ ∃ k, strongroomref27_Proof.f k ⟨su.toArray⟩ ⟨n.toArray⟩ (ps.map spanS) c = some (pf c) :=
  ⟨fun c => ⟨(proofP su n ps c.data.toList).toArray⟩, fun c hc => ⟨(proof_ev su n c.data.toList ps hsu hc hn hps hl).rounds, (rproof_ev su n c.data.toList ps hsu hc hn hps hl).rounds⟩⟩
theorem sok0 : SOk ses0 := ⟨by simp [ses0], by simp [ses0], fun _ => rfl, fun _ => ⟨rfl, rfl, rfl⟩, by simp [ses0], sok_pf [] [] [] (by simp) (by simp) (by simp) (by simp)⟩
theorem sok_cl {x : Ses} (h : SOk x) (tk : List S74) (ht : tk.length ≤ 8) : SOk { x with p := false, su := ⟨#[]⟩, no := ⟨#[]⟩, sl := [], tk := tk } :=
  ⟨ht, h.l0, h.r, fun _ => ⟨rfl, rfl, rfl⟩, by simp, sok0.pf⟩
/-- a claim's challenge -/
theorem clm_ok (sum text : ByteArray) (h1 : sum.size ≤ 200) (h2 : text.size ≤ 1000) : ∃ no sl, (∃ k, desk_Draw.f k sum text = some (sum, no, sl)) ∧ desk_copied.f sum no sl = some (sum, no, sl) ∧ (∃ k, strongroomref27_Draw.f k sum text = some (sum, no, sl)) ∧ (∃ k, strongroomlaw27_same.f k sum no sl sum no sl = some true) ∧
    ∀ x : Ses, SOk x → SOk { x with p := true, su := sum, no := no, sl := sl } := by
  obtain ⟨l1, rfl, e1⟩ := ba_list text
  obtain ⟨l0, rfl, e0⟩ := ba_list sum
  refine ⟨_, _, (draw_ev ⟨l0.toArray⟩ l1 (by omega)).rounds, copied_ok _ _ _ (by simp [spans_length]), (rdraw_ev ⟨l0.toArray⟩ l1 (by omega)).rounds, (same_ev _ _ _ (by simp [spans_length])).rounds, fun x hx => ?_⟩
  exact ⟨hx.tk, hx.l0, hx.r, fun h => (by cases h), by simp [spans_length], sok_pf l0 ((drawD l1).take 12) (spans (drawD l1) 4) (by omega) (by simp; omega) (spans_ok _ _) (by simp [spans_length])⟩
theorem same_nil : ∃ k, strongroomlaw27_same.f k ⟨#[]⟩ ⟨#[]⟩ [] ⟨#[]⟩ ⟨#[]⟩ [] = some true := (same_ev _ _ _ (by simp)).rounds
theorem an_seq {l q : Int} {rp : ByteArray} (h : anE l q rp = 0) : 1 ≤ q := by
  unfold anE at h
  split at h
  · cases h
  · omega
theorem sok_ans {x : Ses} (h : SOk x) {q : Int} {rp : ByteArray} (he : anE x.l q rp = 0) : SOk { x with l := q, r := rp } :=
  ⟨h.tk, by have := an_seq he; show 0 ≤ q; omega, fun e => by have := an_seq he; have e' : q = 0 := e; omega, h.c, h.n, h.pf⟩
theorem sok_res {x : Ses} (h : SOk x) {q : Int} (he : reE q x.l x.p x.tk.length = 0) : SOk { x with l := q } := by
  have hl := h.l0
  unfold reE at he
  split at he
  · cases he
  · split at he
    · cases he
    · rename_i h1 h2
      refine ⟨h.tk, ?_, fun _ => h.r ?_, h.c, h.n, h.pf⟩
      · show 0 ≤ q; omega
      · have h3 : ¬ 0 < x.l := fun h3 => h2 (by simp [Ds.anyB, h3])
        omega
/-- each session is one that may be -/
def Sts (V : Nat → Ses) : Prop := ∀ j, SOk (V j)
theorem Sts.set {V : Nat → Ses} (h : Sts V) {j : Nat} {x : Ses} (hx : SOk x) : Sts (setS V j x) := fun i => by
  by_cases e : i = j
  · subst e; rw [setS_same]; exact hx
  · rw [setS_ne e]; exact h i
theorem sts0 : Sts (fun _ => ses0) := fun _ => sok0
theorem sts_ans {V : Nat → Ses} (h : Sts V) (t s q : Int) (rp : ByteArray) : Sts (ansV V t s q rp) := by
  unfold ansV
  split
  · rename_i he; exact h.set (sok_ans (h _) he.2)
  · exact h
theorem sts_res {V : Nat → Ses} (h : Sts V) (t s q : Int) : Sts (resV V t s q) := by
  unfold resV
  split
  · rename_i he; exact h.set (sok_res (h _) he.2)
  · exact h
theorem sts_spd {V : Nat → Ses} (h : Sts V) (t s : Int) : Sts (spdV V t s) := by
  unfold spdV
  split
  · exact h.set ⟨by simp, (h _).l0, (h _).r, (h _).c, (h _).n, (h _).pf⟩
  · exact h
theorem sts_prv {V : Nat → Ses} (h : Sts V) (t s : Int) (R : Int × S74) (hR : R.1 = 0 → (V (ix t s)).tk.length ≠ 8) : Sts (prvV V t s R) := by
  unfold prvV
  split
  · split
    · refine h.set (sok_cl (h _) _ ?_)
      have := (h (ix t s)).tk
      split
      · rename_i e; have := hR e; simp; omega
      · exact this
    · exact h
  · exact h
theorem sts_fgtV {V : Nat → Ses} (h : Sts V) (t : Int) : Sts (fgtV V t) := fun j => by
  unfold fgtV
  split
  · exact sok0
  · exact h j
theorem sts_fgtU {V : Nat → Ses} (h : Sts V) (t : Int) : Sts (fgtU V t) := fun j => by
  unfold fgtU
  split
  · exact sok0
  · exact h j
/-- a session without anything is the empty one -/
theorem sok_none {x : Ses} (h : SOk x) (ha : anyS x = false) : x = ses0 := by
  have hl := h.l0
  have hr := h.r
  have hc := h.c
  obtain ⟨l, r, p, su, no, sl, tk⟩ := x
  simp only [anyS, Ds.anyB, Bool.or_eq_false_iff, decide_eq_false_iff_not] at ha
  simp only at hl hr hc
  obtain ⟨h1, h2, h3⟩ := ha
  subst h2
  obtain ⟨rfl, rfl, rfl⟩ := hc rfl
  obtain rfl : l = 0 := by omega
  obtain rfl := hr rfl
  obtain rfl : tk = [] := List.length_eq_zero_iff.1 (by omega)
  rfl
theorem fgt_same {V : Nat → Ses} (h : Sts V) (t : Int) : fgtV V t = fgtU V t := by
  funext j
  unfold fgtV fgtU
  by_cases h1 : (1 ≤ t ∧ t ≤ 8) ∧ j / 4 = t.toNat - 1
  · rw [if_pos h1]
    by_cases h2 : anyS (V j) = true
    · rw [if_pos ⟨h1.1, h1.2, h2⟩]
    · rw [if_neg (fun h_ => h2 h_.2.2)]
      exact sok_none (h j) (by simpa using h2)
  · rw [if_neg h1, if_neg (fun h_ => h1 ⟨h_.1, h_.2.1⟩)]
/-- the sessions of other tenants -/
def Far (t : Int) (V V' : Nat → Ses) : Prop := ∀ j, (¬ (1 ≤ t ∧ t ≤ 8) ∨ j / 4 ≠ t.toNat - 1) → V' j = V j
theorem far_ix {t s : Int} (h : Ds.isP t s) {j : Nat} (hj : ¬ (1 ≤ t ∧ t ≤ 8) ∨ j / 4 ≠ t.toNat - 1) : j ≠ ix t s := by
  obtain ⟨h1, h2, h3, h4⟩ := h
  unfold ix
  omega
theorem far_set {t s : Int} (h : Ds.isP t s) (V : Nat → Ses) (x : Ses) : Far t V (setS V (ix t s) x) := fun j hj => setS_ne (far_ix h hj)
theorem far_same (t : Int) (V : Nat → Ses) : Far t V V := fun _ _ => rfl
theorem far_ans (V : Nat → Ses) (t s q : Int) (rp : ByteArray) : Far t V (ansV V t s q rp) := by
  unfold ansV
  split
  · rename_i h; exact far_set h.1 _ _
  · exact far_same _ _
theorem far_res (V : Nat → Ses) (t s q : Int) : Far t V (resV V t s q) := by
  unfold resV
  split
  · rename_i h; exact far_set h.1 _ _
  · exact far_same _ _
theorem far_clm (V : Nat → Ses) (t s : Int) (sum no : ByteArray) (sl : List S42) : Far t V (clmV V t s sum no sl) := by
  unfold clmV
  split
  · rename_i h; exact far_set h.1 _ _
  · exact far_same _ _
theorem far_spd (V : Nat → Ses) (t s : Int) : Far t V (spdV V t s) := by
  unfold spdV
  split
  · rename_i h; exact far_set h _ _
  · exact far_same _ _
theorem far_prv (V : Nat → Ses) (t s : Int) (R : Int × S74) : Far t V (prvV V t s R) := by
  unfold prvV
  split
  · rename_i h
    split
    · exact far_set h _ _
    · exact far_same _ _
  · exact far_same _ _
theorem far_fgt (V : Nat → Ses) (t : Int) : Far t V (fgtV V t) := fun j hj => by
  unfold fgtV
  rw [if_neg (fun h => by rcases hj with hj | hj <;> omega)]
/-- R, if it is a ticket, has room -/
theorem room {pf : ByteArray → ByteArray} {ans : ByteArray} {cx : List ByteArray} {ns : List S74} {n : Nat} {R : Int × S74} (hm : (∀ i, i < cx.length → (pf (cx.getD i ⟨#[]⟩)).toList ≠ ans.toList) → R = (11, z74))
    (hh : ∀ m, m < cx.length → (pf (cx.getD m ⟨#[]⟩)).toList = ans.toList → (∀ i, i < m → (pf (cx.getD i ⟨#[]⟩)).toList ≠ ans.toList) → R = if n = 8 then (5, z74) else (0, ns.getD m z74)) : R.1 = 0 → n ≠ 8 := by
  intro h0 hn
  by_cases h : ∃ m, m < cx.length ∧ (pf (cx.getD m ⟨#[]⟩)).toList = ans.toList
  · obtain ⟨m, h1, h2⟩ := h
    induction m using Nat.strongRecOn with
    | _ m ih =>
      by_cases h3 : ∃ i, i < m ∧ (pf (cx.getD i ⟨#[]⟩)).toList = ans.toList
      · obtain ⟨i, hi, he⟩ := h3
        exact ih i hi (by omega) he
      · have := hh m h1 h2 (fun i hi he => h3 ⟨i, hi, he⟩)
        rw [if_pos hn] at this
        rw [this] at h0
        cases h0
  · have := hm (fun i hi he => h ⟨i, hi, he⟩)
    rw [this] at h0
    cases h0

end Go.Proofs.Ytgkhdpplmdkkaaa.PureS
