/- The plain law of MerkleDiffs: of numbers and lists alone. -/
import Derived.Test.YtdeggemomajhcaaDoorHMerkleDiffsx15
import Derived.Laws.BitsAllLaws
namespace Go.Proofs.YtdeggemomajhcaaDoor.Pure
open Go.RowKit Go.Proofs.YtdeggemomajhcaaDoorH.HMerkleDiffs Go.Proofs.YtdeggemomajhcaaDoorW.PrintWords Go.Proofs.YtdeggemomajhcaaDoorW.PrintLast Go.Proofs.YtdeggemomajhcaaDoorW.PrintMore

abbrev I (b : UInt8) : Int := (b.toNat : Int)
def putL (n : Nat) : List UInt8 := if n < 128 then [UInt8.ofNat n] else UInt8.ofNat (n % 128 + 128) :: putL (n / 128)
termination_by n
decreasing_by omega
theorem putL_small {n : Nat} (h : n < 128) : putL n = [UInt8.ofNat n] := by rw [putL, if_pos h]
theorem putL_big {n : Nat} (h : ¬ n < 128) : putL n = UInt8.ofNat (n % 128 + 128) :: putL (n / 128) := by rw [putL, if_neg h]
theorem putL_len : ∀ (k n : Nat), n < 128 ^ (k + 1) → (putL n).length ≤ k + 1
 | 0, n, h => by rw [putL_small (by simpa using h)]; simp
 | k + 1, n, h => by
  by_cases hn : n < 128
  ·rw [putL_small hn]; simp
  ·rw [putL_big hn, List.length_cons]
   have := putL_len k (n / 128) (by rw [Nat.div_lt_iff_lt_mul (by decide), ← Nat.pow_succ]; exact h)
   omega
theorem putL_ten {n : Nat} (h : n < 18446744073709551616) : (putL n).length ≤ 10 := putL_len 9 n (Nat.lt_trans h (by decide))
theorem or128 (n : Nat) : Go.bits .or .u8 ((n : Int) % 256) 128 = I (UInt8.ofNat (n % 128 + 128)) := by
 have h : ∀ m, m < 256 → Go.bits .or .u8 ((m : Nat) : Int) 128 = I (UInt8.ofNat (m % 128 + 128)) := by decide +kernel
 have h2 := h (n % 256) (Nat.mod_lt _ (by decide))
 rw [show ((n : Int) % 256) = ((n % 256 : Nat) : Int) by omega, h2, Nat.mod_mod_of_dvd n (by decide)]
theorem I_ofNat {n : Nat} (h : n < 256) : I (UInt8.ofNat n) = (n : Int) := by
 simp only [I, UInt8.toNat_ofNat']; omega
theorem mk_size (a : List UInt8) : (⟨a.toArray⟩ : ByteArray).size = a.length := by simp [ByteArray.size]
theorem nums_mk (l : List UInt8) : strOfNums (l.map I) = ⟨l.toArray⟩ := by
 simp [strOfNums, I, Function.comp_def]
theorem bytes_mk (l : List UInt8) : bytesOf ⟨l.toArray⟩ = l.map I := by simp [bytesOf]
theorem u64_nat {n : Nat} (h : n < 18446744073709551616) : IntKind.u64.wrap (n : Int) = (n : Int) := by
 simp [IntKind.wrap, IntKind.bits, IntKind.signed]; omega
theorem ifpos {α : Type} {c : Prop} [Decidable c] {f g : Nat → Option α} {r : α} (h : c) (k : Ev f r) : Ev (fun n => if c then f n else g n) r := Ev.congr (fun _ => if_pos h) k
theorem ifneg {α : Type} {c : Prop} [Decidable c] {f g : Nat → Option α} {r : α} (h : ¬ c) (k : Ev g r) : Ev (fun n => if c then f n else g n) r := Ev.congr (fun _ => if_neg h) k
theorem lay_ev : ∀ (n : Nat) (l : List UInt8), l.length + (putL n).length < 140737488355328 → Ev (fun k => num_lay.l0 k (l.map I) (n : Int)) ((l ++ putL n).map I) := by
 intro n
 induction n using Nat.strongRecOn with
 | ind n ih =>
  intro l hl
  by_cases hn : n < 128
  ·rw [putL_small hn] at hl ⊢
   refine Ev.step (f := fun _ => some ((l ++ [UInt8.ofNat n]).map I)) (fun k => ?_) (Ev.now _)
   simp only [num_lay.l0]
   rw [if_neg (by omega), if_pos (by simp at hl ⊢; omega)]
   simp only [List.map_append, List.map_cons, List.map_nil, I_ofNat (show n < 256 by omega)]
   rw [show (n : Int) % 256 = (n : Int) by omega]
  ·rw [putL_big hn] at hl ⊢
   have h2 := ih (n / 128) (by omega) (l ++ [UInt8.ofNat (n % 128 + 128)]) (by simp at hl ⊢; omega)
   rw [show l ++ UInt8.ofNat (n % 128 + 128) :: putL (n / 128) = l ++ [UInt8.ofNat (n % 128 + 128)] ++ putL (n / 128) by simp]
   refine Ev.step (fun k => ?_) h2
   simp only [num_lay.l0]
   rw [if_pos (by omega), if_pos (by simp at hl ⊢; omega), or128, show (n : Int) / 128 = ((n / 128 : Nat) : Int) by omega]
   simp
theorem own_is (l : List Int) (h : l.length < 140737488355328) : num_own.f l = some l := by
 simp [num_own.f, h]
theorem putText_ev (l s : List UInt8) (h : l.length + s.length + 10 < 140737488355328) (hs : s.length < 18446744073709551616) : Ev (fun k => num_PutText.f k (l.map I) ⟨s.toArray⟩) ((l ++ putL s.length ++ s).map I) := by
 have h10 := putL_ten hs
 refine Ev.congr (f := fun k => (num_lay.l0 k (l.map I) ((s.length : Nat) : Int)).bind fun t => if t.length + s.length < 140737488355328 then some (t ++ s.map I) else none) (fun k => ?_) (Ev.bind (lay_ev s.length l (by omega)) ?_)
 ·simp only [num_PutText.f, own_is _ (show (l.map I).length < 140737488355328 by simp; omega), Option.bind_some, num_lay.f, mk_size, bytes_mk, u64_nat hs]
 ·rw [if_pos (by simp; omega)]
  rw [← List.map_append]
  exact Ev.now _
theorem toList_data (s : ByteArray) : s.toList = s.data.toList := by rw [ByteArray.toList_eq]
theorem bt_mk (s : List UInt8) (i : Nat) (h : i < s.length) : bt ⟨s.toArray⟩ (i : Int) = I (s.getD i 0) := by
 have hs : i < (⟨s.toArray⟩ : ByteArray).size := by rw [mk_size]; exact h
 simp only [bt, Int.toNat_natCast, hs, dite_true, I]
 simp [List.getD_eq_getElem?_getD, h]
 rfl
theorem drop_nil_len {α : Type} {l : List α} {i : Nat} (h : l.drop i = []) (hi : i ≤ l.length) : i = l.length := by
 have := congrArg List.length h
 simp at this; omega
theorem wrap_succ {i n : Nat} (h : i < n) (hn : n < 1000000000000) : wrap64 ((i : Int) + 1) = ((i + 1 : Nat) : Int) := by unfold wrap64; omega
theorem all_loop {α : Type} (l : List α) (P : α → Bool) (F : Nat → Int → Option Bool)
  (ht : ∀ i c cs, l.drop i = c :: cs → P c = true → ∀ r, Ev (fun k => F k ((i + 1 : Nat) : Int)) r → Ev (fun k => F k (i : Int)) r)
  (hf : ∀ i c cs, l.drop i = c :: cs → P c = false → Ev (fun k => F k (i : Int)) false)
  (he : Ev (fun k => F k ((l.length : Nat) : Int)) true) : ∀ (cs : List α) (i : Nat), l.drop i = cs → i ≤ l.length → Ev (fun k => F k (i : Int)) (cs.all P) := by
 intro cs
 induction cs with
 | nil =>
  intro i hd hi
  rw [drop_nil_len hd hi]
  exact he
 | cons c cs ih =>
  intro i hd hi
  have hlt : i < l.length := by
   rcases Nat.lt_or_ge i l.length with g | g
   ·exact g
   ·rw [List.drop_eq_nil_of_le g] at hd; cases hd
  have hd2 : l.drop (i + 1) = cs := by
   have := congrArg List.tail hd
   simpa [List.tail_drop] using this
  cases hc : P c
  ·rw [List.all_cons, hc]; exact hf i c cs hd hc
  ·rw [List.all_cons, hc]; exact ht i c cs hd hc _ (ih (i + 1) hd2 hlt)
theorem goodB_le {a : ByteArray} (h : goodB a = true) : a.size ≤ 32 := by
 simp [goodB] at h; omega
/-- a text cut at its strokes -/
def cutL : List UInt8 → List (List UInt8)
 | [] => [[]]
 | b :: l => if b = 47 then [] :: cutL l else match cutL l with
  | [] => [[b]]
  | h :: t => (b :: h) :: t
theorem cutL_ne : ∀ l : List UInt8, cutL l ≠ []
 | [] => by simp [cutL]
 | b :: l => by
  unfold cutL
  split
  ·simp
  ·cases h : cutL l <;> simp
theorem splitK_ne (b : UInt8) (l : List UInt8) (h : b ≠ 47) (k : Nat) : Go.Lib.splitK [47] 0 k (b :: l) = match Go.Lib.splitK [47] 0 k l with
  | [] => [[b]]
  | x :: t => (b :: x) :: t := by
 cases k with
 | zero => rfl
 | succ k =>
  have hp : ([47] : List UInt8).isPrefixOf (b :: l) = false := by simp [List.isPrefixOf, Ne.symm h]
  have hix : Go.Lib.index (b :: l) [47] = if Go.Lib.index l [47] == -1 then -1 else Go.Lib.index l [47] + 1 := by rw [Go.Lib.index, hp]; simp
  by_cases hm : Go.Lib.index l [47] = -1
  ·simp only [Go.Lib.splitK, hix, hm]
   rfl
  ·have hge := Go.Lib.index_ge l [47]
   have hm2 : (Go.Lib.index l [47] == -1) = false := beq_eq_false_iff_ne.2 hm
   have hm3 : (Go.Lib.index l [47] + 1 == -1) = false := beq_eq_false_iff_ne.2 (by omega)
   simp only [Go.Lib.splitK, hix, hm2, hm3, Bool.false_eq_true, if_false]
   have e : (Go.Lib.index l [47] + 1).toNat = (Go.Lib.index l [47]).toNat + 1 := by omega
   rw [e]
   simp
theorem splitK_cutL : ∀ l : List UInt8, Go.Lib.splitK [47] 0 (Go.Lib.count l [47]) l = cutL l
 | [] => by rw [Go.Lib.count_miss (by simp [Go.Lib.index])]; rfl
 | b :: l => by
  by_cases h : b = 47
  ·subst h
   have hix : Go.Lib.index (47 :: l) [47] = 0 := by rw [Go.Lib.index]; simp [List.isPrefixOf]
   rw [Go.Lib.count_cons_eq, Nat.add_comm]
   simp only [Go.Lib.splitK, hix]
   rw [if_neg (by decide)]
   simp only [cutL, if_true, ← splitK_cutL l]
   rfl
  ·rw [Go.Lib.count_cons_ne b 47 l h, splitK_ne b l h, splitK_cutL l]
   simp only [cutL, if_neg h]
theorem pieces_data (s : ByteArray) : (pieces s).map (·.data.toList) = cutL s.data.toList := by
 rw [pieces, Go.Lib.splitB_data]
 exact splitK_cutL s.data.toList
/-- is a text a path, in plain lists -/
def goodL (s : List UInt8) : Bool := decide (1 ≤ s.length) && decide (s.length ≤ 32) && (cutL s).all nameB
theorem goodB_goodL (s : ByteArray) : goodB s = goodL s.data.toList := by
 unfold goodB goodL
 rw [← pieces_data, List.all_map]
 rfl
/-- the same cut, with what stands ahead -/
def cutG : List UInt8 → List UInt8 → List (List UInt8)
 | cur, [] => [cur]
 | cur, b :: l => if b = 47 then cur :: cutG [] l else cutG (cur ++ [b]) l
theorem cutG_eq : ∀ (l cur : List UInt8), cutG cur l = match cutL l with | [] => [cur] | h :: t => (cur ++ h) :: t
 | [], cur => by simp [cutG, cutL]
 | b :: l, cur => by
  unfold cutG cutL
  by_cases h : b = 47
  ·rw [if_pos h, if_pos h, cutG_eq l []]
   cases hc : cutL l with
   | nil => exact absurd hc (cutL_ne l)
   | cons x t => simp
  ·rw [if_neg h, if_neg h, cutG_eq l (cur ++ [b])]
   cases hc : cutL l with
   | nil => simp
   | cons x t => simp
theorem cutG_nil (l : List UInt8) : cutG [] l = cutL l := by
 rw [cutG_eq]
 cases hc : cutL l with
 | nil => exact absurd hc (cutL_ne l)
 | cons x t => simp
abbrev mkB (p : List UInt8) : ByteArray := ⟨p.toArray⟩
theorem extract_mk (s : List UInt8) (a b : Nat) : (⟨s.toArray⟩ : ByteArray).extract a b = mkB ((s.drop a).take (b - a)) := by
 apply ByteArray.ext
 rw [ByteArray.data_extract]
 simp [List.extract_eq_take_drop]
theorem drop_cons_facts {α : Type} {l : List α} {i : Nat} {c : α} {cs : List α} (h : l.drop i = c :: cs) : l[i]? = some c ∧ l.drop (i + 1) = cs ∧ i < l.length := by
 have hlt : i < l.length := by
  rcases Nat.lt_or_ge i l.length with g | g
  ·exact g
  ·rw [List.drop_eq_nil_of_le g] at h; cases h
 refine ⟨?_, ?_, hlt⟩
 ·have := congrArg List.head? h
  simpa [List.head?_drop] using this
 ·have := congrArg List.tail h
  simpa [List.tail_drop] using this
theorem getD_of {l : List UInt8} {i : Nat} {c : UInt8} (h : l[i]? = some c) : l.getD i 0 = c := by rw [List.getD_eq_getElem?_getD, h]; rfl
theorem take_piece {s : List UInt8} {f i : Nat} {b : UInt8} (hf : f ≤ i) (hb : s[i]? = some b) : (s.drop f).take (i + 1 - f) = (s.drop f).take (i - f) ++ [b] := by
 rw [show i + 1 - f = (i - f) + 1 by omega, List.take_add_one, List.getElem?_drop, show f + (i - f) = i by omega, hb]; rfl
theorem cut_loop (s : List UInt8) (hs : s.length < 1000000) : ∀ (rest : List UInt8) (i f : Nat) (acc : List ByteArray), s.drop i = rest → f ≤ i → i ≤ s.length → acc.length ≤ i → Ev (fun k => strongroomref05_Cut.l0 k ⟨s.toArray⟩ acc (f : Int) (i : Int)) (acc ++ (cutG ((s.drop f).take (i - f)) rest).map mkB) := by
 intro rest
 induction rest with
 | nil =>
  intro i f acc hd hf hi ha
  have hl := drop_nil_len hd hi
  refine Ev.step (f := fun k => strongroomref05_Cut.l0 k ⟨s.toArray⟩ (acc ++ [mkB ((s.drop f).take (i - f))]) (wrap64 ((i : Int) + 1)) (wrap64 ((i : Int) + 1))) (fun k => ?_) (Ev.step (f := fun _ => some (acc ++ [mkB ((s.drop f).take (i - f))])) (fun k => ?_) (Ev.now _))
  ·simp only [strongroomref05_Cut.l0, mk_size]
   rw [if_pos (by omega), if_pos (by omega), if_pos (by omega), if_pos (by omega), if_pos (by omega), Int.toNat_natCast, Int.toNat_natCast, extract_mk]
  ·simp only [strongroomref05_Cut.l0, mk_size]
   rw [if_neg (by unfold wrap64; omega)]
 | cons b rest ih =>
  intro i f acc hd hf hi ha
  obtain ⟨h1, h2, h3⟩ := drop_cons_facts hd
  have hb : bt ⟨s.toArray⟩ (i : Int) = I b := by rw [bt_mk s i h3, getD_of h1]
  have hw := wrap_succ h3 (by omega)
  by_cases h47 : b = 47
  ·have h := ih (i + 1) (i + 1) (acc ++ [mkB ((s.drop f).take (i - f))]) h2 (Nat.le_refl _) h3 (by simp; omega)
   rw [Nat.sub_self, List.take_zero] at h
   rw [cutG, if_pos h47, List.map_cons]
   rw [List.append_assoc, List.singleton_append] at h
   refine Ev.step (fun k => ?_) h
   simp only [strongroomref05_Cut.l0, mk_size]
   rw [if_pos (by omega), if_neg (by omega), if_pos (by omega), if_pos (by omega), hb, if_pos (by rw [h47]; rfl), if_pos (by omega), if_pos (by omega), if_pos (by omega), Int.toNat_natCast, Int.toNat_natCast, extract_mk, hw]
  ·have h := ih (i + 1) f acc h2 (by omega) h3 (by omega)
   rw [take_piece hf h1] at h
   rw [cutG, if_neg h47]
   refine Ev.step (fun k => ?_) h
   simp only [strongroomref05_Cut.l0, mk_size]
   rw [if_pos (by omega), if_neg (by omega), if_pos (by omega), if_pos (by omega), hb, if_neg (by intro h; exact h47 (UInt8.toNat.inj (show b.toNat = 47 by simp only [I] at h; omega))), hw]
theorem cut_ev (s : List UInt8) (hs : s.length < 1000000) : Ev (fun k => strongroomref05_Cut.f k ⟨s.toArray⟩) ((cutL s).map mkB) := by
 simp only [strongroomref05_Cut.f]
 have h := cut_loop s hs s 0 0 [] rfl (Nat.le_refl _) (Nat.zero_le _) (Nat.zero_le _)
 simp only [Nat.sub_self, List.take_zero, List.nil_append, cutG_nil] at h
 exact h
theorem nameJ_t (s : ByteArray) : Ev (fun k => strongroomref05_Name.j0 k s true) false :=
 Ev.step (f := fun _ => some false) (fun k => by simp only [strongroomref05_Name.j0]; rw [if_pos trivial]) (Ev.now _)
theorem nameLoop_ev (s : List UInt8) (hs : s.length < 1000000) : Ev (fun k => strongroomref05_Name.l0 k ⟨s.toArray⟩ 0) (s.all okB) := by
 refine all_loop s okB (fun k i => strongroomref05_Name.l0 k ⟨s.toArray⟩ i) (fun i c cs hd hc r hr => ?_) (fun i c cs hd hc => ?_) ?_ s 0 rfl (Nat.zero_le _)
 ·obtain ⟨h1, h2, h3⟩ := drop_cons_facts hd
  have hb : bt ⟨s.toArray⟩ (i : Int) = I c := by rw [bt_mk s i h3, getD_of h1]
  rw [okB_okI] at hc
  have hk := okI_true hc
  refine Ev.step (fun k => ?_) hr
  simp only [strongroomref05_Name.l0, mk_size, hb]
  rw [if_pos (by omega), if_pos (by omega), wrap_succ h3 (by omega)]
  generalize strongroomref05_Name.l0 k ⟨s.toArray⟩ ((i + 1 : Nat) : Int) = X
  simp only [I]
  repeat' split
  all_goals first | rfl | (exfalso; omega)
 ·obtain ⟨h1, h2, h3⟩ := drop_cons_facts hd
  have hb : bt ⟨s.toArray⟩ (i : Int) = I c := by rw [bt_mk s i h3, getD_of h1]
  rw [okB_okI] at hc
  have hk := okI_false hc
  refine Ev.step (f := fun _ => some false) (fun k => ?_) (Ev.now _)
  simp only [strongroomref05_Name.l0, mk_size, hb]
  rw [if_pos (by omega), if_pos (by omega), wrap_succ h3 (by omega)]
  generalize strongroomref05_Name.l0 k ⟨s.toArray⟩ ((i + 1 : Nat) : Int) = X
  simp only [I]
  repeat' split
  all_goals first | rfl | (exfalso; omega)
 ·refine Ev.step (f := fun _ => some true) (fun k => ?_) (Ev.now _)
  simp only [strongroomref05_Name.l0, mk_size]
  rw [if_neg (by omega)]
theorem rname_ev (s : List UInt8) (hs : s.length < 1000000) : Ev (fun k => strongroomref05_Name.f k ⟨s.toArray⟩) (nameB s) := by
 simp only [strongroomref05_Name.f, toList_data, mk_size]
 by_cases h0 : s = []
 ·refine ifpos h0 ?_
  subst h0
  exact nameJ_t _
 refine ifneg h0 ?_
 have hl : 1 ≤ s.length := by
  rcases s with _ | ⟨b, s⟩
  ·exact absurd rfl h0
  ·simp
 by_cases h1 : 12 < s.length
 ·refine ifpos (by omega) ?_
  rw [show nameB s = false by rw [nameB, show decide (s.length ≤ 12) = false from decide_eq_false (by omega)]; simp]
  exact nameJ_t _
 refine ifneg (by omega) ?_
 by_cases h2 : s = [46]
 ·refine ifpos h2 ?_
  subst h2
  exact nameJ_t _
 refine ifneg h2 ?_
 by_cases h3 : s = [46, 46]
 ·subst h3
  exact nameJ_t _
 rw [show ((s.toArray).toList == [46, 46]) = false from beq_eq_false_iff_ne.2 h3]
 rw [show nameB s = s.all okB by
  rw [nameB, show decide (1 ≤ s.length) = true from decide_eq_true hl, show decide (s.length ≤ 12) = true from decide_eq_true (by omega), show (s == [46]) = false from beq_eq_false_iff_ne.2 h2, show (s == [46, 46]) = false from beq_eq_false_iff_ne.2 h3]; rfl]
 refine Ev.step (fun k => ?_) (nameLoop_ev s hs)
 simp only [strongroomref05_Name.j0]
 rw [if_neg (by simp)]
theorem cutL_len : ∀ (l : List UInt8), (cutL l).length ≤ l.length + 1
 | [] => by simp [cutL]
 | b :: l => by
  have ih := cutL_len l
  unfold cutL
  split
  ·simp; omega
  ·cases hc : cutL l with
   | nil => simp
   | cons x t => rw [hc] at ih; simp at ih ⊢; omega
theorem cutL_piece : ∀ (l : List UInt8) (x : List UInt8), x ∈ cutL l → x.length ≤ l.length
 | [], x, h => by simp [cutL] at h; simp [h]
 | b :: l, x, h => by
  unfold cutL at h
  split at h
  ·rcases List.mem_cons.1 h with rfl | h
   ·simp
   ·have := cutL_piece l x h; simp; omega
  ·cases hc : cutL l with
   | nil => rw [hc] at h; simp at h; simp [h]
   | cons y t =>
    rw [hc] at h
    rcases List.mem_cons.1 h with rfl | h
    ·have := cutL_piece l y (by rw [hc]; simp); simp; omega
    ·have := cutL_piece l x (by rw [hc]; simp [h]); simp; omega
theorem rgood_ev (s : List UInt8) : Ev (fun k => strongroomref05_Good.f k ⟨s.toArray⟩) (goodB ⟨s.toArray⟩) := by
 rw [goodB_goodL]
 show Ev _ (goodL s)
 simp only [strongroomref05_Good.f, mk_size]
 by_cases h : 32 < s.length
 ·refine ifpos (by omega) ?_
  rw [show goodL s = false by rw [goodL, show decide (s.length ≤ 32) = false from decide_eq_false (by omega)]; simp]
  exact Ev.now _
 refine ifneg (by omega) ?_
 refine Ev.bind (cut_ev s (by omega)) ?_
 have hlen := cutL_len s
 have key : goodL s = (cutL s).all nameB := by
  rw [goodL, show decide (s.length ≤ 32) = true from decide_eq_true (by omega)]
  rcases s with _ | ⟨b, s⟩
  ·rfl
  ·simp
 rw [key]
 refine all_loop (cutL s) nameB (fun k i => strongroomref05_Good.l0 k ((cutL s).map mkB) i) (fun i c cs hd hc r hr => ?_) (fun i c cs hd hc => ?_) ?_ (cutL s) 0 rfl (Nat.zero_le _)
 ·obtain ⟨h1, h2, h3⟩ := drop_cons_facts hd
  have hcl := cutL_piece s c (List.mem_of_getElem? h1)
  have hrd : rdOf ByteArray.empty ((cutL s).map mkB) (i : Int) = mkB c := by simp [rdOf, List.getD_eq_getElem?_getD, h1]
  refine Ev.step (f := fun k => (strongroomref05_Name.f k (mkB c)).bind fun t => if t = true then strongroomref05_Good.l0 k ((cutL s).map mkB) ((i + 1 : Nat) : Int) else some false) (fun k => ?_) ?_
  ·simp only [strongroomref05_Good.l0, List.length_map, hrd]
   rw [if_pos (by omega), if_pos (by omega), wrap_succ h3 (by omega)]
  ·refine Ev.bind (rname_ev c (by omega)) ?_
   exact ifpos hc hr
 ·obtain ⟨h1, h2, h3⟩ := drop_cons_facts hd
  have hcl := cutL_piece s c (List.mem_of_getElem? h1)
  have hrd : rdOf ByteArray.empty ((cutL s).map mkB) (i : Int) = mkB c := by simp [rdOf, List.getD_eq_getElem?_getD, h1]
  refine Ev.step (f := fun k => (strongroomref05_Name.f k (mkB c)).bind fun t => if t = true then strongroomref05_Good.l0 k ((cutL s).map mkB) ((i + 1 : Nat) : Int) else some false) (fun k => ?_) ?_
  ·simp only [strongroomref05_Good.l0, List.length_map, hrd]
   rw [if_pos (by omega), if_pos (by omega), wrap_succ h3 (by omega)]
  ·refine Ev.bind (rname_ev c (by omega)) ?_
   exact ifneg (by rw [hc]; simp) (Ev.now _)
 ·refine Ev.step (f := fun _ => some true) (fun k => ?_) (Ev.now _)
  simp only [strongroomref05_Good.l0, List.length_map]
  rw [if_neg (by omega)]
theorem rgood_ev' (p : ByteArray) : Ev (fun k => strongroomref05_Good.f k p) (goodB p) := rgood_ev p.data.toList
def cutF : Nat → Nat → Nat
 | 0, _ => 1
 | f + 1, n => if n ≤ 2 then 1 else 2 * cutF f ((n + 1) / 2)
/-- how many of n leaves stand in the first part -/
def cutN (n : Nat) : Nat := cutF 10 n
theorem cutN_ok : ∀ n, n < 1025 → 2 ≤ n → 1 ≤ cutN n ∧ cutN n < n := by decide +kernel
def leafB (p s : List UInt8) : List UInt8 := dig (0 :: (putL p.length ++ p ++ s))
def bothB (a b : List UInt8) : List UInt8 := dig (1 :: (a ++ b))
/-- the digest of a list of leaves' digests' sources -/
def digL (l : List (List UInt8 × List UInt8)) : List UInt8 :=
 if _h : 2 ≤ l.length ∧ 1 ≤ cutN l.length ∧ cutN l.length < l.length then bothB (digL (l.take (cutN l.length))) (digL (l.drop (cutN l.length))) else match l with
  | [] => dig [2]
  | x :: _ => leafB x.1 x.2
termination_by l.length
decreasing_by all_goals (simp only [List.length_take, List.length_drop]; omega)
theorem digL_nil : digL [] = dig [2] := by rw [digL, dif_neg (by simp)]
theorem digL_one (x : List UInt8 × List UInt8) : digL [x] = leafB x.1 x.2 := by rw [digL, dif_neg (by simp)]
theorem digL_big {l : List (List UInt8 × List UInt8)} (h : 2 ≤ l.length) (hb : l.length ≤ 1024) : digL l = bothB (digL (l.take (cutN l.length))) (digL (l.drop (cutN l.length))) := by
 have := cutN_ok l.length (by omega) h
 rw [digL, dif_pos ⟨h, this.1, this.2⟩]
theorem digL_len (l : List (List UInt8 × List UInt8)) : (digL l).length = 32 := by
 rw [digL]
 split
 ·exact dig_length _
 ·split <;> exact dig_length _
theorem bytesN_map (l : List UInt8) : bytesN (l.map I) = l := by
 simp [bytesN, I, Function.comp_def]
theorem okBytes_map (l : List UInt8) : okBytes (l.map I) = true := by
 simp only [okBytes, List.all_map, List.all_eq_true]
 intro x _
 have := x.toNat_lt
 simp [I]; omega
theorem shaSum_is (l : List UInt8) (h0 : 0 < l.length) (h1 : l.length ≤ 1000000) : shaSumF (l.map I) = some ⟨(dig l).toArray⟩ := by
 unfold shaSumF
 rw [if_pos ⟨by simpa using h0, by simp; omega, okBytes_map l⟩, bytesN_map]
theorem both_is (a b : List UInt8) (ha : a.length ≤ 1000) (hb : b.length ≤ 1000) : merkle_both.f ⟨a.toArray⟩ ⟨b.toArray⟩ = some ⟨(bothB a b).toArray⟩ := by
 simp only [merkle_both.f, bothF, mk_size]
 rw [if_pos (by omega)]
 rfl
theorem leaf_ev (p s : List UInt8) (hp : p.length ≤ 1000) (hs : s.length ≤ 1000) : Ev (fun k => merkle_leaf.f k ⟨p.toArray⟩ ⟨s.toArray⟩) ⟨(leafB p s).toArray⟩ := by
 have h10 := putL_ten (n := p.length) (by omega)
 simp only [merkle_leaf.f]
 refine Ev.bind (putText_ev [0] p (by simp; omega) (by omega)) ?_
 refine ifpos (by rw [mk_size]; simp; omega) ?_
 have e : ([0] ++ putL p.length ++ p).map I ++ bytesOf ⟨s.toArray⟩ = (0 :: (putL p.length ++ p ++ s)).map I := by
  rw [bytes_mk, ← List.map_append]; simp
 simp only [sha_Sum.f, e]
 rw [shaSum_is _ (by simp) (by simp; omega)]
 exact Ev.now _
def hF : Nat → Nat → Nat → Nat
 | 0, _, k => k
 | f + 1, n, k => if 2 * k < n then hF f n (2 * k) else k
theorem half_loop : ∀ (f n k : Nat), n ≤ k * 2 ^ f → 1 ≤ k → k ≤ 1000000 → n ≤ 1000000 → Ev (fun m => merkle_half.l0 m (n : Int) (k : Int)) ((hF f n k : Nat) : Int) := by
 intro f
 induction f with
 | zero =>
  intro n k h h1 hk hn
  refine Ev.step (f := fun _ => some (k : Int)) (fun m => ?_) (Ev.now _)
  simp only [merkle_half.l0]
  rw [show wrap64 (2 * (k : Int)) = 2 * (k : Int) by unfold wrap64; omega, if_neg (by omega)]
 | succ f ih =>
  intro n k h h1 hk hn
  by_cases hlt : 2 * k < n
  ·rw [hF, if_pos hlt]
   refine Ev.step (fun m => ?_) (ih n (2 * k) (by rw [Nat.pow_succ] at h; rw [Nat.mul_comm 2 k, Nat.mul_assoc, Nat.mul_comm 2]; exact h) (by omega) (by omega) hn)
   simp only [merkle_half.l0]
   rw [show wrap64 (2 * (k : Int)) = 2 * (k : Int) by unfold wrap64; omega, if_pos (by omega), show wrap64 ((k : Int) * 2) = ((2 * k : Nat) : Int) by unfold wrap64; omega]
  ·rw [hF, if_neg hlt]
   refine Ev.step (f := fun _ => some (k : Int)) (fun m => ?_) (Ev.now _)
   simp only [merkle_half.l0]
   rw [show wrap64 (2 * (k : Int)) = 2 * (k : Int) by unfold wrap64; omega, if_neg (by omega)]
theorem hF_cut : ∀ n, n < 1025 → 2 ≤ n → hF 10 n 1 = cutN n := by decide +kernel
theorem half_ev (n : Nat) (h2 : 2 ≤ n) (h : n ≤ 1024) : Ev (fun m => merkle_half.f m (n : Int)) ((cutN n : Nat) : Int) := by
 have := half_loop 10 n 1 (by omega) (by omega) (by omega) (by omega)
 rw [hF_cut n (by omega) h2] at this
 simp only [merkle_half.f]
 exact this
/-- may a leaf be -/
def goodX (p s : ByteArray) : Bool := goodB p && ((s.size : Int) == 32)
theorem good_is (p s : ByteArray) : merkle_good.f p s = some (goodX p s) := by
 simp only [merkle_good.f, path_Good.f, Option.bind_some, goodX]
 cases goodB p <;> simp
theorem goodX_le {p s : ByteArray} (h : goodX p s = true) : p.size ≤ 32 ∧ s.size = 32 := by
 simp only [goodX, Bool.and_eq_true, beq_iff_eq] at h
 have := goodB_le h.1
 omega
abbrev SL := S44
abbrev xE : SL := ⟨⟨#[97]⟩, ⟨(List.replicate 32 (0 : UInt8)).toArray⟩⟩
theorem zeros_is : strOfNums (List.replicate 32 (0 : Int)) = ⟨(List.replicate 32 (0 : UInt8)).toArray⟩ := by
 have : (List.replicate 32 (0 : Int)) = (List.replicate 32 (0 : UInt8)).map I := by simp [I]
 rw [this, nums_mk]
theorem xE_good : goodX xE.f0 xE.f1 = true := by
 have h : goodB (⟨#[97]⟩ : ByteArray) = true := by decide +kernel
 simp only [goodX, h]
 decide
theorem check_nil : Ev (fun k => merkle_Check.f k []) 0 := by
 simp only [merkle_Check.f]
 refine ifneg (by simp) ?_
 refine Ev.step (f := fun _ => some 0) (fun k => ?_) (Ev.now _)
 simp only [merkle_Check.l0]
 rw [if_neg (by simp)]
theorem check_one : Ev (fun k => merkle_Check.f k [xE]) 0 := by
 simp only [merkle_Check.f]
 refine ifneg (by simp) ?_
 refine Ev.step (f := fun k => merkle_Check.l0 k [xE] [xE] 1 1) (fun k => ?_) (Ev.step (f := fun _ => some 0) (fun k => ?_) (Ev.now _))
 ·simp only [merkle_Check.l0]
  rw [if_pos (by simp), if_pos (by omega), if_pos (by simp), show rd_T44 [xE] 0 = xE from rfl, good_is, xE_good]
  simp only [Option.bind_some]
  rw [if_pos trivial, if_neg (by omega), show wrap64 ((0 : Int) + 1) = 1 by decide +kernel]
  rfl
 ·simp only [merkle_Check.l0]
  rw [if_neg (by omega)]
theorem none_is : merkle_none.f = some ⟨(dig [2]).toArray⟩ := by
 simp only [merkle_none.f, sha_Sum.f]
 have : ([2] : List Int) = ([2] : List UInt8).map I := rfl
 rw [this, shaSum_is [2] (by simp) (by simp)]
 rfl
theorem dig_nil : Ev (fun k => merkle_Digest.f k []) ⟨(dig [2]).toArray⟩ := by
 simp only [merkle_Digest.f]
 refine Ev.bind check_nil ?_
 refine ifpos rfl ?_
 refine Ev.bind (a := ⟨(dig [2]).toArray⟩) ?_ (Ev.now _)
 refine Ev.step (f := fun _ => some ⟨(dig [2]).toArray⟩) (fun k => ?_) (Ev.now _)
 simp only [merkle_digest.f]
 rw [if_pos (by simp), none_is]
 rfl
theorem prove_one : Ev (fun k => merkle_Prove.f k [xE] 0) ([], 0) := by
 simp only [merkle_Prove.f]
 refine Ev.bind check_one ?_
 refine ifpos rfl ?_
 refine ifneg (by omega) ?_
 refine ifneg (by simp) ?_
 refine Ev.bind (a := []) ?_ (Ev.now _)
 refine Ev.step (f := fun _ => some []) (fun k => ?_) (Ev.now _)
 simp only [merkle_prove.f]
 rw [if_pos (by simp)]
theorem diff_one : Ev (fun k => merkle_Diff.f k [] [xE]) [⟨xE.f0, ⟨#[]⟩, xE.f1⟩] := by
 simp only [merkle_Diff.f]
 refine Ev.bind check_nil ?_
 refine ifpos rfl ?_
 refine Ev.bind check_one ?_
 refine Ev.step (f := fun k => merkle_Diff.l0 k [] [xE] []) (fun k => ?_) (Ev.step (f := fun k => merkle_Diff.j2 k [] [xE] [] true) (fun k => ?_) (Ev.step (f := fun k => merkle_Diff.j3 k [] [xE] [] false) (fun k => ?_) (Ev.step (f := fun k => merkle_Diff.j4 k [] [xE] [] true) (fun k => ?_) (Ev.step (f := fun k => merkle_Diff.l0 k [] [] [⟨xE.f0, ⟨#[]⟩, xE.f1⟩]) (fun k => ?_) (Ev.step (f := fun k => merkle_Diff.j2 k [] [] [⟨xE.f0, ⟨#[]⟩, xE.f1⟩] false) (fun k => ?_) (Ev.step (f := fun _ => some [⟨xE.f0, ⟨#[]⟩, xE.f1⟩]) (fun k => ?_) (Ev.now _)))))))
 ·simp only [merkle_Diff.j0]
  rw [if_neg (by decide)]
 ·simp only [merkle_Diff.l0]
  rw [if_neg (by simp)]
  rfl
 ·simp only [merkle_Diff.j2]
  rw [if_pos trivial, if_neg (by simp), if_neg (by simp)]
 ·simp only [merkle_Diff.j3]
  rw [if_neg (by simp), if_pos (by simp)]
 ·simp only [merkle_Diff.j4]
  rw [if_pos trivial, if_pos (by simp), if_pos (by simp), if_pos (by simp)]
  rfl
 ·simp only [merkle_Diff.l0]
  rw [if_neg (by simp)]
  rfl
 ·simp only [merkle_Diff.j2]
  rw [if_neg (by simp)]
theorem lives_ev : Ev (fun k => strongroomlaw20_lives.f k) true := by
 simp only [strongroomlaw20_lives.f, Option.bind_some, zeros_is]
 refine ifpos (by omega) ?_
 refine Ev.bind prove_one ?_
 refine Ev.bind diff_one ?_
 refine ifpos rfl ?_
 refine ifpos rfl ?_
 refine ifpos rfl ?_
 refine ifpos (by simp) ?_
 refine ifpos (by simp only [toList_data]; decide) ?_
 refine Ev.bind dig_nil ?_
 rw [show (((⟨(dig [2]).toArray⟩ : ByteArray).size : Int) == 32) = true by rw [mk_size, dig_length]; rfl]
 exact Ev.now _
theorem lives_ev' : Ev (fun k => (strongroomlaw20_lives.f k).bind fun t => some t) true := Ev.bind lives_ev (Ev.now _)
theorem rgoodX_ev (p s : ByteArray) : Ev (fun k => strongroomref20_Good.f k p s) (goodX p s) := by
 simp only [strongroomref20_Good.f, goodX]
 refine Ev.bind (rgood_ev' p) ?_
 cases goodB p
 ·exact ifneg (by simp) (Ev.now _)
 ·exact ifpos rfl (Ev.now _)
/-- are leaves so few and small that they are gone through -/
def smallX (l : List S39) : Bool := decide (l.length ≤ 60) && l.all fun x => decide (x.f0.size ≤ 200) && decide (x.f1.size ≤ 200)
theorem small_ev (l : List S39) : Ev (fun k => strongroomlaw20_small.f k l) (smallX l) := by
 simp only [strongroomlaw20_small.f, smallX]
 by_cases hl : l.length ≤ 60
 ·refine ifneg (by omega) ?_
  rw [decide_eq_true hl, Bool.true_and]
  refine all_loop l (fun x => decide (x.f0.size ≤ 200) && decide (x.f1.size ≤ 200)) (fun k i => strongroomlaw20_small.l0 k l i) (fun i c cs hd hc r hr => ?_) (fun i c cs hd hc => ?_) ?_ l 0 rfl (Nat.zero_le _)
  ·obtain ⟨h1, h2, h3⟩ := drop_cons_facts hd
   have hr2 : rd_T39 l (i : Int) = c := by simp [rd_T39, List.getD_eq_getElem?_getD, h1]
   simp only [Bool.and_eq_true, decide_eq_true_eq] at hc
   refine Ev.step (fun k => ?_) hr
   simp only [strongroomlaw20_small.l0, hr2]
   rw [if_pos (by omega), if_pos (by omega), if_neg (by omega), if_neg (by omega), wrap_succ h3 (by omega)]
  ·obtain ⟨h1, h2, h3⟩ := drop_cons_facts hd
   have hr2 : rd_T39 l (i : Int) = c := by simp [rd_T39, List.getD_eq_getElem?_getD, h1]
   refine Ev.step (f := fun _ => some false) (fun k => ?_) (Ev.now _)
   simp only [strongroomlaw20_small.l0, hr2]
   rw [if_pos (by omega), if_pos (by omega)]
   by_cases g1 : c.f0.size ≤ 200
   ·rw [if_neg (by omega)]
    by_cases g2 : c.f1.size ≤ 200
    ·simp [g1, g2] at hc
    ·rw [if_pos (by omega)]
   ·rw [if_pos (by omega)]
  ·refine Ev.step (f := fun _ => some true) (fun k => ?_) (Ev.now _)
   simp only [strongroomlaw20_small.l0]
   rw [if_neg (by omega)]
 ·refine ifpos (by omega) ?_
  rw [decide_eq_false hl, Bool.false_and]
  exact Ev.now _
theorem all_loopG {α β : Type} (l : List α) (P : α → Bool) (rt rf : β) (F : Nat → Int → Option β)
  (ht : ∀ i c cs, l.drop i = c :: cs → P c = true → ∀ r, Ev (fun k => F k ((i + 1 : Nat) : Int)) r → Ev (fun k => F k (i : Int)) r)
  (hf : ∀ i c cs, l.drop i = c :: cs → P c = false → Ev (fun k => F k (i : Int)) rf)
  (he : Ev (fun k => F k ((l.length : Nat) : Int)) rt) : ∀ (cs : List α) (i : Nat), l.drop i = cs → i ≤ l.length → Ev (fun k => F k (i : Int)) (if cs.all P = true then rt else rf) := by
 intro cs
 induction cs with
 | nil =>
  intro i hd hi
  rw [drop_nil_len hd hi]
  exact he
 | cons c cs ih =>
  intro i hd hi
  obtain ⟨_, hd2, hlt⟩ := drop_cons_facts hd
  cases hc : P c
  ·rw [List.all_cons, hc, Bool.false_and, if_neg (by simp)]; exact hf i c cs hd hc
  ·rw [List.all_cons, hc, Bool.true_and]; exact ht i c cs hd hc _ (ih (i + 1) hd2 hlt)
abbrev toM (x : S39) : S44 := ⟨x.f0, x.f1⟩
abbrev toP (x : S44) : List UInt8 × List UInt8 := (x.f0.data.toList, x.f1.data.toList)
abbrev toP9 (x : S39) : List UInt8 × List UInt8 := (x.f0.data.toList, x.f1.data.toList)
theorem toP_toM (l : List S39) : (l.map toM).map toP = l.map toP9 := by rw [List.map_map]; rfl
theorem rd39_of (l : List S39) (i : Nat) (h : i < l.length) : rd_T39 l (i : Int) = l[i] := by simp [rd_T39, List.getD_eq_getElem?_getD, h]
theorem rd44_of (l : List S44) (i : Nat) (h : i < l.length) : rd_T44 l (i : Int) = l[i] := by simp [rd_T44, List.getD_eq_getElem?_getD, h]
theorem mine_ev (l : List S39) (hl : l.length < 1000000) : Ev (fun k => strongroomlaw20_mine.f k l) (l.map toM) := by
 have loop : ∀ (d i : Nat), i + d = l.length → Ev (fun k => strongroomlaw20_mine.l0 k l ((l.take i).map toM) (i : Int)) (l.map toM) := by
  intro d
  induction d with
  | zero =>
   intro i hi
   refine Ev.step (f := fun _ => some (l.map toM)) (fun k => ?_) (Ev.now _)
   simp only [strongroomlaw20_mine.l0]
   rw [if_neg (by omega), List.take_of_length_le (by omega)]
  | succ d ih =>
   intro i hi
   have hlt : i < l.length := by omega
   refine Ev.step (fun k => ?_) (ih (i + 1) (by omega))
   simp only [strongroomlaw20_mine.l0, rd39_of l i hlt]
   rw [if_pos (by omega), if_pos (by omega), if_pos (by simp; omega), wrap_succ hlt (by omega), List.take_add_one, List.getElem?_eq_getElem hlt, List.map_append]
   rfl
 exact loop l.length 0 (by omega)
/-- may a leaf stand at its place -/
def okAt (l : List S39) (i : Nat) : Bool := goodX (rd_T39 l (i : Int)).f0 (rd_T39 l (i : Int)).f1 && (decide (i = 0) || Op.bytesLess (rd_T39 l ((i - 1 : Nat) : Int)).f0.toList (rd_T39 l (i : Int)).f0.toList)
def listB (l : List S39) : Bool := (List.range l.length).all (okAt l)
theorem range_drop {n i c : Nat} {cs : List Nat} (h : (List.range n).drop i = c :: cs) : c = i ∧ i < n := by
 obtain ⟨h1, _, h3⟩ := drop_cons_facts h
 rw [List.length_range] at h3
 rw [List.getElem?_range h3] at h1
 exact ⟨(Option.some.inj h1).symm, h3⟩
theorem rwhy_ev (l : List S39) (hl : l.length ≤ 1024) : Ev (fun k => strongroomref20_Why.f k l) (if listB l = true then 0 else 1) := by
 simp only [strongroomref20_Why.f]
 refine ifneg (by omega) ?_
 have key := all_loopG (List.range l.length) (okAt l) (0 : Int) 1 (fun k i => strongroomref20_Why.l0 k l i) (fun i c cs hd hc r hr => ?_) (fun i c cs hd hc => ?_) ?_ (List.range l.length) 0 rfl (Nat.zero_le _)
 ·exact key
 ·obtain ⟨rfl, hi⟩ := range_drop hd
  simp only [okAt, Bool.and_eq_true, Bool.or_eq_true, decide_eq_true_eq] at hc
  refine Ev.step (f := fun k => (strongroomref20_Good.f k (rd_T39 l (c : Int)).f0 (rd_T39 l (c : Int)).f1).bind fun t => if t = true then strongroomref20_Why.l0 k l ((c + 1 : Nat) : Int) else some 1) (fun k => ?_) ?_
  ·simp only [strongroomref20_Why.l0]
   rw [if_pos (by omega), if_pos (by omega), wrap_succ hi (by omega)]
   by_cases h0 : c = 0
   ·simp only [if_neg (show ¬ (c : Int) > 0 by omega)]
   ·simp only [if_pos (show (c : Int) > 0 by omega), show wrap64 ((c : Int) - 1) = ((c - 1 : Nat) : Int) by unfold wrap64; omega]
    simp only [if_pos (show (0 : Int) ≤ ((c - 1 : Nat) : Int) by omega), if_pos (show ((c - 1 : Nat) : Int) < (l.length : Int) by omega), if_pos (hc.2.resolve_left h0)]
  ·exact Ev.bind (rgoodX_ev _ _) (ifpos hc.1 hr)
 ·obtain ⟨rfl, hi⟩ := range_drop hd
  by_cases hg : goodX (rd_T39 l (c : Int)).f0 (rd_T39 l (c : Int)).f1 = true
  ·simp only [okAt, hg, Bool.true_and, Bool.or_eq_false_iff, decide_eq_false_iff_not] at hc
   refine Ev.step (f := fun k => (strongroomref20_Good.f k (rd_T39 l (c : Int)).f0 (rd_T39 l (c : Int)).f1).bind fun t => if t = true then some 1 else some 1) (fun k => ?_) (Ev.bind (rgoodX_ev _ _) (ifpos hg (Ev.now _)))
   simp only [strongroomref20_Why.l0]
   rw [if_pos (by omega), if_pos (by omega)]
   have h0 := hc.1
   simp only [if_pos (show (c : Int) > 0 by omega), show wrap64 ((c : Int) - 1) = ((c - 1 : Nat) : Int) by unfold wrap64; omega]
   simp only [if_pos (show (0 : Int) ≤ ((c - 1 : Nat) : Int) by omega), if_pos (show ((c - 1 : Nat) : Int) < (l.length : Int) by omega), hc.2, Bool.false_eq_true, if_false]
  ·refine Ev.step (fun k => ?_) (Ev.bind (f := fun k t => if t = true then (if (c : Int) > 0 then (if 0 ≤ (wrap64 ((c : Int) - 1)) then (if (wrap64 ((c : Int) - 1)) < (l.length : Int) then (if ((Op.bytesLess (((rd_T39 l (wrap64 ((c : Int) - 1))).f0).toList) (((rd_T39 l (c : Int)).f0).toList)) = true) then (strongroomref20_Why.l0 k l (wrap64 ((c : Int) + 1))) else (some 1)) else (none)) else (none)) else (strongroomref20_Why.l0 k l (wrap64 ((c : Int) + 1)))) else some 1) (rgoodX_ev _ _) (ifneg hg (Ev.now _)))
   simp only [strongroomref20_Why.l0]
   rw [if_pos (by omega), if_pos (by omega)]
 ·refine Ev.step (f := fun _ => some 0) (fun k => ?_) (Ev.now _)
  simp only [strongroomref20_Why.l0]
  rw [if_neg (by rw [List.length_range]; omega)]
theorem rd_mine (l : List S39) (i : Nat) (h : i < l.length) : rd_T44 (l.map toM) (i : Int) = toM (rd_T39 l (i : Int)) := by
 rw [rd44_of _ i (by simpa using h), rd39_of l i h]; simp
theorem check_ev (l : List S39) (hl : l.length ≤ 1024) : Ev (fun k => merkle_Check.f k (l.map toM)) (if listB l = true then 0 else 1) := by
 simp only [merkle_Check.f, List.length_map]
 refine ifneg (by omega) ?_
 have key := all_loopG (List.range l.length) (okAt l) (0 : Int) 1 (fun k i => merkle_Check.l0 k (l.map toM) (l.map toM) (l.length : Int) i) (fun i c cs hd hc r hr => ?_) (fun i c cs hd hc => ?_) ?_ (List.range l.length) 0 rfl (Nat.zero_le _)
 ·exact key
 ·obtain ⟨rfl, hi⟩ := range_drop hd
  simp only [okAt, Bool.and_eq_true, Bool.or_eq_true, decide_eq_true_eq] at hc
  refine Ev.step (fun k => ?_) hr
  simp only [merkle_Check.l0, List.length_map, rd_mine l c hi, good_is, Option.bind_some]
  rw [if_pos (by omega), if_pos (by omega), if_pos (by omega), if_pos hc.1, wrap_succ hi (by omega)]
  by_cases h0 : c = 0
  ·rw [if_neg (show ¬ (c : Int) > 0 by omega)]
  ·rw [if_pos (show (c : Int) > 0 by omega), show wrap64 ((c : Int) - 1) = ((c - 1 : Nat) : Int) by unfold wrap64; omega, rd_mine l (c - 1) (by omega), if_pos (by omega), if_pos (by omega), if_pos (hc.2.resolve_left h0)]
 ·obtain ⟨rfl, hi⟩ := range_drop hd
  refine Ev.step (f := fun _ => some 1) (fun k => ?_) (Ev.now _)
  simp only [merkle_Check.l0, List.length_map, rd_mine l c hi, good_is, Option.bind_some]
  rw [if_pos (by omega), if_pos (by omega), if_pos (by omega)]
  by_cases hg : goodX (rd_T39 l (c : Int)).f0 (rd_T39 l (c : Int)).f1 = true
  ·simp only [okAt, hg, Bool.true_and, Bool.or_eq_false_iff, decide_eq_false_iff_not] at hc
   have h0 := hc.1
   rw [if_pos hg, if_pos (show (c : Int) > 0 by omega), show wrap64 ((c : Int) - 1) = ((c - 1 : Nat) : Int) by unfold wrap64; omega, rd_mine l (c - 1) (by omega), if_pos (by omega), if_pos (by omega), if_neg (by rw [hc.2]; simp)]
  ·rw [if_neg hg]
 ·refine Ev.step (f := fun _ => some 0) (fun k => ?_) (Ev.now _)
  simp only [merkle_Check.l0]
  rw [if_neg (by rw [List.length_range]; omega)]
/-- are the texts of leaves short -/
def tinyL (l : List (List UInt8 × List UInt8)) : Prop := ∀ x ∈ l, x.1.length ≤ 200 ∧ x.2.length ≤ 200
theorem tiny_take {l : List (List UInt8 × List UInt8)} (h : tinyL l) (n : Nat) : tinyL (l.take n) := fun x hx => h x (List.mem_of_mem_take hx)
theorem tiny_drop {l : List (List UInt8 × List UInt8)} (h : tinyL l) (n : Nat) : tinyL (l.drop n) := fun x hx => h x (List.mem_of_mem_drop hx)
theorem digest_ev : ∀ (m : Nat) (l : List S44), l.length ≤ m → l.length ≤ 1024 → tinyL (l.map toP) → Ev (fun k => merkle_digest.f k l) (mkB (digL (l.map toP))) := by
 intro m
 induction m with
 | zero =>
  intro l hm _ _
  obtain rfl := List.eq_nil_of_length_eq_zero (by omega : l.length = 0)
  rw [List.map_nil, digL_nil]
  refine Ev.step (f := fun _ => some (mkB (dig [2]))) (fun k => ?_) (Ev.now _)
  simp only [merkle_digest.f]
  rw [if_pos (by simp), none_is]
  rfl
 | succ m ih =>
  intro l hm hb ht
  by_cases h0 : l.length = 0
  ·exact ih l (by omega) hb ht
  by_cases h1 : l.length = 1
  ·obtain ⟨x, rfl⟩ := List.length_eq_one_iff.1 h1
   have hx : x.f0.data.toList.length ≤ 200 ∧ x.f1.data.toList.length ≤ 200 := ht (toP x) (by simp)
   rw [List.map_cons, List.map_nil, digL_one]
   refine Ev.step (f := fun k => (merkle_leaf.f k x.f0 x.f1).bind fun t => some t) (fun k => ?_) (Ev.bind (leaf_ev x.f0.data.toList x.f1.data.toList (by omega) (by omega)) (Ev.now _))
   simp only [merkle_digest.f]
   rw [if_neg (by simp), if_pos (by simp), if_pos (by simp)]
   rfl
  have hc := cutN_ok l.length (by omega) (by omega)
  rw [digL_big (by rw [List.length_map]; omega) (by rw [List.length_map]; omega), List.length_map, ← List.map_take, ← List.map_drop]
  refine Ev.step (f := fun k => (merkle_half.f k (l.length : Int)).bind fun t => if 0 ≤ t then (if t ≤ (l.length : Int) then ((merkle_digest.f k (l.take t.toNat)).bind fun u => (merkle_digest.f k (l.drop t.toNat)).bind fun v => (merkle_both.f u v).bind fun w => some w) else none) else none) (fun k => ?_) ?_
  ·simp only [merkle_digest.f]
   rw [if_neg (by omega), if_neg (by omega)]
  refine Ev.bind (half_ev l.length (by omega) hb) ?_
  refine ifpos (by omega) ?_
  refine ifpos (by omega) ?_
  rw [Int.toNat_natCast]
  refine Ev.bind (ih (l.take (cutN l.length)) (by rw [List.length_take]; omega) (by rw [List.length_take]; omega) (by rw [List.map_take]; exact tiny_take ht _)) ?_
  refine Ev.bind (ih (l.drop (cutN l.length)) (by rw [List.length_drop]; omega) (by rw [List.length_drop]; omega) (by rw [List.map_drop]; exact tiny_drop ht _)) ?_
  rw [both_is _ _ (by rw [digL_len]; omega) (by rw [digL_len]; omega)]
  exact Ev.now _
theorem small_facts {l : List S39} (h : smallX l = true) : l.length ≤ 60 ∧ tinyL (l.map toP9) := by
 simp only [smallX, Bool.and_eq_true, decide_eq_true_eq, List.all_eq_true] at h
 refine ⟨h.1, fun x hx => ?_⟩
 obtain ⟨y, hy, rfl⟩ := List.mem_map.1 hx
 exact h.2 y hy
theorem Digest_ev (l : List S39) (hl : l.length ≤ 1024) (ht : tinyL (l.map toP9)) : Ev (fun k => merkle_Digest.f k (l.map toM)) (if listB l = true then mkB (digL (l.map toP9)) else ⟨#[]⟩) := by
 simp only [merkle_Digest.f]
 refine Ev.bind (check_ev l hl) ?_
 have hd := digest_ev l.length (l.map toM) (by simp) (by simpa using hl) (by rw [toP_toM]; exact ht)
 rw [toP_toM] at hd
 cases listB l
 ·exact ifneg (by decide) (Ev.now _)
 ·exact ifpos rfl (Ev.bind hd (Ev.now _))
theorem list_ev (l : List S39) (hl : l.length ≤ 1024) : Ev (fun k => strongroomlaw20_list.f k l) (listB l) := by
 simp only [strongroomlaw20_list.f]
 refine Ev.bind (rwhy_ev l hl) ?_
 cases listB l
 ·exact Ev.now _
 ·exact Ev.now _
/-- the order of texts -/
def ltB (a b : ByteArray) : Bool := Op.bytesLess a.toList b.toList
theorem ltB_iff (a b : ByteArray) : ltB a b = true ↔ a.data.toList < b.data.toList := by
 rw [ltB, bytesLess_eq, toList_data, toList_data]; simp
theorem ltB_irr (a : ByteArray) : ltB a a = false := by
 rw [Bool.eq_false_iff, ne_eq, ltB_iff]
 exact List.lt_irrefl _
theorem ltB_trans {a b c : ByteArray} (h1 : ltB a b = true) (h2 : ltB b c = true) : ltB a c = true := by
 rw [ltB_iff] at *
 exact List.lt_trans h1 h2
theorem ext_toList {a b : ByteArray} (h : a.toList = b.toList) : a = b := by
 rw [toList_data, toList_data] at h
 cases a; cases b
 congr 1
 exact Array.toList_inj.1 h
theorem ltB_tri {a b : ByteArray} (h1 : ltB a b = false) (h2 : ltB b a = false) : a = b := by
 rw [Bool.eq_false_iff, ne_eq, ltB_iff, List.not_lt] at h1 h2
 exact ext_toList (by rw [toList_data, toList_data]; exact List.le_antisymm h2 h1)
theorem ltB_ne {a b : ByteArray} (h : ltB a b = true) : ¬ a.toList = b.toList := by
 intro e
 rw [ext_toList e, ltB_irr] at h
 cases h
theorem ltB_asymm {a b : ByteArray} (h : ltB a b = true) : ltB b a = false := by
 cases g : ltB b a
 ·rfl
 ·have := ltB_trans h g
  rw [ltB_irr] at this; cases this
/-- leaves in order -/
def srt (l : List S39) : Prop := l.Pairwise fun x y => ltB x.f0 y.f0 = true
theorem listB_adj {l : List S39} (h : listB l = true) (i : Nat) (hi : i + 1 < l.length) : ltB (l[i]'(by omega)).f0 (l[i + 1]).f0 = true := by
 have := List.all_eq_true.1 h (i + 1) (List.mem_range.2 hi)
 simp only [okAt, Bool.and_eq_true, Bool.or_eq_true, decide_eq_true_eq] at this
 have h2 := this.2.resolve_left (by omega)
 rw [rd39_of l (i + 1) hi, show i + 1 - 1 = i by omega, rd39_of l i (by omega)] at h2
 exact h2
theorem listB_lt {l : List S39} (h : listB l = true) : ∀ (d i : Nat) (hi : i + d + 1 < l.length), ltB (l[i]'(by omega)).f0 (l[i + d + 1]).f0 = true
 | 0, i, hi => listB_adj h i hi
 | d + 1, i, hi => ltB_trans (listB_lt h d i (by omega)) (listB_adj h (i + d + 1) (by omega))
theorem listB_srt {l : List S39} (h : listB l = true) : srt l := by
 rw [srt, List.pairwise_iff_getElem]
 intro i j hi hj hij
 obtain ⟨d, rfl⟩ : ∃ d, j = i + d + 1 := ⟨j - i - 1, by omega⟩
 exact listB_lt h d i hj
/-- how many paths are less -/
def cnt (l : List S39) (p : ByteArray) : Nat := l.countP fun x => ltB x.f0 p
theorem cnt_le (l : List S39) (p : ByteArray) : cnt l p ≤ l.length := List.countP_le_length
theorem cnt_split : ∀ (l : List S39) (p : ByteArray), srt l → (∀ x ∈ l.take (cnt l p), ltB x.f0 p = true) ∧ (∀ x ∈ l.drop (cnt l p), ltB x.f0 p = false)
 | [], p, _ => by simp
 | x :: t, p, h => by
  have ht : srt t := List.Pairwise.of_cons h
  obtain ⟨h1, h2⟩ := cnt_split t p ht
  by_cases hx : ltB x.f0 p = true
  ·rw [show cnt (x :: t) p = cnt t p + 1 by simp [cnt, hx], List.take_succ_cons, List.drop_succ_cons]
   refine ⟨fun y hy => ?_, h2⟩
   rcases List.mem_cons.1 hy with rfl | hy
   ·exact hx
   ·exact h1 y hy
  ·have hall : ∀ y ∈ t, ltB y.f0 p = false := fun y hy => by
    cases g : ltB y.f0 p
    ·rfl
    ·exact absurd (ltB_trans (List.rel_of_pairwise_cons h hy) g) hx
   have h0 : cnt (x :: t) p = 0 := by
    rw [cnt, List.countP_eq_zero]
    intro y hy
    rcases List.mem_cons.1 hy with rfl | hy
    ·exact hx
    ·rw [hall y hy]; simp
   rw [h0]
   refine ⟨fun y hy => by simp at hy, fun y hy => ?_⟩
   rw [List.drop_zero] at hy
   rcases List.mem_cons.1 hy with rfl | hy
   ·simpa using hx
   ·exact hall y hy
/-- where a path stands, told place by place -/
def fnd : List S39 → ByteArray → Nat → Nat → Nat × Bool
 | [], _, _, n => (n, false)
 | x :: t, p, i, n => if x.f0.toList = p.toList then (i, true) else if ltB x.f0 p = true then fnd t p (i + 1) (n + 1) else fnd t p (i + 1) n
theorem fnd_app (p : ByteArray) : ∀ (A l : List S39) (i n : Nat), (∀ x ∈ A, ltB x.f0 p = true) → fnd (A ++ l) p i n = fnd l p (i + A.length) (n + A.length)
 | [], l, i, n, _ => by simp
 | x :: A, l, i, n, h => by
  have hx := h x (by simp)
  rw [List.cons_append, fnd, if_neg (ltB_ne hx), if_pos hx, fnd_app p A l _ _ (fun y hy => h y (by simp [hy])), List.length_cons]
  congr 1 <;> omega
theorem fnd_gt (p : ByteArray) : ∀ (l : List S39) (i n : Nat), (∀ x ∈ l, ltB p x.f0 = true) → fnd l p i n = (n, false)
 | [], _, _, _ => rfl
 | x :: t, i, n, h => by
  have hx := h x (by simp)
  rw [fnd, if_neg (fun e => ltB_ne hx e.symm), if_neg (by rw [ltB_asymm hx]; simp)]
  exact fnd_gt p t _ n (fun y hy => h y (by simp [hy]))
theorem fnd_le (p : ByteArray) : ∀ (l : List S39) (i n : Nat), n ≤ i → (fnd l p i n).1 ≤ i + l.length ∧ ((fnd l p i n).2 = true → (fnd l p i n).1 < i + l.length)
 | [], i, n, h => by simp [fnd]; omega
 | x :: t, i, n, h => by
  rw [fnd]
  split
  ·simp
  ·split
   ·have := fnd_le p t (i + 1) (n + 1) (by omega)
    rw [List.length_cons]
    refine ⟨by omega, fun g => by have := this.2 g; omega⟩
   ·have := fnd_le p t (i + 1) n (by omega)
    rw [List.length_cons]
    refine ⟨by omega, fun g => by have := this.2 g; omega⟩
/-- the digest of a path in a list -/
def sumS (l : List S39) (p : ByteArray) : ByteArray := if (fnd l p 0 0).2 = true then (l.getD (fnd l p 0 0).1 z39).f1 else ⟨#[]⟩
/-- a list in order at a path: what is less, and what isn't; whether the path is there -/
theorem at_path {l : List S39} (h : srt l) (p : ByteArray) : (∀ x ∈ l.take (cnt l p), ltB x.f0 p = true) ∧
  ((∃ x t, l.drop (cnt l p) = x :: t ∧ x.f0 = p ∧ ∀ y ∈ t, ltB p y.f0 = true) ∨ (∀ y ∈ l.drop (cnt l p), ltB p y.f0 = true)) := by
 obtain ⟨h1, h2⟩ := cnt_split l p h
 refine ⟨h1, ?_⟩
 have hs : srt (l.drop (cnt l p)) := List.Pairwise.sublist (List.drop_sublist _ _) h
 generalize l.drop (cnt l p) = m at h2 hs
 cases m with
 | nil => exact .inr (by simp)
 | cons x t =>
  have hx := h2 x (by simp)
  cases g : ltB p x.f0
  ·have e := ltB_tri hx g
   refine .inl ⟨x, t, rfl, e, fun y hy => ?_⟩
   rw [← e]
   exact List.rel_of_pairwise_cons hs hy
  ·refine .inr (fun y hy => ?_)
   rcases List.mem_cons.1 hy with rfl | hy
   ·exact g
   ·exact ltB_trans g (List.rel_of_pairwise_cons hs hy)
/-- does a list begin with a path -/
def hdB : List S39 → ByteArray → Bool
 | [], _ => false
 | x :: _, p => x.f0.toList == p.toList
theorem hdB_none {l : List S39} {p : ByteArray} (h : ∀ y ∈ l, ltB p y.f0 = true) : hdB l p = false := by
 cases l with
 | nil => rfl
 | cons x t => exact beq_eq_false_iff_ne.2 (fun e => ltB_ne (h x (by simp)) e.symm)
theorem fnd_srt {l : List S39} (h : srt l) (p : ByteArray) (A : List S39) (hA : ∀ x ∈ A, ltB x.f0 p = true) :
  fnd (A ++ l) p 0 0 = (A.length + cnt l p, hdB (l.drop (cnt l p)) p) := by
 obtain ⟨h1, h2⟩ := at_path h p
 have hc := cnt_le l p
 have e : A ++ l = (A ++ l.take (cnt l p)) ++ l.drop (cnt l p) := by rw [List.append_assoc, List.take_append_drop]
 have hB : ∀ x ∈ A ++ l.take (cnt l p), ltB x.f0 p = true := fun x hx => by
  rcases List.mem_append.1 hx with hx | hx
  ·exact hA x hx
  ·exact h1 x hx
 have hl : (A ++ l.take (cnt l p)).length = A.length + cnt l p := by rw [List.length_append, List.length_take]; omega
 rw [e, fnd_app p _ _ _ _ hB, hl]
 rcases h2 with ⟨x, t, g1, g2, _⟩ | g
 ·rw [g1, fnd, if_pos (by rw [g2])]
  simp [hdB, g2]
 ·rw [fnd_gt p _ _ _ g, hdB_none g, Nat.zero_add]
theorem sumS_app {l : List S39} (h : srt l) (p : ByteArray) (A : List S39) (hA : ∀ x ∈ A, ltB x.f0 p = true) : sumS (A ++ l) p = sumS l p := by
 have e1 := fnd_srt h p A hA
 have e2 := fnd_srt h p [] (by simp)
 rw [List.nil_append, List.length_nil, Nat.zero_add] at e2
 rw [sumS, sumS, e1, e2]
 simp only [List.getD_eq_getElem?_getD]
 rw [List.getElem?_append_right (by omega), show A.length + cnt l p - A.length = cnt l p by omega]
theorem sumS_there {l : List S39} (h : srt l) (p : ByteArray) {x : S39} {t : List S39} (hd : l.drop (cnt l p) = x :: t) (e : x.f0 = p) : sumS l p = x.f1 := by
 have e2 := fnd_srt h p [] (by simp)
 rw [List.nil_append, List.length_nil, Nat.zero_add] at e2
 rw [sumS, e2, if_pos (show hdB (l.drop (cnt l p)) p = true by rw [hd]; exact beq_iff_eq.2 (by rw [e]))]
 have := congrArg (·[0]?) hd
 simp only [List.getElem?_drop, Nat.add_zero, List.getElem?_cons_zero] at this
 rw [List.getD_eq_getElem?_getD, this]; rfl
theorem sumS_none {l : List S39} (h : srt l) (p : ByteArray) (hd : ∀ y ∈ l.drop (cnt l p), ltB p y.f0 = true) : sumS l p = ⟨#[]⟩ := by
 have e2 := fnd_srt h p [] (by simp)
 rw [List.nil_append, List.length_nil, Nat.zero_add] at e2
 rw [sumS, e2, hdB_none hd, if_neg (by simp)]
abbrev toC (x : S67) : S66 := ⟨x.f0, x.f1, x.f2⟩
theorem rd67_of (l : List S67) (i : Nat) (h : i < l.length) : rd_T67 l (i : Int) = l[i] := by simp [rd_T67, List.getD_eq_getElem?_getD, h]
theorem rd66_of (l : List S66) (i : Nat) (h : i < l.length) : rd_T66 l (i : Int) = l[i] := by simp [rd_T66, List.getD_eq_getElem?_getD, h]
theorem rd66_C (l : List S67) (i : Nat) (h : i < l.length) : rd_T66 (l.map toC) (i : Int) = toC l[i] := by
 rw [rd66_of _ i (by simpa using h)]; simp
/-- may a text stand for a digest -/
def sumB (s : ByteArray) : Bool := s.toList == [] || decide (s.size = 32)
theorem sum_is (s : ByteArray) : merkle_sum.f s = some (sumB s) := by
 simp only [merkle_sum.f, sumB]
 by_cases h : s.toList = []
 ·rw [if_pos h, h]; rfl
 ·rw [if_neg h, beq_eq_false_iff_ne.2 h, Bool.false_or]
  congr 1
  by_cases g : s.size = 32
  ·simp [g]
  ·rw [decide_eq_false g, beq_eq_false_iff_ne]; omega
/-- may a change be; may it stand at its place -/
def chgB (x : S67) : Bool := !(x.f1.toList == x.f2.toList) && (sumB x.f1 && sumB x.f2)
def okC (l : List S67) (i : Nat) : Bool := goodB (rd_T67 l (i : Int)).f0 && ((decide (i = 0) || ltB (rd_T67 l ((i - 1 : Nat) : Int)).f0 (rd_T67 l (i : Int)).f0) && chgB (rd_T67 l (i : Int)))
def chgsB (l : List S67) : Bool := (List.range l.length).all (okC l)
theorem rd_chg (l : List S67) (i : Nat) (h : i < l.length) : rd_T66 (l.map toC) (i : Int) = toC (rd_T67 l (i : Int)) := by
 rw [rd66_C l i h, rd67_of l i h]
/-- the program's look at the changes -/
theorem papp_if {β : Type} (x : S67) (rt : Option β) : (if x.f1.toList = x.f2.toList then none else ((merkle_sum.f x.f1).bind fun a => if a = true then ((merkle_sum.f x.f2).bind fun b => if b = true then rt else none) else none)) = if chgB x = true then rt else none := by
 simp only [sum_is, Option.bind_some]
 by_cases h : x.f1.toList = x.f2.toList
 ·rw [if_pos h, show chgB x = false by simp [chgB, h], if_neg (by simp)]
 ·rw [if_neg h, show chgB x = (sumB x.f1 && sumB x.f2) by simp [chgB, h]]
  cases sumB x.f1 <;> cases sumB x.f2 <;> simp
theorem pchg_ev (l : List S44) (c : List S67) (hc : c.length < 1000000) (hg : chgsB c = true) (r : List S44 × Int) (hr : Ev (fun k => merkle_Apply.l1 k l [] (c.map toC) (c.length : Int) 0) r) :
  Ev (fun k => merkle_Apply.l0 k l (c.map toC) (c.map toC) (c.length : Int) 0) r := by
 have loop : ∀ (d i : Nat), i + d = c.length → Ev (fun k => merkle_Apply.l0 k l (c.map toC) (c.map toC) (c.length : Int) (i : Int)) r := by
  intro d
  induction d with
  | zero =>
   intro i hi
   refine Ev.step (fun k => ?_) hr
   simp only [merkle_Apply.l0, List.length_map]
   rw [if_neg (by omega)]
  | succ d ih =>
   intro x hx
   have hi : x < c.length := by omega
   have hx := List.all_eq_true.1 hg x (List.mem_range.2 hi)
   simp only [okC, Bool.and_eq_true, Bool.or_eq_true, decide_eq_true_eq] at hx
   refine Ev.step (fun k => ?_) (ih (x + 1) (by omega))
   simp only [merkle_Apply.l0, List.length_map, rd_chg c x hi, path_Good.f, Option.bind_some, papp_if]
   rw [if_pos (by omega), if_pos (by omega), if_pos (by omega), if_pos hx.1, if_pos hx.2.2, wrap_succ hi (by omega)]
   by_cases h0 : x = 0
   ·rw [if_neg (show ¬ (x : Int) > 0 by omega)]
   ·have h2 := hx.2.1.resolve_left h0
    rw [ltB] at h2
    rw [if_pos (show (x : Int) > 0 by omega), show wrap64 ((x : Int) - 1) = ((x - 1 : Nat) : Int) by unfold wrap64; omega, rd_chg c (x - 1) (by omega), if_pos (by omega), if_pos (by omega), if_pos h2]
 exact loop c.length 0 (by omega)
theorem range_rd (l : List S39) : (List.range l.length).map (fun i : Nat => rd_T39 l (i : Int)) = l := by
 apply List.ext_getElem
 ·simp
 ·intro i h1 h2
  simp only [List.getElem_map, List.getElem_range]
  exact rd39_of l i h2
theorem less_is (l : List S39) (p : ByteArray) (i : Nat) (h : i < l.length) : merkle_place.less (l.map toM) p i = ltB (rd_T39 l (i : Int)).f0 p := by
 rw [merkle_place.less, rd_mine l i h]; rfl
theorem place_of {l : List S39} (h : srt l) (hl : l.length < 1000000) (p : ByteArray) : merkle_place.f (l.map toM) p = some ((cnt l p : Nat) : Int) := by
 rw [merkle_place.f, if_pos]
 ·congr 2
  rw [List.length_map, cnt]
  conv => rhs; rw [← range_rd l]
  rw [List.countP_map]
  refine List.countP_congr (fun i hi => ?_)
  rw [less_is l p i (List.mem_range.1 hi)]; rfl
 ·rw [List.length_map, Bool.and_eq_true, decide_eq_true_eq]
  refine ⟨by omega, ?_⟩
  rw [List.all_eq_true]
  intro a ha
  rw [List.all_eq_true]
  intro b hb
  have ha := List.mem_range.1 ha
  have hb := List.mem_range.1 hb
  rw [less_is l p a ha, less_is l p b hb]
  by_cases hab : a ≤ b
  ·rw [decide_eq_true hab, Bool.true_and]
   cases gb : ltB (rd_T39 l (b : Int)).f0 p
   ·simp
   ·have : ltB (rd_T39 l (a : Int)).f0 p = true := by
     by_cases e : a = b
     ·rw [e]; exact gb
     ·rw [rd39_of l b hb] at gb
      rw [rd39_of l a ha]
      exact ltB_trans ((List.pairwise_iff_getElem.1 h) a b ha hb (by omega)) gb
    rw [this]; rfl
  ·rw [decide_eq_false hab]; rfl
def addC (c : S67) : List S39 := if c.f2.toList = [] then [] else [⟨c.f0, c.f2⟩]
/-- what a list has at a path, and what stands behind it -/
def curS (l : List S39) (p : ByteArray) : ByteArray × List S39 := match l.drop (cnt l p) with
 | [] => (⟨#[]⟩, [])
 | x :: t => if x.f0.toList = p.toList then (x.f1, t) else (⟨#[]⟩, x :: t)
def applyS : List S67 → List S39 → List S39 → Option (List S39)
 | [], l, out => some (out ++ l)
 | c :: cs, l, out => if (curS l c.f0).1.toList = c.f1.toList then applyS cs (curS l c.f0).2 (out ++ l.take (cnt l c.f0) ++ addC c) else none
theorem cur_len (l : List S39) (p : ByteArray) : (curS l p).2.length + cnt l p ≤ l.length := by
 have h : (l.drop (cnt l p)).length = l.length - cnt l p := List.length_drop
 have := cnt_le l p
 rw [curS]
 split
 ·rename_i e; rw [e] at h; simp at h ⊢; omega
 ·rename_i x t e
  rw [e, List.length_cons] at h
  split
  ·simp only; omega
  ·rw [List.length_cons]; omega
theorem cur_facts {l : List S39} (h : srt l) (p : ByteArray) : srt (curS l p).2 ∧ (curS l p).1 = sumS l p ∧ (∃ A, l = A ++ (curS l p).2 ∧ ∀ x ∈ A, ltB x.f0 p = true ∨ x.f0 = p) := by
 obtain ⟨h1, h2⟩ := at_path h p
 have hs : srt (l.drop (cnt l p)) := List.Pairwise.sublist (List.drop_sublist _ _) h
 rcases h2 with ⟨x, t, g1, g2, _⟩ | g
 ·rw [curS, g1]
  simp only [g2, if_true]
  rw [g1] at hs
  refine ⟨List.Pairwise.of_cons hs, (sumS_there h p g1 g2).symm, l.take (cnt l p) ++ [x], ?_, fun y hy => ?_⟩
  ·rw [List.append_assoc, List.singleton_append, ← g1, List.take_append_drop]
  ·rcases List.mem_append.1 hy with hy | hy
   ·exact .inl (h1 y hy)
   ·rw [List.mem_singleton.1 hy]; exact .inr g2
 ·have e : curS l p = (⟨#[]⟩, l.drop (cnt l p)) := by
   rw [curS]
   cases hd : l.drop (cnt l p) with
   | nil => rfl
   | cons x t =>
    simp only
    rw [if_neg (fun e => ltB_ne (g x (by rw [hd]; simp)) e.symm)]
  rw [e]
  exact ⟨hs, (sumS_none h p g).symm, l.take (cnt l p), (List.take_append_drop _ _).symm, fun y hy => .inl (h1 y hy)⟩
theorem add_len (c : S67) : (addC c).length ≤ 1 := by unfold addC; split <;> simp
theorem j3_ev (l out : List S39) (old : ByteArray) (C : List S67) (n : Int) (i : Nat) (c : S67) (hi : i < 100000) (ho : out.length < 100000) (h1 : old.toList = c.f1.toList) (r : List S44 × Int)
  (hr : Ev (fun k => merkle_Apply.l1 k (l.map toM) ((out ++ addC c).map toM) (C.map toC) n ((i + 1 : Nat) : Int)) r) :
  Ev (fun k => merkle_Apply.j3 k (l.map toM) (out.map toM) old (C.map toC) n (i : Int) c.f0 c.f1 c.f2) r := by
 refine Ev.step (fun k => ?_) hr
 simp only [merkle_Apply.j3]
 rw [if_pos h1, wrap_succ (n := 100000) hi (by omega)]
 by_cases h2 : c.f2.toList = []
 ·rw [if_pos h2, addC, if_pos h2, List.append_nil]
 ·rw [if_neg h2, addC, if_neg h2, if_pos (by rw [List.length_map]; omega), List.map_append]
  rfl
theorem apply_ev (C : List S67) (hC : C.length ≤ 500) (R : List S39) : ∀ (cs : List S67) (i : Nat) (l out : List S39), C.drop i = cs → i ≤ C.length → srt l → out.length + l.length + cs.length ≤ 1000 → applyS cs l out = some R →
  Ev (fun k => merkle_Apply.l1 k (l.map toM) (out.map toM) (C.map toC) (C.length : Int) (i : Int)) (R.map toM, 0) := by
 intro cs
 induction cs with
 | nil =>
  intro i l out hd hi h hb hR
  obtain rfl := Option.some.inj hR
  refine Ev.step (f := fun _ => some ((out ++ l).map toM, 0)) (fun k => ?_) (Ev.now _)
  have := drop_nil_len hd hi
  simp only [merkle_Apply.l1, Option.bind_some]
  simp only [List.length_nil] at hb
  rw [if_neg (by omega), if_pos (by simp; omega), if_neg (by simp; omega), List.map_append]
 | cons c cs ih =>
  intro i l out hd hi h hb hR
  rw [applyS] at hR
  by_cases hold : (curS l c.f0).1.toList = c.f1.toList
  case neg => rw [if_neg hold] at hR; cases hR
  rw [if_pos hold] at hR
  obtain ⟨g1, g2, g3⟩ := drop_cons_facts hd
  have hcl := cnt_le l c.f0
  have hcu := cur_len l c.f0
  have hal := add_len c
  obtain ⟨f1, _⟩ := cur_facts h c.f0
  simp only [List.length_cons] at hb
  have htl : (l.take (cnt l c.f0)).length = cnt l c.f0 := by rw [List.length_take]; omega
  have next := ih (i + 1) (curS l c.f0).2 (out ++ l.take (cnt l c.f0) ++ addC c) g2 g3 f1 (by simp only [List.length_append]; omega) hR
  have hc : rd_T66 (C.map toC) (i : Int) = toC c := by
   rw [rd66_C C i g3]
   have : C[i] = c := by rw [List.getElem?_eq_getElem g3] at g1; exact Option.some.inj g1
   rw [this]
  have hj := j3_ev (curS l c.f0).2 (out ++ l.take (cnt l c.f0)) (curS l c.f0).1 C (C.length : Int) i c (by omega) (by simp only [List.length_append]; omega) hold _ next
  have hdm : (l.map toM).drop (cnt l c.f0) = (l.drop (cnt l c.f0)).map toM := List.map_drop.symm
  have htm : out.map toM ++ (l.map toM).take (cnt l c.f0) = (out ++ l.take (cnt l c.f0)).map toM := by rw [List.map_append, List.map_take]
  have hlt2 : (out.map toM).length + ((l.map toM).take (cnt l c.f0)).length < 4398046511104 := by simp; omega
  cases hdl : l.drop (cnt l c.f0) with
  | nil =>
   have e : curS l c.f0 = (⟨#[]⟩, []) := by rw [curS, hdl]
   rw [e] at hj
   have hj2 : Ev (fun k => merkle_Apply.j2 k [] ((out ++ l.take (cnt l c.f0)).map toM) ⟨#[]⟩ (C.map toC) (C.length : Int) (i : Int) false c.f0 c.f1 c.f2) _ := Ev.step (fun k => by simp only [merkle_Apply.j2]; rw [if_neg (by simp)]; rfl) hj
   refine Ev.step (fun k => ?_) hj2
   simp only [merkle_Apply.l1, hc, place_of h (by omega), Option.bind_some, Int.toNat_natCast, hdm, hdl, htm, List.map_nil, List.length_nil]
   rw [if_pos (by omega), if_pos (by omega), if_pos (by rw [List.length_map]; omega), if_pos (by omega), if_pos (by rw [List.length_map]; omega), if_pos hlt2, if_neg (by omega)]
  | cons x t =>
   have hj2 : Ev (fun k => merkle_Apply.j2 k ((x :: t).map toM) ((out ++ l.take (cnt l c.f0)).map toM) ⟨#[]⟩ (C.map toC) (C.length : Int) (i : Int) (x.f0.toList == c.f0.toList) c.f0 c.f1 c.f2) (R.map toM, 0) := by
    by_cases hx : x.f0.toList = c.f0.toList
    ·have e : curS l c.f0 = (x.f1, t) := by rw [curS, hdl]; simp only [if_pos hx]
     rw [e] at hj
     refine Ev.step (fun k => ?_) hj
     simp only [merkle_Apply.j2, List.map_cons, List.length_cons, List.drop_succ_cons, List.drop_zero]
     rw [if_pos (beq_iff_eq.2 hx), if_pos (by omega), if_pos (by omega)]
     rfl
    ·have e : curS l c.f0 = (⟨#[]⟩, x :: t) := by rw [curS, hdl]; simp only [if_neg hx]
     rw [e] at hj
     refine Ev.step (fun k => ?_) hj
     simp only [merkle_Apply.j2]
     rw [if_neg (by simpa using hx)]
   refine Ev.step (fun k => ?_) hj2
   simp only [merkle_Apply.l1, hc, place_of h (by omega), Option.bind_some, Int.toNat_natCast, hdm, hdl, htm]
   rw [if_pos (by omega), if_pos (by omega), if_pos (by rw [List.length_map]; omega), if_pos (by omega), if_pos (by rw [List.length_map]; omega), if_pos hlt2, if_pos (by rw [List.length_map, List.length_cons]; omega), if_pos (by rw [List.length_map, List.length_cons]; omega)]
   rfl
theorem papply_ev (l : List S39) (c : List S67) (R : List S39) (hl : l.length ≤ 400) (hc : c.length ≤ 400) (hb : listB l = true) (hg : chgsB c = true) (hR : applyS c l [] = some R) : Ev (fun k => merkle_Apply.f k (l.map toM) (c.map toC)) (R.map toM, 0) := by
 simp only [merkle_Apply.f]
 refine Ev.bind (check_ev l (by omega)) ?_
 rw [hb]
 refine ifpos (by simp) ?_
 simp only [List.length_map]
 exact pchg_ev (l.map toM) c (by omega) hg _ (apply_ev c (by omega) R c 0 l [] rfl (by omega) (listB_srt hb) (by simp; omega) hR)
theorem theirs_ev (l : List S39) (hl : l.length < 100000) : Ev (fun k => strongroomlaw20_theirs.f k (l.map toM)) l := by
 have loop : ∀ (d i : Nat), i + d = l.length → Ev (fun k => strongroomlaw20_theirs.l0 k (l.map toM) (l.take i) (i : Int)) l := by
  intro d
  induction d with
  | zero =>
   intro i hi
   refine Ev.step (f := fun _ => some l) (fun k => ?_) (Ev.now _)
   simp only [strongroomlaw20_theirs.l0]
   rw [if_neg (by rw [List.length_map]; omega), List.take_of_length_le (by omega)]
  | succ d ih =>
   intro i hi
   have hlt : i < l.length := by omega
   refine Ev.step (fun k => ?_) (ih (i + 1) (by omega))
   simp only [strongroomlaw20_theirs.l0, rd_mine l i hlt, rd39_of l i hlt]
   rw [if_pos (by rw [List.length_map]; omega), if_pos (by omega), if_pos (by simp; omega), wrap_succ hlt (by omega), List.take_add_one, List.getElem?_eq_getElem hlt]
   rfl
 exact loop l.length 0 (by omega)
theorem same_ev (l : List S39) (hl : l.length < 100000) : Ev (fun k => strongroomref20_Same.f k l l) true := by
 have loop : ∀ (d i : Nat), i + d = l.length → Ev (fun k => strongroomref20_Same.l0 k l l (i : Int)) true := by
  intro d
  induction d with
  | zero =>
   intro i hi
   refine Ev.step (f := fun _ => some true) (fun k => ?_) (Ev.now _)
   simp only [strongroomref20_Same.l0]
   rw [if_neg (by omega)]
  | succ d ih =>
   intro i hi
   refine Ev.step (fun k => ?_) (ih (i + 1) (by omega))
   simp only [strongroomref20_Same.l0]
   rw [if_pos (by omega), if_pos (by omega), if_pos (by omega), if_neg (by simp), wrap_succ (n := l.length) (by omega) (by omega)]
 simp only [strongroomref20_Same.f]
 exact ifpos trivial (loop l.length 0 (by omega))
theorem find_ev (l : List S39) (p : ByteArray) (hl : l.length < 100000) : Ev (fun k => strongroomref20_Find.f k l p) (((fnd l p 0 0).1 : Nat), (fnd l p 0 0).2) := by
 have loop : ∀ (m : List S39) (i n : Nat), l.drop i = m → i ≤ l.length → n ≤ i → Ev (fun k => strongroomref20_Find.l0 k l p (n : Int) (i : Int)) ((((fnd m p i n).1 : Nat) : Int), (fnd m p i n).2) := by
  intro m
  induction m with
  | nil =>
   intro i n hd hi hn
   have := drop_nil_len hd hi
   refine Ev.step (f := fun _ => some ((n : Int), false)) (fun k => ?_) (Ev.now _)
   simp only [strongroomref20_Find.l0]
   rw [if_neg (by omega)]
  | cons x t ih =>
   intro i n hd hi hn
   obtain ⟨g1, g2, g3⟩ := drop_cons_facts hd
   have hx : rd_T39 l (i : Int) = x := by
    rw [rd39_of l i g3]
    rw [List.getElem?_eq_getElem g3] at g1; exact Option.some.inj g1
   rw [fnd]
   by_cases e : x.f0.toList = p.toList
   ·rw [if_pos e]
    refine Ev.step (f := fun _ => some ((i : Int), true)) (fun k => ?_) (Ev.now _)
    simp only [strongroomref20_Find.l0, hx]
    rw [if_pos (by omega), if_pos (by omega), if_pos e]
   ·rw [if_neg e]
    by_cases g : ltB x.f0 p = true
    ·rw [if_pos g]
     refine Ev.step (fun k => ?_) (ih (i + 1) (n + 1) g2 g3 (by omega))
     rw [ltB] at g
     simp only [strongroomref20_Find.l0, hx]
     rw [if_pos (by omega), if_pos (by omega), if_neg e, if_pos g, wrap_succ g3 (by omega), wrap_succ (n := 100000) (by omega) (by omega)]
    ·rw [if_neg g]
     refine Ev.step (fun k => ?_) (ih (i + 1) n g2 g3 (by omega))
     rw [ltB] at g
     simp only [strongroomref20_Find.l0, hx]
     rw [if_pos (by omega), if_pos (by omega), if_neg e, if_neg g, wrap_succ g3 (by omega)]
 simp only [strongroomref20_Find.f]
 exact loop l 0 0 rfl (by omega) (by omega)
theorem sumOf_ev (l : List S39) (p : ByteArray) (hl : l.length < 100000) : Ev (fun k => strongroomref20_sumOf.f k l p) (sumS l p) := by
 simp only [strongroomref20_sumOf.f]
 refine Ev.bind (find_ev l p hl) ?_
 have hle := fnd_le p l 0 0 (by omega)
 rw [sumS]
 cases h : (fnd l p 0 0).2
 ·exact ifneg (by simp) (by rw [if_neg (by simp)]; exact Ev.now _)
 ·have := hle.2 h
  refine ifpos rfl (ifpos (by omega) (ifpos (by simp only; omega) ?_))
  rw [if_pos rfl]
  exact Ev.now _
/-- what changes one list to another -/
def dm : List S39 → List S39 → List S67
 | [], [] => []
 | [], y :: b => ⟨y.f0, ⟨#[]⟩, y.f1⟩ :: dm [] b
 | x :: a, [] => ⟨x.f0, x.f1, ⟨#[]⟩⟩ :: dm a []
 | x :: a, y :: b => if ltB x.f0 y.f0 = true then ⟨x.f0, x.f1, ⟨#[]⟩⟩ :: dm a (y :: b) else if ltB y.f0 x.f0 = true then ⟨y.f0, ⟨#[]⟩, y.f1⟩ :: dm (x :: a) b else if x.f1.toList = y.f1.toList then dm a b else ⟨x.f0, x.f1, y.f1⟩ :: dm a b
termination_by a b => a.length + b.length
def swC (c : S67) : S67 := ⟨c.f0, c.f2, c.f1⟩
/-- are the leaves' digests none empty -/
def full (l : List S39) : Prop := ∀ x ∈ l, goodB x.f0 = true ∧ x.f1.size = 32
theorem ne_of_32 {s : ByteArray} (h : s.size = 32) : ¬ s.toList = [] := by
 intro e
 rw [toList_data] at e
 have : s.size = s.data.toList.length := rfl
 rw [e, h] at this; simp at this
theorem emp_toList : (⟨#[]⟩ : ByteArray).toList = [] := by rw [toList_data]
theorem dm_nil_nil : dm [] [] = [] := by rw [dm]
theorem dm_nil_cons (y : S39) (b : List S39) : dm [] (y :: b) = ⟨y.f0, ⟨#[]⟩, y.f1⟩ :: dm [] b := by rw [dm]
theorem dm_cons_nil (x : S39) (a : List S39) : dm (x :: a) [] = ⟨x.f0, x.f1, ⟨#[]⟩⟩ :: dm a [] := by rw [dm]
theorem dm_cons (x : S39) (a : List S39) (y : S39) (b : List S39) : dm (x :: a) (y :: b) = if ltB x.f0 y.f0 = true then ⟨x.f0, x.f1, ⟨#[]⟩⟩ :: dm a (y :: b) else if ltB y.f0 x.f0 = true then ⟨y.f0, ⟨#[]⟩, y.f1⟩ :: dm (x :: a) b else if x.f1.toList = y.f1.toList then dm a b else ⟨x.f0, x.f1, y.f1⟩ :: dm a b := by rw [dm]
/-- induction along two lists -/
theorem two_ind {P : List S39 → List S39 → Prop} (h0 : P [] []) (h1 : ∀ y b, P [] b → P [] (y :: b)) (h2 : ∀ x a, P a [] → P (x :: a) [])
  (h3 : ∀ x a y b, P a (y :: b) → P (x :: a) b → P a b → P (x :: a) (y :: b)) : ∀ (n : Nat) (a b : List S39), a.length + b.length ≤ n → P a b := by
 intro n
 induction n with
 | zero =>
  intro a b h
  cases a with
  | nil => cases b with
   | nil => exact h0
   | cons y b => simp at h
  | cons x a => simp at h
 | succ n ih =>
  intro a b h
  cases a with
  | nil => cases b with
   | nil => exact h0
   | cons y b => exact h1 y b (ih [] b (by simp at h ⊢; omega))
  | cons x a => cases b with
   | nil => exact h2 x a (ih a [] (by simp at h ⊢; omega))
   | cons y b => exact h3 x a y b (ih _ _ (by simp at h ⊢; omega)) (ih _ _ (by simp at h ⊢; omega)) (ih _ _ (by simp at h ⊢; omega))
theorem both_ind {P : List S39 → List S39 → Prop} (h0 : P [] []) (h1 : ∀ y b, P [] b → P [] (y :: b)) (h2 : ∀ x a, P a [] → P (x :: a) [])
  (h3 : ∀ x a y b, P a (y :: b) → P (x :: a) b → P a b → P (x :: a) (y :: b)) (a b : List S39) : P a b := two_ind h0 h1 h2 h3 (a.length + b.length) a b (Nat.le_refl _)
theorem dm_len : ∀ a b : List S39, (dm a b).length ≤ a.length + b.length := by
 apply both_ind
 ·simp [dm_nil_nil]
 ·intro y b h; rw [dm_nil_cons]; simp at h ⊢; omega
 ·intro x a h; rw [dm_cons_nil]; simp at h ⊢; omega
 ·intro x a y b h1 h2 h3
  rw [dm_cons]
  simp only [List.length_cons] at h1 h2 h3 ⊢
  split
  ·rw [List.length_cons]; omega
  ·split
   ·rw [List.length_cons]; omega
   ·split
    ·omega
    ·rw [List.length_cons]; omega
theorem dm_swap : ∀ a b : List S39, srt a → srt b → (dm a b).map swC = dm b a := by
 apply both_ind
 ·intro _ _; simp [dm_nil_nil]
 ·intro y b ih ha hb
  rw [dm_nil_cons, dm_cons_nil, List.map_cons, ih ha (List.Pairwise.of_cons hb)]; rfl
 ·intro x a ih ha hb
  rw [dm_nil_cons, dm_cons_nil, List.map_cons, ih (List.Pairwise.of_cons ha) hb]; rfl
 ·intro x a y b i1 i2 i3 ha hb
  have ha2 := List.Pairwise.of_cons ha
  have hb2 := List.Pairwise.of_cons hb
  rw [dm_cons, dm_cons]
  by_cases h1 : ltB x.f0 y.f0 = true
  ·rw [if_pos h1, if_neg (by rw [ltB_asymm h1]; simp), if_pos h1, List.map_cons, i1 ha2 hb]; rfl
  ·rw [if_neg h1]
   by_cases h2 : ltB y.f0 x.f0 = true
   ·rw [if_pos h2, if_pos h2, List.map_cons, i2 ha hb2]; rfl
   ·rw [if_neg h2, if_neg h2, if_neg h1]
    have e : x.f0 = y.f0 := ltB_tri (by simpa using h1) (by simpa using h2)
    by_cases h3 : x.f1.toList = y.f1.toList
    ·rw [if_pos h3, if_pos h3.symm, i3 ha2 hb2]
    ·rw [if_neg h3, if_neg (fun g => h3 g.symm), List.map_cons, i3 ha2 hb2, swC, e]
/-- each change is of a path of one of both, and a good one -/
theorem dm_mem : ∀ a b : List S39, full a → full b → ∀ c ∈ dm a b, (∃ x, (x ∈ a ∨ x ∈ b) ∧ c.f0 = x.f0) ∧ chgB c = true := by
 have c1 : ∀ x : S39, x.f1.size = 32 → chgB ⟨x.f0, x.f1, ⟨#[]⟩⟩ = true := fun x h => by
  simp [chgB, sumB, h, ne_of_32 h]
 have c2 : ∀ x : S39, x.f1.size = 32 → chgB ⟨x.f0, ⟨#[]⟩, x.f1⟩ = true := fun x h => by
  simp [chgB, sumB, h]
  exact ne_of_32 h
 have c3 : ∀ x y : S39, x.f1.size = 32 → y.f1.size = 32 → ¬ x.f1.toList = y.f1.toList → chgB ⟨x.f0, x.f1, y.f1⟩ = true := fun x y h g e => by
  simp [chgB, sumB, h, g, e]
 apply both_ind
 ·intro _ _ c hc; rw [dm_nil_nil] at hc; simp at hc
 ·intro y b ih ha hb c hc
  rw [dm_nil_cons] at hc
  rcases List.mem_cons.1 hc with rfl | hc
  ·exact ⟨⟨y, .inr (by simp), rfl⟩, c2 y (hb y (by simp)).2⟩
  ·obtain ⟨⟨x, hx, e⟩, g⟩ := ih ha (fun z hz => hb z (by simp [hz])) c hc
   exact ⟨⟨x, hx.imp id (fun h => by simp [h]), e⟩, g⟩
 ·intro x a ih ha hb c hc
  rw [dm_cons_nil] at hc
  rcases List.mem_cons.1 hc with rfl | hc
  ·exact ⟨⟨x, .inl (by simp), rfl⟩, c1 x (ha x (by simp)).2⟩
  ·obtain ⟨⟨z, hz, e⟩, g⟩ := ih (fun z hz => ha z (by simp [hz])) hb c hc
   exact ⟨⟨z, hz.imp (fun h => by simp [h]) id, e⟩, g⟩
 ·intro x a y b i1 i2 i3 ha hb c hc
  have ha2 : full a := fun z hz => ha z (by simp [hz])
  have hb2 : full b := fun z hz => hb z (by simp [hz])
  have up1 : ∀ {P Q : Prop}, P → P ∨ Q := fun h => .inl h
  rw [dm_cons] at hc
  split at hc
  ·rcases List.mem_cons.1 hc with rfl | hc
   ·exact ⟨⟨x, .inl (by simp), rfl⟩, c1 x (ha x (by simp)).2⟩
   ·obtain ⟨⟨z, hz, e⟩, g⟩ := i1 ha2 hb c hc
    exact ⟨⟨z, hz.imp (fun h => by simp [h]) id, e⟩, g⟩
  ·split at hc
   ·rcases List.mem_cons.1 hc with rfl | hc
    ·exact ⟨⟨y, .inr (by simp), rfl⟩, c2 y (hb y (by simp)).2⟩
    ·obtain ⟨⟨z, hz, e⟩, g⟩ := i2 ha hb2 c hc
     exact ⟨⟨z, hz.imp id (fun h => by simp [h]), e⟩, g⟩
   ·split at hc
    ·obtain ⟨⟨z, hz, e⟩, g⟩ := i3 ha2 hb2 c hc
     exact ⟨⟨z, hz.imp (fun h => by simp [h]) (fun h => by simp [h]), e⟩, g⟩
    ·rename_i h3
     rcases List.mem_cons.1 hc with rfl | hc
     ·exact ⟨⟨x, .inl (by simp), rfl⟩, c3 x y (ha x (by simp)).2 (hb y (by simp)).2 h3⟩
     ·obtain ⟨⟨z, hz, e⟩, g⟩ := i3 ha2 hb2 c hc
      exact ⟨⟨z, hz.imp (fun h => by simp [h]) (fun h => by simp [h]), e⟩, g⟩
/-- a path that is less than both lists' is less than all changes' -/
theorem dm_gt (a b : List S39) (ha : full a) (hb : full b) (p : ByteArray) (h1 : ∀ x ∈ a, ltB p x.f0 = true) (h2 : ∀ x ∈ b, ltB p x.f0 = true) : ∀ c ∈ dm a b, ltB p c.f0 = true := by
 intro c hc
 obtain ⟨⟨x, hx, e⟩, _⟩ := dm_mem a b ha hb c hc
 rw [e]
 rcases hx with hx | hx
 ·exact h1 x hx
 ·exact h2 x hx
theorem full_tl {x : S39} {a : List S39} (h : full (x :: a)) : full a := fun z hz => h z (by simp [hz])
theorem dm_srt : ∀ a b : List S39, srt a → srt b → full a → full b → (dm a b).Pairwise fun x y => ltB x.f0 y.f0 = true := by
 apply both_ind
 ·intro _ _ _ _; rw [dm_nil_nil]; exact List.Pairwise.nil
 ·intro y b ih ha hb fa fb
  rw [dm_nil_cons]
  exact List.Pairwise.cons (dm_gt [] b fa (full_tl fb) y.f0 (by simp) (fun x hx => List.rel_of_pairwise_cons hb hx)) (ih ha (List.Pairwise.of_cons hb) fa (full_tl fb))
 ·intro x a ih ha hb fa fb
  rw [dm_cons_nil]
  exact List.Pairwise.cons (dm_gt a [] (full_tl fa) fb x.f0 (fun z hz => List.rel_of_pairwise_cons ha hz) (by simp)) (ih (List.Pairwise.of_cons ha) hb (full_tl fa) fb)
 ·intro x a y b i1 i2 i3 ha hb fa fb
  have ha2 := List.Pairwise.of_cons ha
  have hb2 := List.Pairwise.of_cons hb
  have ax : ∀ z ∈ a, ltB x.f0 z.f0 = true := fun z hz => List.rel_of_pairwise_cons ha hz
  have bx : ∀ z ∈ b, ltB y.f0 z.f0 = true := fun z hz => List.rel_of_pairwise_cons hb hz
  rw [dm_cons]
  split
  ·rename_i h1
   refine List.Pairwise.cons (dm_gt a (y :: b) (full_tl fa) fb x.f0 ax (fun z hz => ?_)) (i1 ha2 hb (full_tl fa) fb)
   rcases List.mem_cons.1 hz with rfl | hz
   ·exact h1
   ·exact ltB_trans h1 (bx z hz)
  ·rename_i h1
   split
   ·rename_i h2
    refine List.Pairwise.cons (dm_gt (x :: a) b fa (full_tl fb) y.f0 (fun z hz => ?_) bx) (i2 ha hb2 fa (full_tl fb))
    rcases List.mem_cons.1 hz with rfl | hz
    ·exact h2
    ·exact ltB_trans h2 (ax z hz)
   ·rename_i h2
    have e : x.f0 = y.f0 := ltB_tri (by simpa using h1) (by simpa using h2)
    split
    ·exact i3 ha2 hb2 (full_tl fa) (full_tl fb)
    ·exact List.Pairwise.cons (dm_gt a b (full_tl fa) (full_tl fb) x.f0 ax (fun z hz => by rw [e]; exact bx z hz)) (i3 ha2 hb2 (full_tl fa) (full_tl fb))
theorem dm_chgs (a b : List S39) (ha : srt a) (hb : srt b) (fa : full a) (fb : full b) : chgsB (dm a b) = true := by
 have hs := dm_srt a b ha hb fa fb
 rw [chgsB, List.all_eq_true]
 intro i hi
 have hi := List.mem_range.1 hi
 obtain ⟨⟨x, hx, e⟩, g⟩ := dm_mem a b fa fb _ (List.getElem_mem hi)
 have hg : goodB (dm a b)[i].f0 = true := by
  rw [e]
  rcases hx with hx | hx
  ·exact (fa x hx).1
  ·exact (fb x hx).1
 simp only [okC, Bool.and_eq_true, Bool.or_eq_true, decide_eq_true_eq]
 rw [rd67_of _ i hi]
 refine ⟨hg, ?_, g⟩
 by_cases h0 : i = 0
 ·exact .inl h0
 ·right
  rw [rd67_of _ (i - 1) (by omega)]
  exact (List.pairwise_iff_getElem.1 hs) (i - 1) i (by omega) hi (by omega)
/-- what is less than all changes goes on unchanged -/
theorem applyS_pre (x : S39) : ∀ (cs : List S67) (l out : List S39), srt (x :: l) → (∀ c ∈ cs, ltB x.f0 c.f0 = true) → applyS cs (x :: l) out = applyS cs l (out ++ [x]) := by
 intro cs l out h hc
 cases cs with
 | nil => simp [applyS]
 | cons c cs =>
  have hx := hc c (by simp)
  have e : cnt (x :: l) c.f0 = cnt l c.f0 + 1 := by simp [cnt, hx]
  have e2 : curS (x :: l) c.f0 = curS l c.f0 := by simp only [curS, e, List.drop_succ_cons]
  rw [applyS, applyS, e2, e, List.take_succ_cons]
  simp
theorem cnt_zero {l : List S39} {p : ByteArray} (h : ∀ x ∈ l, ltB x.f0 p = false) : cnt l p = 0 := by
 rw [cnt, List.countP_eq_zero]
 intro x hx
 rw [h x hx]; simp
theorem dm_apply : ∀ a b : List S39, srt a → srt b → full a → full b → ∀ out, applyS (dm a b) a out = some (out ++ b) := by
 have drop1 : ∀ (x : S39) (a : List S39), srt (x :: a) → curS (x :: a) x.f0 = (x.f1, a) ∧ cnt (x :: a) x.f0 = 0 := fun x a h => by
  have h0 : cnt (x :: a) x.f0 = 0 := cnt_zero (fun z hz => by
   rcases List.mem_cons.1 hz with rfl | hz
   ·exact ltB_irr _
   ·exact ltB_asymm (List.rel_of_pairwise_cons h hz))
  refine ⟨?_, h0⟩
  rw [curS, h0]
  simp
 have gt1 : ∀ (a : List S39) (p : ByteArray), (∀ z ∈ a, ltB p z.f0 = true) → curS a p = (⟨#[]⟩, a) ∧ cnt a p = 0 := fun a p h => by
  have h0 : cnt a p = 0 := cnt_zero (fun z hz => ltB_asymm (h z hz))
  refine ⟨?_, h0⟩
  rw [curS, h0, List.drop_zero]
  cases a with
  | nil => rfl
  | cons z a => simp only; rw [if_neg (fun e => ltB_ne (h z (by simp)) e.symm)]
 have addY : ∀ (p s : ByteArray) (y : S39), y.f1.size = 32 → p = y.f0 → addC ⟨p, s, y.f1⟩ = [y] := fun p s y h e => by
  rw [addC, if_neg (ne_of_32 h), e]
 have addE : ∀ (p s : ByteArray), addC ⟨p, s, ⟨#[]⟩⟩ = [] := fun p s => by rw [addC, if_pos emp_toList]
 apply both_ind
 ·intro _ _ _ _ out; rw [dm_nil_nil, applyS]
 ·intro y b ih ha hb fa fb out
  obtain ⟨e1, e2⟩ := gt1 [] y.f0 (by simp)
  rw [dm_nil_cons, applyS, e1, e2, if_pos rfl, addY y.f0 _ y (fb y (by simp)).2 rfl, ih ha (List.Pairwise.of_cons hb) fa (full_tl fb)]
  simp
 ·intro x a ih ha hb fa fb out
  obtain ⟨e1, e2⟩ := drop1 x a ha
  rw [dm_cons_nil, applyS, e1, e2, if_pos rfl, addE, ih (List.Pairwise.of_cons ha) hb (full_tl fa) fb]
  simp
 ·intro x a y b i1 i2 i3 ha hb fa fb out
  have ha2 := List.Pairwise.of_cons ha
  have hb2 := List.Pairwise.of_cons hb
  have ax : ∀ z ∈ a, ltB x.f0 z.f0 = true := fun z hz => List.rel_of_pairwise_cons ha hz
  have bx : ∀ z ∈ b, ltB y.f0 z.f0 = true := fun z hz => List.rel_of_pairwise_cons hb hz
  obtain ⟨d1, d2⟩ := drop1 x a ha
  rw [dm_cons]
  by_cases h1 : ltB x.f0 y.f0 = true
  ·rw [if_pos h1, applyS, d1, d2, if_pos rfl, addE, i1 ha2 hb (full_tl fa) fb]
   simp
  ·rw [if_neg h1]
   by_cases h2 : ltB y.f0 x.f0 = true
   ·obtain ⟨e1, e2⟩ := gt1 (x :: a) y.f0 (fun z hz => by
     rcases List.mem_cons.1 hz with rfl | hz
     ·exact h2
     ·exact ltB_trans h2 (ax z hz))
    rw [if_pos h2, applyS, e1, e2, if_pos rfl, addY y.f0 _ y (fb y (by simp)).2 rfl, i2 ha hb2 fa (full_tl fb)]
    simp
   ·rw [if_neg h2]
    have e : x.f0 = y.f0 := ltB_tri (by simpa using h1) (by simpa using h2)
    by_cases h3 : x.f1.toList = y.f1.toList
    ·have exy : x = y := by
      have := ext_toList h3
      cases x; cases y; simp only at e this; rw [e, this]
     rw [if_pos h3, applyS_pre x _ a out ha (dm_gt a b (full_tl fa) (full_tl fb) x.f0 ax (fun z hz => by rw [e]; exact bx z hz)), i3 ha2 hb2 (full_tl fa) (full_tl fb), exy]
     simp
    ·rw [if_neg h3, applyS, d1, d2, if_pos rfl, addY x.f0 _ y (fb y (by simp)).2 e, i3 ha2 hb2 (full_tl fa) (full_tl fb)]
     simp
theorem dm_self : ∀ a : List S39, dm a a = []
 | [] => dm_nil_nil
 | x :: a => by rw [dm_cons, if_neg (by rw [ltB_irr]; simp), if_neg (by rw [ltB_irr]; simp), if_pos rfl, dm_self a]
theorem dm_nil_iff (a b : List S39) (ha : srt a) (hb : srt b) (fa : full a) (fb : full b) : dm a b = [] ↔ a = b := by
 constructor
 ·intro h
  have := dm_apply a b ha hb fa fb []
  rw [h, applyS] at this
  simpa using this
 ·rintro rfl; exact dm_self a
theorem listB_full {l : List S39} (h : listB l = true) : full l := by
 intro x hx
 obtain ⟨i, hi, rfl⟩ := List.getElem_of_mem hx
 have := List.all_eq_true.1 h i (List.mem_range.2 hi)
 simp only [okAt, Bool.and_eq_true] at this
 have g := this.1
 rw [rd39_of l i hi] at g
 have h2 := goodX_le g
 simp only [goodX, Bool.and_eq_true] at g
 exact ⟨g.1, h2.2⟩
/-! the program's walk along both lists -/
theorem pdiff_ev : ∀ a b : List S39, ∀ out : List S67, out.length + a.length + b.length ≤ 1000 → Ev (fun k => merkle_Diff.l0 k (a.map toM) (b.map toM) (out.map toC)) ((out ++ dm a b).map toC) := by
 have j2t : ∀ (a b : List S39) (out : List S67) (r : List S66), (a ≠ [] ∨ b ≠ []) → Ev (fun k => merkle_Diff.j2 k (a.map toM) (b.map toM) (out.map toC) true) r → Ev (fun k => merkle_Diff.l0 k (a.map toM) (b.map toM) (out.map toC)) r := by
  intro a b out r h hr
  refine Ev.step (fun k => ?_) hr
  simp only [merkle_Diff.l0, List.length_map]
  by_cases ha : (a.length : Int) > 0
  ·rw [if_pos ha]
  ·have : (b.length : Int) > 0 := by
    rcases h with h | h
    ·exact absurd (List.eq_nil_of_length_eq_zero (by omega)) h
    ·have := List.length_pos_iff.2 h; omega
   rw [if_neg ha, decide_eq_true this]
 have takeA : ∀ (x : S39) (a b : List S39) (out : List S67) (r : List S66), out.length ≤ 1000 → Ev (fun k => merkle_Diff.l0 k (a.map toM) (b.map toM) ((out ++ [(⟨x.f0, x.f1, ⟨#[]⟩⟩ : S67)]).map toC)) r → Ev (fun k => merkle_Diff.j3 k ((x :: a).map toM) (b.map toM) (out.map toC) true) r := by
  intro x a b out r ho hr
  refine Ev.step (fun k => ?_) hr
  simp only [merkle_Diff.j3, List.length_map, List.map_cons, List.length_cons, List.drop_succ_cons, List.drop_zero]
  rw [if_pos trivial, if_pos (by omega), if_pos (by omega), if_pos (by omega), List.map_append]
  rfl
 have takeB : ∀ (y : S39) (a b : List S39) (out : List S67) (r : List S66), out.length ≤ 1000 → Ev (fun k => merkle_Diff.l0 k (a.map toM) (b.map toM) ((out ++ [(⟨y.f0, ⟨#[]⟩, y.f1⟩ : S67)]).map toC)) r → Ev (fun k => merkle_Diff.j4 k (a.map toM) ((y :: b).map toM) (out.map toC) true) r := by
  intro y a b out r ho hr
  refine Ev.step (fun k => ?_) hr
  simp only [merkle_Diff.j4, List.length_map, List.map_cons, List.length_cons, List.drop_succ_cons, List.drop_zero]
  rw [if_pos trivial, if_pos (by omega), if_pos (by omega), if_pos (by omega), List.map_append]
  rfl
 apply both_ind
 ·intro out ho
  rw [dm_nil_nil, List.append_nil]
  refine Ev.step (f := fun k => merkle_Diff.j2 k [] [] (out.map toC) false) (fun k => ?_) (Ev.step (f := fun _ => some (out.map toC)) (fun k => ?_) (Ev.now _))
  ·simp only [merkle_Diff.l0, List.map_nil]
   rw [if_neg (by simp)]
   rfl
  ·simp only [merkle_Diff.j2]
   rw [if_neg (by simp)]
 ·intro y b ih out ho
  have hr := ih (out ++ [⟨y.f0, ⟨#[]⟩, y.f1⟩]) (by simp at ho ⊢; omega)
  rw [dm_nil_cons, show out ++ (⟨y.f0, ⟨#[]⟩, y.f1⟩ : S67) :: dm [] b = out ++ [⟨y.f0, ⟨#[]⟩, y.f1⟩] ++ dm [] b by simp]
  refine j2t [] (y :: b) out _ (.inr (by simp)) ?_
  refine Ev.step (f := fun k => merkle_Diff.j3 k (([] : List S39).map toM) ((y :: b).map toM) (out.map toC) false) (fun k => ?_) (Ev.step (f := fun k => merkle_Diff.j4 k (([] : List S39).map toM) ((y :: b).map toM) (out.map toC) true) (fun k => ?_) (takeB y [] b out _ (by omega) hr))
  ·simp only [merkle_Diff.j2]
   rw [if_pos trivial, if_neg (by first | (simp; done) | (simp; omega)), if_neg (by simp)]
  ·simp only [merkle_Diff.j3]
   rw [if_neg (by simp), if_pos (by simp)]
 ·intro x a ih out ho
  have hr := ih (out ++ [⟨x.f0, x.f1, ⟨#[]⟩⟩]) (by simp at ho ⊢; omega)
  rw [dm_cons_nil, show out ++ (⟨x.f0, x.f1, ⟨#[]⟩⟩ : S67) :: dm a [] = out ++ [⟨x.f0, x.f1, ⟨#[]⟩⟩] ++ dm a [] by simp]
  refine j2t (x :: a) [] out _ (.inl (by simp)) ?_
  refine Ev.step (fun k => ?_) (takeA x a [] out _ (by omega) hr)
  simp only [merkle_Diff.j2]
  rw [if_pos trivial, if_pos (by simp)]
 ·intro x a y b i1 i2 i3 out ho
  simp only [List.length_cons] at ho
  refine j2t (x :: a) (y :: b) out _ (.inl (by simp)) ?_
  have hj2 : ∀ r, Ev (fun k => merkle_Diff.j3 k ((x :: a).map toM) ((y :: b).map toM) (out.map toC) (ltB x.f0 y.f0)) r → Ev (fun k => merkle_Diff.j2 k ((x :: a).map toM) ((y :: b).map toM) (out.map toC) true) r := fun r hr => by
   refine Ev.step (fun k => ?_) hr
   simp only [merkle_Diff.j2]
   rw [if_pos trivial, if_neg (by first | (simp; done) | (simp; omega)), if_pos (by first | (simp; done) | (simp; omega)), if_pos (by first | (simp; done) | (simp; omega)), if_pos (by first | (simp; done) | (simp; omega))]
   rfl
  refine hj2 _ ?_
  rw [dm_cons]
  by_cases h1 : ltB x.f0 y.f0 = true
  ·rw [if_pos h1, h1, show out ++ (⟨x.f0, x.f1, ⟨#[]⟩⟩ : S67) :: dm a (y :: b) = out ++ [⟨x.f0, x.f1, ⟨#[]⟩⟩] ++ dm a (y :: b) by simp]
   exact takeA x a (y :: b) out _ (by omega) (i1 (out ++ [⟨x.f0, x.f1, ⟨#[]⟩⟩]) (by simp; omega))
  ·rw [if_neg h1, show ltB x.f0 y.f0 = false by simpa using h1]
   refine Ev.step (f := fun k => merkle_Diff.j4 k ((x :: a).map toM) ((y :: b).map toM) (out.map toC) (ltB y.f0 x.f0)) (fun k => ?_) ?_
   ·simp only [merkle_Diff.j3]
    rw [if_neg (by simp), if_neg (by first | (simp; done) | (simp; omega)), if_pos (by first | (simp; done) | (simp; omega)), if_pos (by first | (simp; done) | (simp; omega))]
    rfl
   by_cases h2 : ltB y.f0 x.f0 = true
   ·rw [if_pos h2, h2, show out ++ (⟨y.f0, ⟨#[]⟩, y.f1⟩ : S67) :: dm (x :: a) b = out ++ [⟨y.f0, ⟨#[]⟩, y.f1⟩] ++ dm (x :: a) b by simp]
    exact takeB y (x :: a) b out _ (by omega) (i2 (out ++ [⟨y.f0, ⟨#[]⟩, y.f1⟩]) (by simp; omega))
   ·rw [if_neg h2, show ltB y.f0 x.f0 = false by simpa using h2]
    have e : x.f0 = y.f0 := ltB_tri (by simpa using h1) (by simpa using h2)
    have r1 : rd_T44 (toM x :: a.map toM) 0 = toM x := rfl
    have r2 : rd_T44 (toM y :: b.map toM) 0 = toM y := rfl
    by_cases h3 : x.f1.toList = y.f1.toList
    ·rw [if_pos h3]
     refine Ev.step (fun k => ?_) (i3 out (by omega))
     simp only [merkle_Diff.j4, List.length_map, List.map_cons, List.length_cons, List.drop_succ_cons, List.drop_zero, r1, r2]
     rw [if_neg (by simp), if_pos (by omega), if_pos (by omega), if_neg (by simp [e, h3]), if_pos (by omega), if_pos (by omega)]
    ·rw [if_neg h3, show out ++ (⟨x.f0, x.f1, y.f1⟩ : S67) :: dm a b = out ++ [⟨x.f0, x.f1, y.f1⟩] ++ dm a b by simp]
     refine Ev.step (fun k => ?_) (i3 (out ++ [⟨x.f0, x.f1, y.f1⟩]) (by simp; omega))
     simp only [merkle_Diff.j4, List.length_map, List.map_cons, List.length_cons, List.drop_succ_cons, List.drop_zero, r1, r2]
     rw [if_neg (by simp), if_pos (by omega), if_pos (by omega), if_pos (by simp [h3]), if_pos (by omega), if_pos (by omega), if_pos (by omega), List.map_append]
     rfl
theorem Diff_ev (a b : List S39) (ha : a.length ≤ 60) (hb : b.length ≤ 60) : Ev (fun k => merkle_Diff.f k (a.map toM) (b.map toM)) (if listB a = true ∧ listB b = true then (dm a b).map toC else []) := by
 have hT : Ev (fun k => merkle_Diff.j0 k (a.map toM) (b.map toM) [] true) [] := by
  refine Ev.step (f := fun _ => some []) (fun k => ?_) (Ev.now _)
  simp only [merkle_Diff.j0]
  rw [if_pos trivial]
 simp only [merkle_Diff.f]
 refine Ev.bind (check_ev a (by omega)) ?_
 cases h1 : listB a
 ·exact ifneg (by simp) (by simpa using hT)
 refine ifpos (by simp) ?_
 refine Ev.bind (check_ev b (by omega)) ?_
 cases h2 : listB b
 ·simpa using hT
 ·refine Ev.step (fun k => ?_) (show Ev (fun k => merkle_Diff.l0 k (a.map toM) (b.map toM) (([] : List S67).map toC)) _ from by simpa using pdiff_ev a b [] (by simp; omega))
  simp only [merkle_Diff.j0]
  rw [if_neg (by simp)]
  rfl
/-! the document's walk along both lists -/
theorem good_ne {s : ByteArray} (h : goodB s = true) : ¬ s.toList = [] := by
 intro e
 simp only [goodB, Bool.and_eq_true, decide_eq_true_eq] at h
 rw [toList_data] at e
 have : s.size = 0 := by rw [ByteArray.size, ← Array.length_toList, e]; rfl
 omega
theorem rj4_ev (a b : List S39) (ha : a.length < 1000) (hb : b.length < 1000) (out : List S67) (i k : Nat) (p : ByteArray) (hi : i < 1000) (hk : k < 1000) (ho : out.length < 100000) (r : List S67)
  (hr : Ev (fun m => strongroomref20_Diff.l0 m a b (if (sumS a p).toList = (sumS b p).toList then out else out ++ [⟨p, sumS a p, sumS b p⟩]) ((if (sumS a p).toList = [] then i else i + 1 : Nat) : Int) ((if (sumS b p).toList = [] then k else k + 1 : Nat) : Int)) r) :
  Ev (fun m => strongroomref20_Diff.j4 m a b out (i : Int) (k : Int) p) r := by
 have h5 : ∀ o : List S67, Ev (fun m => strongroomref20_Diff.l0 m a b o ((if (sumS a p).toList = [] then i else i + 1 : Nat) : Int) ((if (sumS b p).toList = [] then k else k + 1 : Nat) : Int)) r → Ev (fun m => strongroomref20_Diff.j5 m a b o (i : Int) (k : Int) (sumS a p) (sumS b p)) r := fun o h => by
  refine Ev.step (fun m => ?_) h
  simp only [strongroomref20_Diff.j5, wrap_succ hi (show (1000 : Nat) < 1000000000000 by omega), wrap_succ hk (show (1000 : Nat) < 1000000000000 by omega)]
  by_cases e1 : (sumS a p).toList = []
  ·simp only [if_pos e1]
   by_cases e2 : (sumS b p).toList = []
   ·simp only [if_pos e2]
   ·simp only [if_neg e2]
  ·simp only [if_neg e1]
   by_cases e2 : (sumS b p).toList = []
   ·simp only [if_pos e2]
   ·simp only [if_neg e2]
 refine Ev.step (f := fun m => (strongroomref20_sumOf.f m a p).bind fun t259 => ((strongroomref20_sumOf.f m b p).bind fun t260 => (if t259.toList = t260.toList then (strongroomref20_Diff.j5 m a b out (i : Int) (k : Int) t259 t260) else (if out.length < 2932031007402 then (strongroomref20_Diff.j5 m a b (out ++ [(⟨p, t259, t260⟩ : S67)]) (i : Int) (k : Int) t259 t260) else (none))))) (fun m => ?_) ?_
 ·simp only [strongroomref20_Diff.j4]
 refine Ev.bind (sumOf_ev a p (by omega)) (Ev.bind (sumOf_ev b p (by omega)) ?_)
 by_cases e : (sumS a p).toList = (sumS b p).toList
 ·rw [if_pos e] at hr
  exact ifpos e (h5 _ hr)
 ·rw [if_neg e] at hr
  exact ifneg e (ifpos (by omega) (h5 _ hr))
theorem sumS_head {a : List S39} {x : S39} {t A : List S39} (h : srt (x :: t)) (e : a = A ++ x :: t) (hA : ∀ z ∈ A, ltB z.f0 x.f0 = true) : sumS a x.f0 = x.f1 := by
 rw [e, sumS_app h x.f0 A hA]
 have h0 : cnt (x :: t) x.f0 = 0 := cnt_zero (fun z hz => by
  rcases List.mem_cons.1 hz with rfl | hz
  ·exact ltB_irr _
  ·exact ltB_asymm (List.rel_of_pairwise_cons h hz))
 exact sumS_there h x.f0 (by rw [h0, List.drop_zero]) rfl
theorem sumS_gone {a t A : List S39} {p : ByteArray} (h : srt t) (e : a = A ++ t) (hA : ∀ z ∈ A, ltB z.f0 p = true) (ht : ∀ z ∈ t, ltB p z.f0 = true) : sumS a p = ⟨#[]⟩ := by
 rw [e, sumS_app h p A hA]
 have h0 : cnt t p = 0 := cnt_zero (fun z hz => ltB_asymm (ht z hz))
 exact sumS_none h p (by rw [h0, List.drop_zero]; exact ht)
theorem rdiff_ev (a b : List S39) (ha : a.length ≤ 60) (hb : b.length ≤ 60) (sa : srt a) (sb : srt b) (fa : full a) (fb : full b) : ∀ a2 b2 : List S39, ∀ (A B : List S39) (out : List S67), a = A ++ a2 → b = B ++ b2 →
  (∀ z ∈ A, ∀ y ∈ b2, ltB z.f0 y.f0 = true) → (∀ z ∈ B, ∀ y ∈ a2, ltB z.f0 y.f0 = true) → out.length + a2.length + b2.length ≤ 1000 →
  Ev (fun k => strongroomref20_Diff.l0 k a b out (A.length : Int) (B.length : Int)) (out ++ dm a2 b2) := by
 -- what both lists have at what is looked at next
 have sub : ∀ {a A a2 : List S39}, srt a → a = A ++ a2 → srt a2 ∧ ∀ z ∈ A, ∀ y ∈ a2, ltB z.f0 y.f0 = true := fun {a A a2} h e => by
  subst e
  rw [srt, List.pairwise_append] at h
  exact ⟨h.2.1, h.2.2⟩
 have rdA : ∀ {a A : List S39} {x : S39} {t : List S39}, a = A ++ x :: t → rd_T39 a (A.length : Int) = x := fun {a A x t} e => by
  subst e
  rw [rd39_of _ A.length (by simp)]
  simp
 -- the next one of the first list
 have goA : ∀ (A B out) (x : S39) (a2 b2 : List S39) (r : List S67), a = A ++ x :: a2 → b = B ++ b2 → (∀ z ∈ B, ltB z.f0 x.f0 = true) → (∀ y ∈ b2, ltB x.f0 y.f0 = true) → out.length + a2.length + 1 + b2.length ≤ 1000 →
   Ev (fun k => strongroomref20_Diff.l0 k a b (out ++ [(⟨x.f0, x.f1, ⟨#[]⟩⟩ : S67)]) ((A.length + 1 : Nat) : Int) (B.length : Int)) r → Ev (fun k => strongroomref20_Diff.l0 k a b out (A.length : Int) (B.length : Int)) r := by
  intro A B out x a2 b2 r e1 e2 h1 h2 ho hr
  obtain ⟨s1, s2⟩ := sub sa e1
  obtain ⟨s3, _⟩ := sub sb e2
  have la : a.length = A.length + a2.length + 1 := by rw [e1]; simp; omega
  have lb : b.length = B.length + b2.length := by rw [e2]; simp
  have u1 : sumS a x.f0 = x.f1 := sumS_head s1 e1 (fun z hz => s2 z hz x (by simp))
  have u2 : sumS b x.f0 = ⟨#[]⟩ := sumS_gone s3 e2 h1 h2
  have hx := fa x (by rw [e1]; simp)
  have n1 := ne_of_32 hx.2
  have hj4 : Ev (fun k => strongroomref20_Diff.j4 k a b out (A.length : Int) (B.length : Int) x.f0) r := by
   refine rj4_ev a b (by omega) (by omega) out A.length B.length x.f0 (by omega) (by omega) (by omega) r ?_
   rw [u1, u2, emp_toList, if_neg n1, if_neg n1, if_pos rfl]
   exact hr
  have hj3 : Ev (fun k => strongroomref20_Diff.j3 k a b out (A.length : Int) (B.length : Int) x.f0 false) r := by
   refine Ev.step (fun k => ?_) hj4
   simp only [strongroomref20_Diff.j3]
   rw [if_neg (by simp)]
  have hj2 : Ev (fun k => strongroomref20_Diff.j2 k a b out (A.length : Int) (B.length : Int) x.f0) r := by
   refine Ev.step (fun k => ?_) hj3
   simp only [strongroomref20_Diff.j2]
   rw [if_neg (good_ne hx.1)]
   cases b2 with
   | nil => rw [if_neg (by simp at lb; omega)]
   | cons y b2 =>
    rw [if_pos (by simp at lb; omega), if_pos (by omega), rdA e2, show Op.bytesLess y.f0.toList x.f0.toList = false from ltB_asymm (h2 y (by simp))]
  refine Ev.step (f := fun k => strongroomref20_Diff.j1 k a b out (A.length : Int) (B.length : Int) true) (fun k => ?_) (Ev.step (fun k => ?_) hj2)
  ·simp only [strongroomref20_Diff.l0]
   rw [if_pos (by omega)]
  ·simp only [strongroomref20_Diff.j1]
   rw [if_pos trivial, if_pos (by omega), if_pos (by omega), rdA e1]
 -- the next one of the second list
 have goB : ∀ (A B out) (y : S39) (a2 b2 : List S39) (r : List S67), a = A ++ a2 → b = B ++ y :: b2 → (∀ z ∈ A, ltB z.f0 y.f0 = true) → (∀ x ∈ a2, ltB y.f0 x.f0 = true) → out.length + a2.length + 1 + b2.length ≤ 1000 →
   Ev (fun k => strongroomref20_Diff.l0 k a b (out ++ [(⟨y.f0, ⟨#[]⟩, y.f1⟩ : S67)]) (A.length : Int) ((B.length + 1 : Nat) : Int)) r → Ev (fun k => strongroomref20_Diff.l0 k a b out (A.length : Int) (B.length : Int)) r := by
  intro A B out y a2 b2 r e1 e2 h1 h2 ho hr
  obtain ⟨s1, _⟩ := sub sa e1
  obtain ⟨s3, s4⟩ := sub sb e2
  have la : a.length = A.length + a2.length := by rw [e1]; simp
  have lb : b.length = B.length + b2.length + 1 := by rw [e2]; simp; omega
  have u1 : sumS b y.f0 = y.f1 := sumS_head s3 e2 (fun z hz => s4 z hz y (by simp))
  have u2 : sumS a y.f0 = ⟨#[]⟩ := sumS_gone s1 e1 h1 h2
  have hy := fb y (by rw [e2]; simp)
  have n1 := ne_of_32 hy.2
  have hj4 : Ev (fun k => strongroomref20_Diff.j4 k a b out (A.length : Int) (B.length : Int) y.f0) r := by
   refine rj4_ev a b (by omega) (by omega) out A.length B.length y.f0 (by omega) (by omega) (by omega) r ?_
   rw [u1, u2, emp_toList, if_neg (fun e => n1 e.symm), if_neg n1, if_pos rfl]
   exact hr
  have hj3 : ∀ q, Ev (fun k => strongroomref20_Diff.j3 k a b out (A.length : Int) (B.length : Int) q true) r := by
   intro q
   refine Ev.step (fun k => ?_) hj4
   simp only [strongroomref20_Diff.j3]
   rw [if_pos trivial, if_pos (by omega), if_pos (by omega), rdA e2]
  cases a2 with
  | nil =>
   simp only [List.length_nil] at la
   refine Ev.step (f := fun k => strongroomref20_Diff.j1 k a b out (A.length : Int) (B.length : Int) true) (fun k => ?_) (Ev.step (f := fun k => strongroomref20_Diff.j2 k a b out (A.length : Int) (B.length : Int) ⟨#[]⟩) (fun k => ?_) (Ev.step (fun k => ?_) (hj3 ⟨#[]⟩)))
   ·simp only [strongroomref20_Diff.l0]
    rw [if_neg (by omega), decide_eq_true (by omega)]
   ·simp only [strongroomref20_Diff.j1]
    rw [if_pos trivial, if_neg (by omega)]
   ·simp only [strongroomref20_Diff.j2]
    rw [if_pos emp_toList]
  | cons x a2 =>
   simp only [List.length_cons] at la
   have hx := fa x (by rw [e1]; simp)
   refine Ev.step (f := fun k => strongroomref20_Diff.j1 k a b out (A.length : Int) (B.length : Int) true) (fun k => ?_) (Ev.step (f := fun k => strongroomref20_Diff.j2 k a b out (A.length : Int) (B.length : Int) x.f0) (fun k => ?_) (Ev.step (fun k => ?_) (hj3 x.f0)))
   ·simp only [strongroomref20_Diff.l0]
    rw [if_pos (by omega)]
   ·simp only [strongroomref20_Diff.j1]
    rw [if_pos trivial, if_pos (by omega), if_pos (by omega), rdA e1]
   ·simp only [strongroomref20_Diff.j2]
    rw [if_neg (good_ne hx.1), if_pos (by omega), if_pos (by omega), rdA e2, show Op.bytesLess y.f0.toList x.f0.toList = true from h2 x (by simp)]
 apply both_ind
 ·intro A B out e1 e2 _ _ ho
  rw [dm_nil_nil, List.append_nil]
  rw [List.append_nil] at e1 e2
  subst e1; subst e2
  refine Ev.step (f := fun k => strongroomref20_Diff.j1 k a b out (a.length : Int) (b.length : Int) false) (fun k => ?_) (Ev.step (f := fun _ => some out) (fun k => ?_) (Ev.now _))
  ·simp only [strongroomref20_Diff.l0]
   rw [if_neg (by omega), decide_eq_false (by omega)]
  ·simp only [strongroomref20_Diff.j1]
   rw [if_neg (by simp)]
 ·intro y b2 ih A B out e1 e2 h1 h2 ho
  simp only [List.length_cons, List.length_nil] at ho
  have hr := ih A (B ++ [y]) (out ++ [⟨y.f0, ⟨#[]⟩, y.f1⟩]) e1 (by rw [e2]; simp) (fun z hz w hw => h1 z hz w (by simp [hw])) (by simp) (by simp; omega)
  rw [dm_nil_cons, show out ++ (⟨y.f0, ⟨#[]⟩, y.f1⟩ : S67) :: dm [] b2 = out ++ [⟨y.f0, ⟨#[]⟩, y.f1⟩] ++ dm [] b2 by simp]
  rw [show (B ++ [y]).length = B.length + 1 by simp] at hr
  exact goB A B out y [] b2 _ e1 e2 (fun z hz => h1 z hz y (by simp)) (by simp) (by simp; omega) hr
 ·intro x a2 ih A B out e1 e2 h1 h2 ho
  simp only [List.length_cons, List.length_nil] at ho
  have hr := ih (A ++ [x]) B (out ++ [⟨x.f0, x.f1, ⟨#[]⟩⟩]) (by rw [e1]; simp) e2 (by simp) (fun z hz w hw => h2 z hz w (by simp [hw])) (by simp; omega)
  rw [dm_cons_nil, show out ++ (⟨x.f0, x.f1, ⟨#[]⟩⟩ : S67) :: dm a2 [] = out ++ [⟨x.f0, x.f1, ⟨#[]⟩⟩] ++ dm a2 [] by simp]
  rw [show (A ++ [x]).length = A.length + 1 by simp] at hr
  exact goA A B out x a2 [] _ e1 e2 (fun z hz => h2 z hz x (by simp)) (by simp) (by simp; omega) hr
 ·intro x a2 y b2 i1 i2 i3 A B out e1 e2 h1 h2 ho
  simp only [List.length_cons] at ho
  obtain ⟨s1, s2⟩ := sub sa e1
  obtain ⟨s3, s4⟩ := sub sb e2
  have ax : ∀ z ∈ a2, ltB x.f0 z.f0 = true := fun z hz => List.rel_of_pairwise_cons s1 hz
  have bx : ∀ z ∈ b2, ltB y.f0 z.f0 = true := fun z hz => List.rel_of_pairwise_cons s3 hz
  have eA : a = (A ++ [x]) ++ a2 := by rw [e1]; simp
  have eB : b = (B ++ [y]) ++ b2 := by rw [e2]; simp
  have lA : (A ++ [x]).length = A.length + 1 := by simp
  have lB : (B ++ [y]).length = B.length + 1 := by simp
  rw [dm_cons]
  by_cases g1 : ltB x.f0 y.f0 = true
  ·have hr := i1 (A ++ [x]) B (out ++ [⟨x.f0, x.f1, ⟨#[]⟩⟩]) eA e2 (fun z hz w hw => by
    rcases List.mem_append.1 hz with hz | hz
    ·exact h1 z hz w hw
    ·rw [List.mem_singleton.1 hz]
     rcases List.mem_cons.1 hw with rfl | hw
     ·exact g1
     ·exact ltB_trans g1 (bx w hw)) (fun z hz w hw => h2 z hz w (by simp [hw])) (by simp; omega)
   rw [if_pos g1, show out ++ (⟨x.f0, x.f1, ⟨#[]⟩⟩ : S67) :: dm a2 (y :: b2) = out ++ [⟨x.f0, x.f1, ⟨#[]⟩⟩] ++ dm a2 (y :: b2) by simp]
   rw [lA] at hr
   exact goA A B out x a2 (y :: b2) _ e1 e2 (fun z hz => h2 z hz x (by simp)) (fun w hw => by
    rcases List.mem_cons.1 hw with rfl | hw
    ·exact g1
    ·exact ltB_trans g1 (bx w hw)) (by simp; omega) hr
  rw [if_neg g1]
  by_cases g2 : ltB y.f0 x.f0 = true
  ·have hr := i2 A (B ++ [y]) (out ++ [⟨y.f0, ⟨#[]⟩, y.f1⟩]) e1 eB (fun z hz w hw => h1 z hz w (by simp [hw])) (fun z hz w hw => by
    rcases List.mem_append.1 hz with hz | hz
    ·exact h2 z hz w hw
    ·rw [List.mem_singleton.1 hz]
     rcases List.mem_cons.1 hw with rfl | hw
     ·exact g2
     ·exact ltB_trans g2 (ax w hw)) (by simp; omega)
   rw [if_pos g2, show out ++ (⟨y.f0, ⟨#[]⟩, y.f1⟩ : S67) :: dm (x :: a2) b2 = out ++ [⟨y.f0, ⟨#[]⟩, y.f1⟩] ++ dm (x :: a2) b2 by simp]
   rw [lB] at hr
   exact goB A B out y (x :: a2) b2 _ e1 e2 (fun z hz => h1 z hz y (by simp)) (fun w hw => by
    rcases List.mem_cons.1 hw with rfl | hw
    ·exact g2
    ·exact ltB_trans g2 (ax w hw)) (by simp; omega) hr
  rw [if_neg g2]
  have e : x.f0 = y.f0 := ltB_tri (by simpa using g1) (by simpa using g2)
  have la : a.length = A.length + a2.length + 1 := by rw [e1]; simp; omega
  have lb : b.length = B.length + b2.length + 1 := by rw [e2]; simp; omega
  have u1 : sumS a x.f0 = x.f1 := sumS_head s1 e1 (fun z hz => s2 z hz x (by simp))
  have u2 : sumS b x.f0 = y.f1 := by rw [e]; exact sumS_head s3 e2 (fun z hz => s4 z hz y (by simp))
  have hx := fa x (by rw [e1]; simp)
  have hy := fb y (by rw [e2]; simp)
  have n1 := ne_of_32 hx.2
  have n2 := ne_of_32 hy.2
  have hr := fun o (ho2 : o.length ≤ out.length + 1) => i3 (A ++ [x]) (B ++ [y]) o eA eB (fun z hz w hw => by
    rcases List.mem_append.1 hz with hz | hz
    ·exact h1 z hz w (by simp [hw])
    ·rw [List.mem_singleton.1 hz, e]; exact bx w hw) (fun z hz w hw => by
    rcases List.mem_append.1 hz with hz | hz
    ·exact h2 z hz w (by simp [hw])
    ·rw [List.mem_singleton.1 hz, ← e]; exact ax w hw) (by omega)
  rw [lA, lB] at hr
  have hj4 : Ev (fun k => strongroomref20_Diff.j4 k a b out (A.length : Int) (B.length : Int) x.f0) (out ++ if x.f1.toList = y.f1.toList then dm a2 b2 else ⟨x.f0, x.f1, y.f1⟩ :: dm a2 b2) := by
   refine rj4_ev a b (by omega) (by omega) out A.length B.length x.f0 (by omega) (by omega) (by omega) _ ?_
   rw [u1, u2, if_neg n1, if_neg n2]
   by_cases g3 : x.f1.toList = y.f1.toList
   ·rw [if_pos g3, if_pos g3]
    exact hr out (by omega)
   ·rw [if_neg g3, if_neg g3, show out ++ (⟨x.f0, x.f1, y.f1⟩ : S67) :: dm a2 b2 = out ++ [⟨x.f0, x.f1, y.f1⟩] ++ dm a2 b2 by simp]
    exact hr _ (by simp)
  refine Ev.step (f := fun k => strongroomref20_Diff.j1 k a b out (A.length : Int) (B.length : Int) true) (fun k => ?_) (Ev.step (f := fun k => strongroomref20_Diff.j2 k a b out (A.length : Int) (B.length : Int) x.f0) (fun k => ?_) (Ev.step (f := fun k => strongroomref20_Diff.j3 k a b out (A.length : Int) (B.length : Int) x.f0 false) (fun k => ?_) (Ev.step (fun k => ?_) hj4)))
  ·simp only [strongroomref20_Diff.l0]
   rw [if_pos (by omega)]
  ·simp only [strongroomref20_Diff.j1]
   rw [if_pos trivial, if_pos (by omega), if_pos (by omega), rdA e1]
  ·simp only [strongroomref20_Diff.j2]
   rw [if_neg (good_ne hx.1), if_pos (by omega), if_pos (by omega), rdA e2, show Op.bytesLess y.f0.toList x.f0.toList = false by simpa [ltB] using g2]
  ·simp only [strongroomref20_Diff.j3]
   rw [if_neg (by simp)]
def keyL (x : S39) : List UInt8 × List UInt8 := (x.f0.data.toList, x.f1.data.toList)
theorem keyL_inj {x y : S39} (h : keyL x = keyL y) : x = y := by
 have h1 := congrArg Prod.fst h
 have h2 := congrArg Prod.snd h
 have g0 := ext_toList (a := x.f0) (b := y.f0) (by rw [toList_data, toList_data]; exact h1)
 have g1 := ext_toList (a := x.f1) (b := y.f1) (by rw [toList_data, toList_data]; exact h2)
 cases x; cases y
 simp only at g0 g1
 rw [g0, g1]
def eqL (a b : List S39) : Bool := decide (a.map keyL = b.map keyL)
theorem eqL_iff (a b : List S39) : eqL a b = true ↔ a = b := by
 rw [eqL, decide_eq_true_eq]
 constructor
 ·intro h
  exact (List.map_inj_right (fun x y h => keyL_inj h)).1 h
 ·intro h; rw [h]
theorem sameG_ev (a b : List S39) (ha : a.length < 100000) : Ev (fun k => strongroomref20_Same.f k a b) (eqL a b) := by
 simp only [strongroomref20_Same.f]
 by_cases hl : a.length = b.length
 case neg =>
  rw [show eqL a b = false from Bool.eq_false_iff.2 (fun e => hl (by rw [(eqL_iff a b).1 e]))]
  exact ifneg (by omega) (Ev.now _)
 refine ifpos (by omega) ?_
 have loop : ∀ (d i : Nat), i + d = a.length → Ev (fun k => strongroomref20_Same.l0 k a b (i : Int)) (eqL (a.drop i) (b.drop i)) := by
  intro d
  induction d with
  | zero =>
   intro i hi
   rw [List.drop_eq_nil_of_le (by omega), List.drop_eq_nil_of_le (by omega), show eqL [] [] = true from rfl]
   refine Ev.step (f := fun _ => some true) (fun k => ?_) (Ev.now _)
   simp only [strongroomref20_Same.l0]
   rw [if_neg (by omega)]
  | succ d ih =>
   intro i hi
   have ia : i < a.length := by omega
   have ib : i < b.length := by omega
   rw [List.drop_eq_getElem_cons ia, List.drop_eq_getElem_cons ib]
   have ih2 := ih (i + 1) (by omega)
   have hx := rd39_of a i ia
   have hy := rd39_of b i ib
   generalize a[i] = x at *
   generalize b[i] = y at *
   by_cases e : x = y
   ·subst e
    rw [show eqL (x :: a.drop (i + 1)) (x :: b.drop (i + 1)) = eqL (a.drop (i + 1)) (b.drop (i + 1)) by simp [eqL]]
    refine Ev.step (fun k => ?_) ih2
    simp only [strongroomref20_Same.l0]
    rw [if_pos (by omega), if_pos (by omega), if_pos (by omega), hx, hy, if_neg (by simp), wrap_succ (n := a.length) (by omega) (by omega)]
   ·rw [show eqL (x :: a.drop (i + 1)) (y :: b.drop (i + 1)) = false from Bool.eq_false_iff.2 (fun h => e (List.cons.inj ((eqL_iff _ _).1 h)).1)]
    refine Ev.step (f := fun _ => some false) (fun k => ?_) (Ev.now _)
    simp only [strongroomref20_Same.l0]
    rw [if_pos (by omega), if_pos (by omega), if_pos (by omega), hx, hy, if_pos]
    by_cases e0 : x.f0.toList = y.f0.toList
    ·have e1 : ¬ x.f1.toList = y.f1.toList := fun e1 => e (by
      have g0 := ext_toList e0
      have g1 := ext_toList e1
      cases x; cases y
      simp only at g0 g1
      rw [g0, g1])
     simp [e0, e1]
    ·simp [e0]
 exact loop a.length 0 (by omega)
theorem toC_f (c : S67) : toC c = ⟨c.f0, c.f1, c.f2⟩ := rfl
/-- behind the comparison of both answers -/
theorem diffs_loop (a b : List S39) (d : List S67) (hd : d.length ≤ 200) (r : Bool) (hr : Ev (fun k => strongroomlaw20_MerkleDiffs.l0 k a b (d.map toC) d ((d.map swC).map toC) (d.length : Int)) r) :
  ∀ (n i : Nat), i + n = d.length → Ev (fun k => strongroomlaw20_MerkleDiffs.l0 k a b (d.map toC) d (((d.take i).map swC).map toC) (i : Int)) r := by
 intro n
 induction n with
 | zero =>
  intro i hi
  rw [show i = d.length by omega, List.take_length]
  exact hr
 | succ n ih =>
  intro i hi
  have hlt : i < d.length := by omega
  have h2 := ih (i + 1) (by omega)
  have ht : ((d.take (i + 1)).map swC).map toC = ((d.take i).map swC).map toC ++ [(⟨d[i].f0, d[i].f2, d[i].f1⟩ : S66)] := by
   rw [List.take_succ_eq_append_getElem hlt, List.map_append, List.map_append]
   rfl
  rw [ht] at h2
  refine Ev.step (fun k => ?_) h2
  simp only [strongroomlaw20_MerkleDiffs.l0]
  rw [if_pos (by rw [List.length_map]; omega), if_pos (by omega), if_pos (by omega), rd66_C d i hlt, rd67_of d i hlt, if_neg (by simp [toC_f]), if_pos (by simp; omega), wrap_succ (n := d.length) (by omega) (by omega)]
/-- MerkleDiffs, of numbers and lists alone. -/
theorem MerkleDiffs (a b : List S39) : ∃ k, strongroomlaw20_MerkleDiffs.f k a b = some true := by
 refine Ev.rounds (g := fun k => strongroomlaw20_MerkleDiffs.f k a b) ?_
 simp only [strongroomlaw20_MerkleDiffs.f]
 have hT : Ev (fun k => strongroomlaw20_MerkleDiffs.j0 k a b true) true := by
  refine Ev.step (fun k => ?_) lives_ev'
  simp only [strongroomlaw20_MerkleDiffs.j0]
  rw [if_pos trivial]
 refine Ev.bind (small_ev a) ?_
 cases hsa : smallX a
 ·exact ifneg (by simp) hT
 refine ifpos rfl ?_
 obtain ⟨la, ta⟩ := small_facts hsa
 refine Ev.bind (small_ev b) ?_
 cases hsb : smallX b
 ·exact hT
 obtain ⟨lb, tb⟩ := small_facts hsb
 have hj : ∀ r, Ev (fun k => (strongroomlaw20_mine.f k a).bind fun t312 => ((strongroomlaw20_mine.f k b).bind fun t315 => ((merkle_Diff.f k t312 t315).bind fun t318 => ((strongroomlaw20_list.f k a).bind fun t321 => (if t321 = true then ((strongroomlaw20_list.f k b).bind fun t322 => (strongroomlaw20_MerkleDiffs.j1 k a b t318 (!t322))) else (strongroomlaw20_MerkleDiffs.j1 k a b t318 true)))))) r → Ev (fun k => strongroomlaw20_MerkleDiffs.j0 k a b false) r := fun r h => by
  refine Ev.step (fun k => ?_) h
  simp only [strongroomlaw20_MerkleDiffs.j0]
  rw [if_neg (by simp)]
 refine hj _ ?_
 refine Ev.bind (mine_ev a (by omega)) (Ev.bind (mine_ev b (by omega)) (Ev.bind (Diff_ev a b la lb) (Ev.bind (list_ev a (by omega)) ?_)))
 have hN : Ev (fun k => strongroomlaw20_MerkleDiffs.j1 k a b [] true) true := by
  refine Ev.step (fun k => ?_) lives_ev'
  simp only [strongroomlaw20_MerkleDiffs.j1]
  rw [if_pos trivial, if_pos (show ((([] : List S66).length : Nat) : Int) = 0 from rfl)]
 cases ba : listB a
 ·simpa using hN
 refine ifpos rfl (Ev.bind (list_ev b (by omega)) ?_)
 cases bb : listB b
 ·simpa using hN
 rw [if_pos ⟨rfl, rfl⟩]
 have sa := listB_srt ba
 have sb := listB_srt bb
 have fa := listB_full ba
 have fb := listB_full bb
 have hR := rdiff_ev a b la lb sa sb fa fb a b [] [] [] rfl rfl (by simp) (by simp) (by simp; omega)
 have hl := dm_len a b
 have hA := papply_ev a (dm a b) b (by omega) (by omega) ba (dm_chgs a b sa sb fa fb) (by rw [dm_apply a b sa sb fa fb]; rfl)
 have hB := papply_ev b (dm b a) a (by omega) (by have := dm_len b a; omega) bb (dm_chgs b a sb sa fb fa) (by rw [dm_apply b a sb sa fb fa]; rfl)
 rw [← dm_swap a b sa sb] at hB
 have hnil := dm_nil_iff a b sa sb fa fb
 have hR' : Ev (fun k => strongroomref20_Diff.f k a b) (dm a b) := hR
 refine Ev.step (f := fun k => (strongroomref20_Diff.f k a b).bind fun t324 => (if (((dm a b).map toC).length : Int) = (t324.length : Int) then (strongroomlaw20_MerkleDiffs.l0 k a b ((dm a b).map toC) t324 ([] : List (S66)) 0) else (some false))) (fun k => ?_) ?_
 ·simp only [strongroomlaw20_MerkleDiffs.j1]
  rw [if_neg (by simp)]
 refine Ev.bind hR' ?_
 refine ifpos (by rw [List.length_map]) ?_
 generalize dm a b = d at *
 refine diffs_loop a b d (by omega) true ?_ d.length 0 (by omega)
 have hDa := Digest_ev a (by omega) ta
 have hDb := Digest_ev b (by omega) tb
 rw [ba, if_pos rfl] at hDa
 rw [bb, if_pos rfl] at hDb
 have hz : (((d.map toC).length : Int) == 0) = eqL a b := by
  rw [Bool.eq_iff_iff, beq_iff_eq, eqL_iff, ← hnil, List.length_map]
  constructor
  ·intro h; exact List.eq_nil_of_length_eq_zero (by omega)
  ·intro h; rw [h]; rfl
 refine Ev.step (f := fun k => ((strongroomlaw20_mine.f k a).bind fun t337 => ((merkle_Apply.f k t337 (d.map toC)).bind fun bt340 => ((merkle_Apply.f k bt340.1 ((d.map swC).map toC)).bind fun bt344 => (if bt340.2 = 0 then (if bt344.2 = 0 then ((strongroomlaw20_theirs.f k bt340.1).bind fun t348 => ((strongroomref20_Same.f k t348 b).bind fun t351 => (if t351 = true then ((strongroomlaw20_theirs.f k bt344.1).bind fun t352 => ((strongroomref20_Same.f k t352 a).bind fun t355 => (if t355 = true then ((strongroomlaw20_mine.f k a).bind fun t356 => ((merkle_Digest.f k t356).bind fun t359 => ((strongroomlaw20_mine.f k b).bind fun t360 => ((merkle_Digest.f k t360).bind fun t363 => (if t359.toList = t363.toList then ((strongroomref20_Same.f k a b).bind fun t364 => (if ((((d.map toC).length : Int) == 0) == t364) = true then ((strongroomlaw20_lives.f k).bind fun t365 => (some t365)) else (some false))) else (if ((((d.map toC).length : Int) == 0) == false) = true then ((strongroomlaw20_lives.f k).bind fun t366 => (some t366)) else (some false))))))) else (some false)))) else (some false)))) else (some false)) else (some false)))))) (fun k => ?_) ?_
 ·simp only [strongroomlaw20_MerkleDiffs.l0]
  rw [if_neg (by rw [List.length_map]; omega)]
 refine Ev.bind (mine_ev a (by omega)) (Ev.bind hA (Ev.bind hB (ifpos rfl (ifpos rfl ?_))))
 refine Ev.bind (theirs_ev b (by omega)) (Ev.bind (same_ev b (by omega)) (ifpos rfl ?_))
 refine Ev.bind (theirs_ev a (by omega)) (Ev.bind (same_ev a (by omega)) (ifpos rfl ?_))
 refine Ev.bind (mine_ev a (by omega)) (Ev.bind hDa (Ev.bind (mine_ev b (by omega)) (Ev.bind hDb ?_)))
 by_cases hab : a = b
 ·refine ifpos (by rw [hab]) (Ev.bind (sameG_ev a b (by omega)) (ifpos (by rw [hz]; simp) lives_ev'))
 ·by_cases hdg : (mkB (digL (a.map toP9))).toList = (mkB (digL (b.map toP9))).toList
  ·exact ifpos hdg (Ev.bind (sameG_ev a b (by omega)) (ifpos (by rw [hz]; simp) lives_ev'))
  ·exact ifneg hdg (ifpos (by rw [hz, show eqL a b = false from Bool.eq_false_iff.2 (fun e => hab ((eqL_iff a b).1 e))]; rfl) lives_ev')

end Go.Proofs.YtdeggemomajhcaaDoor.Pure
