/- The plain law of MerkleAbsent: of numbers and lists alone. -/
import Derived.Test.YtdeggemomajhcaaDoorHMerkleAbsentx20
import Derived.Laws.BitsAllLaws
namespace Go.Proofs.YtdeggemomajhcaaDoor.Pure
open Go.RowKit Go.Proofs.YtdeggemomajhcaaDoorH.HMerkleAbsent Go.Proofs.YtdeggemomajhcaaDoorW.PrintWords Go.Proofs.YtdeggemomajhcaaDoorW.PrintLast Go.Proofs.YtdeggemomajhcaaDoorW.PrintMore

abbrev I (b : UInt8) : Int := (b.toNat : Int)
def putL (n : Nat) : List UInt8 := if n < 128 then [UInt8.ofNat n] else UInt8.ofNat (n % 128 + 128) :: putL (n / 128)
termination_by n
decreasing_by omega
theorem putL_small {n : Nat} (h : n < 128) : putL n = [UInt8.ofNat n] := by rw [putL, if_pos h]
theorem putL_big {n : Nat} (h : ¬ n < 128) : putL n = UInt8.ofNat (n % 128 + 128) :: putL (n / 128) := by rw [putL, if_neg h]
theorem putL_len : ∀ (k n : Nat), n < 128 ^ (k + 1) → (putL n).length ≤ k + 1
 | 0, n, h => by rw [putL_small (by simpa using h)]; simp
 | k + 1, n, h => by
  by_cases hn : n < 128
  ·rw [putL_small hn]; simp
  ·rw [putL_big hn, List.length_cons]
   have := putL_len k (n / 128) (by rw [Nat.div_lt_iff_lt_mul (by decide), ← Nat.pow_succ]; exact h)
   omega
theorem putL_ten {n : Nat} (h : n < 18446744073709551616) : (putL n).length ≤ 10 := putL_len 9 n (Nat.lt_trans h (by decide))
theorem or128 (n : Nat) : Go.bits .or .u8 ((n : Int) % 256) 128 = I (UInt8.ofNat (n % 128 + 128)) := by
 have h : ∀ m, m < 256 → Go.bits .or .u8 ((m : Nat) : Int) 128 = I (UInt8.ofNat (m % 128 + 128)) := by decide +kernel
 have h2 := h (n % 256) (Nat.mod_lt _ (by decide))
 rw [show ((n : Int) % 256) = ((n % 256 : Nat) : Int) by omega, h2, Nat.mod_mod_of_dvd n (by decide)]
theorem I_ofNat {n : Nat} (h : n < 256) : I (UInt8.ofNat n) = (n : Int) := by
 simp only [I, UInt8.toNat_ofNat']; omega
theorem mk_app (a b : List UInt8) : (⟨a.toArray⟩ : ByteArray) ++ ⟨b.toArray⟩ = ⟨(a ++ b).toArray⟩ := by
 apply ByteArray.ext
 simp [ByteArray.data_append]
theorem mk_size (a : List UInt8) : (⟨a.toArray⟩ : ByteArray).size = a.length := by simp [ByteArray.size]
theorem nums_mk (l : List UInt8) : strOfNums (l.map I) = ⟨l.toArray⟩ := by
 simp [strOfNums, I, Function.comp_def]
theorem bytes_mk (l : List UInt8) : bytesOf ⟨l.toArray⟩ = l.map I := by simp [bytesOf]
theorem u64_nat {n : Nat} (h : n < 18446744073709551616) : IntKind.u64.wrap (n : Int) = (n : Int) := by
 simp [IntKind.wrap, IntKind.bits, IntKind.signed]; omega
theorem ifpos {α : Type} {c : Prop} [Decidable c] {f g : Nat → Option α} {r : α} (h : c) (k : Ev f r) : Ev (fun n => if c then f n else g n) r := Ev.congr (fun _ => if_pos h) k
theorem ifneg {α : Type} {c : Prop} [Decidable c] {f g : Nat → Option α} {r : α} (h : ¬ c) (k : Ev g r) : Ev (fun n => if c then f n else g n) r := Ev.congr (fun _ => if_neg h) k
theorem lay_ev : ∀ (n : Nat) (l : List UInt8), l.length + (putL n).length < 140737488355328 → Ev (fun k => num_lay.l0 k (l.map I) (n : Int)) ((l ++ putL n).map I) := by
 intro n
 induction n using Nat.strongRecOn with
 | ind n ih =>
  intro l hl
  by_cases hn : n < 128
  ·rw [putL_small hn] at hl ⊢
   refine Ev.step (f := fun _ => some ((l ++ [UInt8.ofNat n]).map I)) (fun k => ?_) (Ev.now _)
   simp only [num_lay.l0]
   rw [if_neg (by omega), if_pos (by simp at hl ⊢; omega)]
   simp only [List.map_append, List.map_cons, List.map_nil, I_ofNat (show n < 256 by omega)]
   rw [show (n : Int) % 256 = (n : Int) by omega]
  ·rw [putL_big hn] at hl ⊢
   have h2 := ih (n / 128) (by omega) (l ++ [UInt8.ofNat (n % 128 + 128)]) (by simp at hl ⊢; omega)
   rw [show l ++ UInt8.ofNat (n % 128 + 128) :: putL (n / 128) = l ++ [UInt8.ofNat (n % 128 + 128)] ++ putL (n / 128) by simp]
   refine Ev.step (fun k => ?_) h2
   simp only [num_lay.l0]
   rw [if_pos (by omega), if_pos (by simp at hl ⊢; omega), or128, show (n : Int) / 128 = ((n / 128 : Nat) : Int) by omega]
   simp
theorem own_is (l : List Int) (h : l.length < 140737488355328) : num_own.f l = some l := by
 simp [num_own.f, h]
theorem putText_ev (l s : List UInt8) (h : l.length + s.length + 10 < 140737488355328) (hs : s.length < 18446744073709551616) : Ev (fun k => num_PutText.f k (l.map I) ⟨s.toArray⟩) ((l ++ putL s.length ++ s).map I) := by
 have h10 := putL_ten hs
 refine Ev.congr (f := fun k => (num_lay.l0 k (l.map I) ((s.length : Nat) : Int)).bind fun t => if t.length + s.length < 140737488355328 then some (t ++ s.map I) else none) (fun k => ?_) (Ev.bind (lay_ev s.length l (by omega)) ?_)
 ·simp only [num_PutText.f, own_is _ (show (l.map I).length < 140737488355328 by simp; omega), Option.bind_some, num_lay.f, mk_size, bytes_mk, u64_nat hs]
 ·rw [if_pos (by simp; omega)]
  rw [← List.map_append]
  exact Ev.now _
theorem toList_data (s : ByteArray) : s.toList = s.data.toList := by rw [ByteArray.toList_eq]
theorem bt_mk (s : List UInt8) (i : Nat) (h : i < s.length) : bt ⟨s.toArray⟩ (i : Int) = I (s.getD i 0) := by
 have hs : i < (⟨s.toArray⟩ : ByteArray).size := by rw [mk_size]; exact h
 simp only [bt, Int.toNat_natCast, hs, dite_true, I]
 simp [List.getD_eq_getElem?_getD, h]
 rfl
theorem drop_nil_len {α : Type} {l : List α} {i : Nat} (h : l.drop i = []) (hi : i ≤ l.length) : i = l.length := by
 have := congrArg List.length h
 simp at this; omega
theorem wrap_succ {i n : Nat} (h : i < n) (hn : n < 1000000000000) : wrap64 ((i : Int) + 1) = ((i + 1 : Nat) : Int) := by unfold wrap64; omega
theorem all_loop {α : Type} (l : List α) (P : α → Bool) (F : Nat → Int → Option Bool)
  (ht : ∀ i c cs, l.drop i = c :: cs → P c = true → ∀ r, Ev (fun k => F k ((i + 1 : Nat) : Int)) r → Ev (fun k => F k (i : Int)) r)
  (hf : ∀ i c cs, l.drop i = c :: cs → P c = false → Ev (fun k => F k (i : Int)) false)
  (he : Ev (fun k => F k ((l.length : Nat) : Int)) true) : ∀ (cs : List α) (i : Nat), l.drop i = cs → i ≤ l.length → Ev (fun k => F k (i : Int)) (cs.all P) := by
 intro cs
 induction cs with
 | nil =>
  intro i hd hi
  rw [drop_nil_len hd hi]
  exact he
 | cons c cs ih =>
  intro i hd hi
  have hlt : i < l.length := by
   rcases Nat.lt_or_ge i l.length with g | g
   ·exact g
   ·rw [List.drop_eq_nil_of_le g] at hd; cases hd
  have hd2 : l.drop (i + 1) = cs := by
   have := congrArg List.tail hd
   simpa [List.tail_drop] using this
  cases hc : P c
  ·rw [List.all_cons, hc]; exact hf i c cs hd hc
  ·rw [List.all_cons, hc]; exact ht i c cs hd hc _ (ih (i + 1) hd2 hlt)
theorem goodB_le {a : ByteArray} (h : goodB a = true) : a.size ≤ 32 := by
 simp [goodB] at h; omega
theorem all_loopX {α : Type} (l : List α) (P : α → Bool) (X : Bool) (F : Nat → Int → Option Bool)
  (ht : ∀ i c cs, l.drop i = c :: cs → P c = true → ∀ r, Ev (fun k => F k ((i + 1 : Nat) : Int)) r → Ev (fun k => F k (i : Int)) r)
  (hf : ∀ i c cs, l.drop i = c :: cs → P c = false → Ev (fun k => F k (i : Int)) false)
  (he : Ev (fun k => F k ((l.length : Nat) : Int)) X) : ∀ (cs : List α) (i : Nat), l.drop i = cs → i ≤ l.length → Ev (fun k => F k (i : Int)) (cs.all P && X) := by
 intro cs
 induction cs with
 | nil =>
  intro i hd hi
  rw [drop_nil_len hd hi]
  exact he
 | cons c cs ih =>
  intro i hd hi
  have hlt : i < l.length := by
   rcases Nat.lt_or_ge i l.length with g | g
   ·exact g
   ·rw [List.drop_eq_nil_of_le g] at hd; cases hd
  have hd2 : l.drop (i + 1) = cs := by
   have := congrArg List.tail hd
   simpa [List.tail_drop] using this
  cases hc : P c
  ·rw [List.all_cons, hc]; exact hf i c cs hd hc
  ·rw [List.all_cons, hc]; exact ht i c cs hd hc _ (ih (i + 1) hd2 hlt)
/-- a text cut at its strokes -/
def cutL : List UInt8 → List (List UInt8)
 | [] => [[]]
 | b :: l => if b = 47 then [] :: cutL l else match cutL l with
  | [] => [[b]]
  | h :: t => (b :: h) :: t
theorem cutL_ne : ∀ l : List UInt8, cutL l ≠ []
 | [] => by simp [cutL]
 | b :: l => by
  unfold cutL
  split
  ·simp
  ·cases h : cutL l <;> simp
theorem splitK_ne (b : UInt8) (l : List UInt8) (h : b ≠ 47) (k : Nat) : Go.Lib.splitK [47] 0 k (b :: l) = match Go.Lib.splitK [47] 0 k l with
  | [] => [[b]]
  | x :: t => (b :: x) :: t := by
 cases k with
 | zero => rfl
 | succ k =>
  have hp : ([47] : List UInt8).isPrefixOf (b :: l) = false := by simp [List.isPrefixOf, Ne.symm h]
  have hix : Go.Lib.index (b :: l) [47] = if Go.Lib.index l [47] == -1 then -1 else Go.Lib.index l [47] + 1 := by rw [Go.Lib.index, hp]; simp
  by_cases hm : Go.Lib.index l [47] = -1
  ·simp only [Go.Lib.splitK, hix, hm]
   rfl
  ·have hge := Go.Lib.index_ge l [47]
   have hm2 : (Go.Lib.index l [47] == -1) = false := beq_eq_false_iff_ne.2 hm
   have hm3 : (Go.Lib.index l [47] + 1 == -1) = false := beq_eq_false_iff_ne.2 (by omega)
   simp only [Go.Lib.splitK, hix, hm2, hm3, Bool.false_eq_true, if_false]
   have e : (Go.Lib.index l [47] + 1).toNat = (Go.Lib.index l [47]).toNat + 1 := by omega
   rw [e]
   simp
theorem splitK_cutL : ∀ l : List UInt8, Go.Lib.splitK [47] 0 (Go.Lib.count l [47]) l = cutL l
 | [] => by rw [Go.Lib.count_miss (by simp [Go.Lib.index])]; rfl
 | b :: l => by
  by_cases h : b = 47
  ·subst h
   have hix : Go.Lib.index (47 :: l) [47] = 0 := by rw [Go.Lib.index]; simp [List.isPrefixOf]
   rw [Go.Lib.count_cons_eq, Nat.add_comm]
   simp only [Go.Lib.splitK, hix]
   rw [if_neg (by decide)]
   simp only [cutL, if_true, ← splitK_cutL l]
   rfl
  ·rw [Go.Lib.count_cons_ne b 47 l h, splitK_ne b l h, splitK_cutL l]
   simp only [cutL, if_neg h]
theorem pieces_data (s : ByteArray) : (pieces s).map (·.data.toList) = cutL s.data.toList := by
 rw [pieces, Go.Lib.splitB_data]
 exact splitK_cutL s.data.toList
/-- is a text a path, in plain lists -/
def goodL (s : List UInt8) : Bool := decide (1 ≤ s.length) && decide (s.length ≤ 32) && (cutL s).all nameB
theorem goodB_goodL (s : ByteArray) : goodB s = goodL s.data.toList := by
 unfold goodB goodL
 rw [← pieces_data, List.all_map]
 rfl
/-- the same cut, with what stands ahead -/
def cutG : List UInt8 → List UInt8 → List (List UInt8)
 | cur, [] => [cur]
 | cur, b :: l => if b = 47 then cur :: cutG [] l else cutG (cur ++ [b]) l
theorem cutG_eq : ∀ (l cur : List UInt8), cutG cur l = match cutL l with | [] => [cur] | h :: t => (cur ++ h) :: t
 | [], cur => by simp [cutG, cutL]
 | b :: l, cur => by
  unfold cutG cutL
  by_cases h : b = 47
  ·rw [if_pos h, if_pos h, cutG_eq l []]
   cases hc : cutL l with
   | nil => exact absurd hc (cutL_ne l)
   | cons x t => simp
  ·rw [if_neg h, if_neg h, cutG_eq l (cur ++ [b])]
   cases hc : cutL l with
   | nil => simp
   | cons x t => simp
theorem cutG_nil (l : List UInt8) : cutG [] l = cutL l := by
 rw [cutG_eq]
 cases hc : cutL l with
 | nil => exact absurd hc (cutL_ne l)
 | cons x t => simp
abbrev mkB (p : List UInt8) : ByteArray := ⟨p.toArray⟩
theorem extract_mk (s : List UInt8) (a b : Nat) : (⟨s.toArray⟩ : ByteArray).extract a b = mkB ((s.drop a).take (b - a)) := by
 apply ByteArray.ext
 rw [ByteArray.data_extract]
 simp [List.extract_eq_take_drop]
theorem drop_cons_facts {α : Type} {l : List α} {i : Nat} {c : α} {cs : List α} (h : l.drop i = c :: cs) : l[i]? = some c ∧ l.drop (i + 1) = cs ∧ i < l.length := by
 have hlt : i < l.length := by
  rcases Nat.lt_or_ge i l.length with g | g
  ·exact g
  ·rw [List.drop_eq_nil_of_le g] at h; cases h
 refine ⟨?_, ?_, hlt⟩
 ·have := congrArg List.head? h
  simpa [List.head?_drop] using this
 ·have := congrArg List.tail h
  simpa [List.tail_drop] using this
theorem getD_of {l : List UInt8} {i : Nat} {c : UInt8} (h : l[i]? = some c) : l.getD i 0 = c := by rw [List.getD_eq_getElem?_getD, h]; rfl
theorem take_piece {s : List UInt8} {f i : Nat} {b : UInt8} (hf : f ≤ i) (hb : s[i]? = some b) : (s.drop f).take (i + 1 - f) = (s.drop f).take (i - f) ++ [b] := by
 rw [show i + 1 - f = (i - f) + 1 by omega, List.take_add_one, List.getElem?_drop, show f + (i - f) = i by omega, hb]; rfl
theorem cut_loop (s : List UInt8) (hs : s.length < 1000000) : ∀ (rest : List UInt8) (i f : Nat) (acc : List ByteArray), s.drop i = rest → f ≤ i → i ≤ s.length → acc.length ≤ i → Ev (fun k => strongroomref05_Cut.l0 k ⟨s.toArray⟩ acc (f : Int) (i : Int)) (acc ++ (cutG ((s.drop f).take (i - f)) rest).map mkB) := by
 intro rest
 induction rest with
 | nil =>
  intro i f acc hd hf hi ha
  have hl := drop_nil_len hd hi
  refine Ev.step (f := fun k => strongroomref05_Cut.l0 k ⟨s.toArray⟩ (acc ++ [mkB ((s.drop f).take (i - f))]) (wrap64 ((i : Int) + 1)) (wrap64 ((i : Int) + 1))) (fun k => ?_) (Ev.step (f := fun _ => some (acc ++ [mkB ((s.drop f).take (i - f))])) (fun k => ?_) (Ev.now _))
  ·simp only [strongroomref05_Cut.l0, mk_size]
   rw [if_pos (by omega), if_pos (by omega), if_pos (by omega), if_pos (by omega), if_pos (by omega), Int.toNat_natCast, Int.toNat_natCast, extract_mk]
  ·simp only [strongroomref05_Cut.l0, mk_size]
   rw [if_neg (by unfold wrap64; omega)]
 | cons b rest ih =>
  intro i f acc hd hf hi ha
  obtain ⟨h1, h2, h3⟩ := drop_cons_facts hd
  have hb : bt ⟨s.toArray⟩ (i : Int) = I b := by rw [bt_mk s i h3, getD_of h1]
  have hw := wrap_succ h3 (by omega)
  by_cases h47 : b = 47
  ·have h := ih (i + 1) (i + 1) (acc ++ [mkB ((s.drop f).take (i - f))]) h2 (Nat.le_refl _) h3 (by simp; omega)
   rw [Nat.sub_self, List.take_zero] at h
   rw [cutG, if_pos h47, List.map_cons]
   rw [List.append_assoc, List.singleton_append] at h
   refine Ev.step (fun k => ?_) h
   simp only [strongroomref05_Cut.l0, mk_size]
   rw [if_pos (by omega), if_neg (by omega), if_pos (by omega), if_pos (by omega), hb, if_pos (by rw [h47]; rfl), if_pos (by omega), if_pos (by omega), if_pos (by omega), Int.toNat_natCast, Int.toNat_natCast, extract_mk, hw]
  ·have h := ih (i + 1) f acc h2 (by omega) h3 (by omega)
   rw [take_piece hf h1] at h
   rw [cutG, if_neg h47]
   refine Ev.step (fun k => ?_) h
   simp only [strongroomref05_Cut.l0, mk_size]
   rw [if_pos (by omega), if_neg (by omega), if_pos (by omega), if_pos (by omega), hb, if_neg (by intro h; exact h47 (UInt8.toNat.inj (show b.toNat = 47 by simp only [I] at h; omega))), hw]
theorem cut_ev (s : List UInt8) (hs : s.length < 1000000) : Ev (fun k => strongroomref05_Cut.f k ⟨s.toArray⟩) ((cutL s).map mkB) := by
 simp only [strongroomref05_Cut.f]
 have h := cut_loop s hs s 0 0 [] rfl (Nat.le_refl _) (Nat.zero_le _) (Nat.zero_le _)
 simp only [Nat.sub_self, List.take_zero, List.nil_append, cutG_nil] at h
 exact h
theorem nameJ_t (s : ByteArray) : Ev (fun k => strongroomref05_Name.j0 k s true) false :=
 Ev.step (f := fun _ => some false) (fun k => by simp only [strongroomref05_Name.j0]; rw [if_pos trivial]) (Ev.now _)
theorem nameLoop_ev (s : List UInt8) (hs : s.length < 1000000) : Ev (fun k => strongroomref05_Name.l0 k ⟨s.toArray⟩ 0) (s.all okB) := by
 refine all_loop s okB (fun k i => strongroomref05_Name.l0 k ⟨s.toArray⟩ i) (fun i c cs hd hc r hr => ?_) (fun i c cs hd hc => ?_) ?_ s 0 rfl (Nat.zero_le _)
 ·obtain ⟨h1, h2, h3⟩ := drop_cons_facts hd
  have hb : bt ⟨s.toArray⟩ (i : Int) = I c := by rw [bt_mk s i h3, getD_of h1]
  rw [okB_okI] at hc
  have hk := okI_true hc
  refine Ev.step (fun k => ?_) hr
  simp only [strongroomref05_Name.l0, mk_size, hb]
  rw [if_pos (by omega), if_pos (by omega), wrap_succ h3 (by omega)]
  generalize strongroomref05_Name.l0 k ⟨s.toArray⟩ ((i + 1 : Nat) : Int) = X
  simp only [I]
  repeat' split
  all_goals first | rfl | (exfalso; omega)
 ·obtain ⟨h1, h2, h3⟩ := drop_cons_facts hd
  have hb : bt ⟨s.toArray⟩ (i : Int) = I c := by rw [bt_mk s i h3, getD_of h1]
  rw [okB_okI] at hc
  have hk := okI_false hc
  refine Ev.step (f := fun _ => some false) (fun k => ?_) (Ev.now _)
  simp only [strongroomref05_Name.l0, mk_size, hb]
  rw [if_pos (by omega), if_pos (by omega), wrap_succ h3 (by omega)]
  generalize strongroomref05_Name.l0 k ⟨s.toArray⟩ ((i + 1 : Nat) : Int) = X
  simp only [I]
  repeat' split
  all_goals first | rfl | (exfalso; omega)
 ·refine Ev.step (f := fun _ => some true) (fun k => ?_) (Ev.now _)
  simp only [strongroomref05_Name.l0, mk_size]
  rw [if_neg (by omega)]
theorem rname_ev (s : List UInt8) (hs : s.length < 1000000) : Ev (fun k => strongroomref05_Name.f k ⟨s.toArray⟩) (nameB s) := by
 simp only [strongroomref05_Name.f, toList_data, mk_size]
 by_cases h0 : s = []
 ·refine ifpos h0 ?_
  subst h0
  exact nameJ_t _
 refine ifneg h0 ?_
 have hl : 1 ≤ s.length := by
  rcases s with _ | ⟨b, s⟩
  ·exact absurd rfl h0
  ·simp
 by_cases h1 : 12 < s.length
 ·refine ifpos (by omega) ?_
  rw [show nameB s = false by rw [nameB, show decide (s.length ≤ 12) = false from decide_eq_false (by omega)]; simp]
  exact nameJ_t _
 refine ifneg (by omega) ?_
 by_cases h2 : s = [46]
 ·refine ifpos h2 ?_
  subst h2
  exact nameJ_t _
 refine ifneg h2 ?_
 by_cases h3 : s = [46, 46]
 ·subst h3
  exact nameJ_t _
 rw [show ((s.toArray).toList == [46, 46]) = false from beq_eq_false_iff_ne.2 h3]
 rw [show nameB s = s.all okB by
  rw [nameB, show decide (1 ≤ s.length) = true from decide_eq_true hl, show decide (s.length ≤ 12) = true from decide_eq_true (by omega), show (s == [46]) = false from beq_eq_false_iff_ne.2 h2, show (s == [46, 46]) = false from beq_eq_false_iff_ne.2 h3]; rfl]
 refine Ev.step (fun k => ?_) (nameLoop_ev s hs)
 simp only [strongroomref05_Name.j0]
 rw [if_neg (by simp)]
theorem cutL_len : ∀ (l : List UInt8), (cutL l).length ≤ l.length + 1
 | [] => by simp [cutL]
 | b :: l => by
  have ih := cutL_len l
  unfold cutL
  split
  ·simp; omega
  ·cases hc : cutL l with
   | nil => simp
   | cons x t => rw [hc] at ih; simp at ih ⊢; omega
theorem cutL_piece : ∀ (l : List UInt8) (x : List UInt8), x ∈ cutL l → x.length ≤ l.length
 | [], x, h => by simp [cutL] at h; simp [h]
 | b :: l, x, h => by
  unfold cutL at h
  split at h
  ·rcases List.mem_cons.1 h with rfl | h
   ·simp
   ·have := cutL_piece l x h; simp; omega
  ·cases hc : cutL l with
   | nil => rw [hc] at h; simp at h; simp [h]
   | cons y t =>
    rw [hc] at h
    rcases List.mem_cons.1 h with rfl | h
    ·have := cutL_piece l y (by rw [hc]; simp); simp; omega
    ·have := cutL_piece l x (by rw [hc]; simp [h]); simp; omega
theorem rgood_ev (s : List UInt8) : Ev (fun k => strongroomref05_Good.f k ⟨s.toArray⟩) (goodB ⟨s.toArray⟩) := by
 rw [goodB_goodL]
 show Ev _ (goodL s)
 simp only [strongroomref05_Good.f, mk_size]
 by_cases h : 32 < s.length
 ·refine ifpos (by omega) ?_
  rw [show goodL s = false by rw [goodL, show decide (s.length ≤ 32) = false from decide_eq_false (by omega)]; simp]
  exact Ev.now _
 refine ifneg (by omega) ?_
 refine Ev.bind (cut_ev s (by omega)) ?_
 have hlen := cutL_len s
 have key : goodL s = (cutL s).all nameB := by
  rw [goodL, show decide (s.length ≤ 32) = true from decide_eq_true (by omega)]
  rcases s with _ | ⟨b, s⟩
  ·rfl
  ·simp
 rw [key]
 refine all_loop (cutL s) nameB (fun k i => strongroomref05_Good.l0 k ((cutL s).map mkB) i) (fun i c cs hd hc r hr => ?_) (fun i c cs hd hc => ?_) ?_ (cutL s) 0 rfl (Nat.zero_le _)
 ·obtain ⟨h1, h2, h3⟩ := drop_cons_facts hd
  have hcl := cutL_piece s c (List.mem_of_getElem? h1)
  have hrd : rdOf ByteArray.empty ((cutL s).map mkB) (i : Int) = mkB c := by simp [rdOf, List.getD_eq_getElem?_getD, h1]
  refine Ev.step (f := fun k => (strongroomref05_Name.f k (mkB c)).bind fun t => if t = true then strongroomref05_Good.l0 k ((cutL s).map mkB) ((i + 1 : Nat) : Int) else some false) (fun k => ?_) ?_
  ·simp only [strongroomref05_Good.l0, List.length_map, hrd]
   rw [if_pos (by omega), if_pos (by omega), wrap_succ h3 (by omega)]
  ·refine Ev.bind (rname_ev c (by omega)) ?_
   exact ifpos hc hr
 ·obtain ⟨h1, h2, h3⟩ := drop_cons_facts hd
  have hcl := cutL_piece s c (List.mem_of_getElem? h1)
  have hrd : rdOf ByteArray.empty ((cutL s).map mkB) (i : Int) = mkB c := by simp [rdOf, List.getD_eq_getElem?_getD, h1]
  refine Ev.step (f := fun k => (strongroomref05_Name.f k (mkB c)).bind fun t => if t = true then strongroomref05_Good.l0 k ((cutL s).map mkB) ((i + 1 : Nat) : Int) else some false) (fun k => ?_) ?_
  ·simp only [strongroomref05_Good.l0, List.length_map, hrd]
   rw [if_pos (by omega), if_pos (by omega), wrap_succ h3 (by omega)]
  ·refine Ev.bind (rname_ev c (by omega)) ?_
   exact ifneg (by rw [hc]; simp) (Ev.now _)
 ·refine Ev.step (f := fun _ => some true) (fun k => ?_) (Ev.now _)
  simp only [strongroomref05_Good.l0, List.length_map]
  rw [if_neg (by omega)]
theorem rgood_ev' (p : ByteArray) : Ev (fun k => strongroomref05_Good.f k p) (goodB p) := rgood_ev p.data.toList
def cutF : Nat → Nat → Nat
 | 0, _ => 1
 | f + 1, n => if n ≤ 2 then 1 else 2 * cutF f ((n + 1) / 2)
/-- how many of n leaves stand in the first part -/
def cutN (n : Nat) : Nat := cutF 10 n
theorem cutN_ok : ∀ n, n < 1025 → 2 ≤ n → 1 ≤ cutN n ∧ cutN n < n := by decide +kernel
def leafB (p s : List UInt8) : List UInt8 := dig (0 :: (putL p.length ++ p ++ s))
def bothB (a b : List UInt8) : List UInt8 := dig (1 :: (a ++ b))
/-- how many digests the proof of a place has -/
def lenN (n i : Nat) : Nat := if h : 2 ≤ n ∧ 1 ≤ cutN n ∧ cutN n < n then (if i < cutN n then 1 + lenN (cutN n) i else 1 + lenN (n - cutN n) (i - cutN n)) else 0
termination_by n
decreasing_by all_goals omega
theorem lenN_one (i : Nat) : lenN 1 i = 0 := by rw [lenN, dif_neg (by omega)]
theorem lenN_big {n i : Nat} (h : 2 ≤ n) (hb : n ≤ 1024) : lenN n i = if i < cutN n then 1 + lenN (cutN n) i else 1 + lenN (n - cutN n) (i - cutN n) := by
 have := cutN_ok n (by omega) h
 rw [lenN, dif_pos ⟨h, this.1, this.2⟩]
/-- what comes of a digest and a proof (told from its end), and whether the proof has the right length -/
def climbR (d : List UInt8) : Nat → Nat → List (List UInt8) → List UInt8 × Bool
 | n, i, rev => if n = 1 then (d, rev == []) else match rev with
  | [] => ([], false)
  | last :: rest => if last.length = 32 then (if i < cutN n then (bothB (climbR d (cutN n) i rest).1 last, (climbR d (cutN n) i rest).2) else (bothB last (climbR d (n - cutN n) (i - cutN n) rest).1, (climbR d (n - cutN n) (i - cutN n) rest).2)) else ([], false)
termination_by _ _ rev => rev.length
def upR (d : List UInt8) : Nat → Nat → List (List UInt8) → List UInt8
 | n, i, rev => if n = 1 then d else match rev with
  | [] => []
  | last :: rest => if i < cutN n then bothB (upR d (cutN n) i rest) last else bothB last (upR d (n - cutN n) (i - cutN n) rest)
termination_by _ _ rev => rev.length
theorem climb_up (d : List UInt8) : ∀ (rev : List (List UInt8)) (n i : Nat), 1 ≤ n → n ≤ 1024 → (climbR d n i rev).2 = (decide (rev.length = lenN n i) && rev.all fun x => decide (x.length = 32)) ∧ ((climbR d n i rev).2 = true → (climbR d n i rev).1 = upR d n i rev) := by
 intro rev
 induction rev with
 | nil =>
  intro n i h1 h2
  by_cases hn : n = 1
  ·subst hn
   rw [climbR, upR, lenN_one]
   simp
  ·rw [climbR, if_neg hn, lenN_big (by omega) h2]
   refine ⟨?_, fun h => by cases h⟩
   rw [show decide (([] : List (List UInt8)).length = if i < cutN n then 1 + lenN (cutN n) i else 1 + lenN (n - cutN n) (i - cutN n)) = false from decide_eq_false (by simp only [List.length_nil]; split <;> omega)]
   rfl
 | cons last rest ih =>
  intro n i h1 h2
  by_cases hn : n = 1
  ·subst hn
   rw [climbR, upR, lenN_one]
   simp
  ·have hc := cutN_ok n (by omega) (by omega)
   rw [climbR, if_neg hn, upR, if_neg hn, lenN_big (by omega) h2]
   by_cases h32 : last.length = 32
   ·simp only [if_pos h32, List.length_cons, List.all_cons, show decide (last.length = 32) = true from decide_eq_true h32, Bool.true_and]
    by_cases hi : i < cutN n
    ·simp only [if_pos hi]
     obtain ⟨e1, e2⟩ := ih (cutN n) i hc.1 (by omega)
     refine ⟨?_, fun h => by rw [e2 h]⟩
     rw [e1]
     congr 1
     rw [decide_eq_decide]
     omega
    ·simp only [if_neg hi]
     obtain ⟨e1, e2⟩ := ih (n - cutN n) (i - cutN n) (by omega) (by omega)
     refine ⟨?_, fun h => by rw [e2 h]⟩
     rw [e1]
     congr 1
     rw [decide_eq_decide]
     omega
   ·simp only [if_neg h32, List.all_cons, show decide (last.length = 32) = false from decide_eq_false h32, Bool.false_and, Bool.and_false]
    exact ⟨trivial, fun h => by cases h⟩
/-- the digest of a list of leaves' digests' sources -/
def digL (l : List (List UInt8 × List UInt8)) : List UInt8 :=
 if _h : 2 ≤ l.length ∧ 1 ≤ cutN l.length ∧ cutN l.length < l.length then bothB (digL (l.take (cutN l.length))) (digL (l.drop (cutN l.length))) else match l with
  | [] => dig [2]
  | x :: _ => leafB x.1 x.2
termination_by l.length
decreasing_by all_goals (simp only [List.length_take, List.length_drop]; omega)
theorem digL_nil : digL [] = dig [2] := by rw [digL, dif_neg (by simp)]
theorem digL_one (x : List UInt8 × List UInt8) : digL [x] = leafB x.1 x.2 := by rw [digL, dif_neg (by simp)]
theorem digL_big {l : List (List UInt8 × List UInt8)} (h : 2 ≤ l.length) (hb : l.length ≤ 1024) : digL l = bothB (digL (l.take (cutN l.length))) (digL (l.drop (cutN l.length))) := by
 have := cutN_ok l.length (by omega) h
 rw [digL, dif_pos ⟨h, this.1, this.2⟩]
/-- the proof of a place, its last digest first -/
def prvR (l : List (List UInt8 × List UInt8)) (i : Nat) : List (List UInt8) :=
 if _h : 2 ≤ l.length ∧ 1 ≤ cutN l.length ∧ cutN l.length < l.length then (if i < cutN l.length then digL (l.drop (cutN l.length)) :: prvR (l.take (cutN l.length)) i else digL (l.take (cutN l.length)) :: prvR (l.drop (cutN l.length)) (i - cutN l.length)) else []
termination_by l.length
decreasing_by all_goals (simp only [List.length_take, List.length_drop]; omega)
theorem prvR_one (x : List UInt8 × List UInt8) (i : Nat) : prvR [x] i = [] := by rw [prvR, dif_neg (by simp)]
theorem prvR_big {l : List (List UInt8 × List UInt8)} {i : Nat} (h : 2 ≤ l.length) (hb : l.length ≤ 1024) : prvR l i = if i < cutN l.length then digL (l.drop (cutN l.length)) :: prvR (l.take (cutN l.length)) i else digL (l.take (cutN l.length)) :: prvR (l.drop (cutN l.length)) (i - cutN l.length) := by
 have := cutN_ok l.length (by omega) h
 rw [prvR, dif_pos ⟨h, this.1, this.2⟩]
theorem digL_len (l : List (List UInt8 × List UInt8)) : (digL l).length = 32 := by
 rw [digL]
 split
 ·exact dig_length _
 ·split <;> exact dig_length _
theorem prv_all : ∀ (m : Nat) (l : List (List UInt8 × List UInt8)) (i : Nat), l.length ≤ m → l.length ≤ 1024 → (prvR l i).all (fun x => decide (x.length = 32)) = true := by
 intro m
 induction m with
 | zero =>
  intro l i h _
  rw [prvR, dif_neg (by omega)]
  rfl
 | succ m ih =>
  intro l i h hb
  by_cases h2 : 2 ≤ l.length
  ·have hc := cutN_ok l.length (by omega) h2
   rw [prvR_big h2 hb]
   split
   ·rw [List.all_cons, digL_len, ih _ _ (by rw [List.length_take]; omega) (by rw [List.length_take]; omega)]; rfl
   ·rw [List.all_cons, digL_len, ih _ _ (by rw [List.length_drop]; omega) (by rw [List.length_drop]; omega)]; rfl
  ·rw [prvR, dif_neg (by omega)]
   rfl
/-- a leaf is shown by its proof -/
theorem prv_up : ∀ (m : Nat) (l : List (List UInt8 × List UInt8)) (i : Nat) (x : List UInt8 × List UInt8), l[i]? = some x → l.length ≤ m → l.length ≤ 1024 → (prvR l i).length = lenN l.length i ∧ upR (leafB x.1 x.2) l.length i (prvR l i) = digL l := by
 intro m
 induction m with
 | zero =>
  intro l i x h hm _
  have := (List.getElem?_eq_some_iff.1 h).1
  omega
 | succ m ih =>
  intro l i x h hm hb
  have hil := (List.getElem?_eq_some_iff.1 h).1
  by_cases h2 : 2 ≤ l.length
  ·have hc := cutN_ok l.length (by omega) h2
   rw [prvR_big h2 hb, lenN_big h2 hb, digL_big h2 hb]
   by_cases hi : i < cutN l.length
   ·rw [if_pos hi, if_pos hi]
    have hl : (l.take (cutN l.length)).length = cutN l.length := by rw [List.length_take]; omega
    obtain ⟨e1, e2⟩ := ih (l.take (cutN l.length)) i x (by rw [List.getElem?_take_of_lt hi]; exact h) (by omega) (by omega)
    rw [hl] at e1 e2
    rw [upR, if_neg (by omega)]
    simp only [List.length_cons, if_pos hi]
    exact ⟨by omega, by rw [e2]⟩
   ·rw [if_neg hi, if_neg hi]
    have hl : (l.drop (cutN l.length)).length = l.length - cutN l.length := List.length_drop
    obtain ⟨e1, e2⟩ := ih (l.drop (cutN l.length)) (i - cutN l.length) x (by rw [List.getElem?_drop, show cutN l.length + (i - cutN l.length) = i by omega]; exact h) (by omega) (by omega)
    rw [hl] at e1 e2
    rw [upR, if_neg (by omega)]
    simp only [List.length_cons, if_neg hi]
    exact ⟨by omega, by rw [e2]⟩
  ·have h1 : l.length = 1 := by omega
   obtain ⟨y, rfl⟩ := List.length_eq_one_iff.1 h1
   have hi0 : i = 0 := by simp at hil; omega
   subst hi0
   obtain rfl : y = x := by simpa using h
   rw [prvR_one, digL_one, upR, if_pos (by simp)]
   simp [lenN_one]
theorem bytesN_map (l : List UInt8) : bytesN (l.map I) = l := by
 simp [bytesN, I, Function.comp_def]
theorem okBytes_map (l : List UInt8) : okBytes (l.map I) = true := by
 simp only [okBytes, List.all_map, List.all_eq_true]
 intro x _
 have := x.toNat_lt
 simp [I]; omega
theorem shaSum_is (l : List UInt8) (h0 : 0 < l.length) (h1 : l.length ≤ 1000000) : shaSumF (l.map I) = some ⟨(dig l).toArray⟩ := by
 unfold shaSumF
 rw [if_pos ⟨by simpa using h0, by simp; omega, okBytes_map l⟩, bytesN_map]
theorem refSum_is (l : List UInt8) (h : l.length ≤ 1000000) : refSumF ⟨l.toArray⟩ = some ⟨(dig l).toArray⟩ := by
 unfold refSumF
 rw [if_pos (by rw [mk_size]; omega)]
theorem both_is (a b : List UInt8) (ha : a.length ≤ 1000) (hb : b.length ≤ 1000) : merkle_both.f ⟨a.toArray⟩ ⟨b.toArray⟩ = some ⟨(bothB a b).toArray⟩ := by
 simp only [merkle_both.f, bothF, mk_size]
 rw [if_pos (by omega)]
 rfl
theorem bothB_len (a b : List UInt8) : (bothB a b).length = 32 := dig_length _
theorem leafB_len (a b : List UInt8) : (leafB a b).length = 32 := dig_length _
theorem leaf_ev (p s : List UInt8) (hp : p.length ≤ 1000) (hs : s.length ≤ 1000) : Ev (fun k => merkle_leaf.f k ⟨p.toArray⟩ ⟨s.toArray⟩) ⟨(leafB p s).toArray⟩ := by
 have h10 := putL_ten (n := p.length) (by omega)
 simp only [merkle_leaf.f]
 refine Ev.bind (putText_ev [0] p (by simp; omega) (by omega)) ?_
 refine ifpos (by rw [mk_size]; simp; omega) ?_
 have e : ([0] ++ putL p.length ++ p).map I ++ bytesOf ⟨s.toArray⟩ = (0 :: (putL p.length ++ p ++ s)).map I := by
  rw [bytes_mk, ← List.map_append]; simp
 simp only [sha_Sum.f, e]
 rw [shaSum_is _ (by simp) (by simp; omega)]
 exact Ev.now _
def hF : Nat → Nat → Nat → Nat
 | 0, _, k => k
 | f + 1, n, k => if 2 * k < n then hF f n (2 * k) else k
theorem half_loop : ∀ (f n k : Nat), n ≤ k * 2 ^ f → 1 ≤ k → k ≤ 1000000 → n ≤ 1000000 → Ev (fun m => merkle_half.l0 m (n : Int) (k : Int)) ((hF f n k : Nat) : Int) := by
 intro f
 induction f with
 | zero =>
  intro n k h h1 hk hn
  refine Ev.step (f := fun _ => some (k : Int)) (fun m => ?_) (Ev.now _)
  simp only [merkle_half.l0]
  rw [show wrap64 (2 * (k : Int)) = 2 * (k : Int) by unfold wrap64; omega, if_neg (by omega)]
 | succ f ih =>
  intro n k h h1 hk hn
  by_cases hlt : 2 * k < n
  ·rw [hF, if_pos hlt]
   refine Ev.step (fun m => ?_) (ih n (2 * k) (by rw [Nat.pow_succ] at h; rw [Nat.mul_comm 2 k, Nat.mul_assoc, Nat.mul_comm 2]; exact h) (by omega) (by omega) hn)
   simp only [merkle_half.l0]
   rw [show wrap64 (2 * (k : Int)) = 2 * (k : Int) by unfold wrap64; omega, if_pos (by omega), show wrap64 ((k : Int) * 2) = ((2 * k : Nat) : Int) by unfold wrap64; omega]
  ·rw [hF, if_neg hlt]
   refine Ev.step (f := fun _ => some (k : Int)) (fun m => ?_) (Ev.now _)
   simp only [merkle_half.l0]
   rw [show wrap64 (2 * (k : Int)) = 2 * (k : Int) by unfold wrap64; omega, if_neg (by omega)]
theorem hF_cut : ∀ n, n < 1025 → 2 ≤ n → hF 10 n 1 = cutN n := by decide +kernel
theorem half_ev (n : Nat) (h2 : 2 ≤ n) (h : n ≤ 1024) : Ev (fun m => merkle_half.f m (n : Int)) ((cutN n : Nat) : Int) := by
 have := half_loop 10 n 1 (by omega) (by omega) (by omega) (by omega)
 rw [hF_cut n (by omega) h2] at this
 simp only [merkle_half.f]
 exact this
theorem last_of (rest : List (List UInt8)) (last : List UInt8) : rdOf ByteArray.empty ((rest ++ [last]).map mkB) ((rest.length : Nat) : Int) = mkB last := by
 simp [rdOf, List.getD_eq_getElem?_getD]
theorem init_of (rest : List (List UInt8)) (last : List UInt8) : ((rest ++ [last]).map mkB).take ((rest.length : Nat) : Int).toNat = rest.map mkB := by
 rw [List.map_append, Int.toNat_natCast, List.take_left' (by simp)]
theorem len_last (rest : List (List UInt8)) (last : List UInt8) (h : rest.length < 1000000) : wrap64 ((((rest ++ [last]).map mkB).length : Nat) - 1 : Int) = ((rest.length : Nat) : Int) := by
 rw [List.length_map, List.length_append]; simp only [List.length_cons, List.length_nil]; unfold wrap64; omega
/-- may a leaf be -/
def goodX (p s : ByteArray) : Bool := goodB p && ((s.size : Int) == 32)
theorem good_is (p s : ByteArray) : merkle_good.f p s = some (goodX p s) := by
 simp only [merkle_good.f, path_Good.f, Option.bind_some, goodX]
 cases goodB p <;> simp
theorem goodX_le {p s : ByteArray} (h : goodX p s = true) : p.size ≤ 32 ∧ s.size = 32 := by
 simp only [goodX, Bool.and_eq_true, beq_iff_eq] at h
 have := goodB_le h.1
 omega
theorem climbR_len (d : List UInt8) (hd : d.length ≤ 32) : ∀ (rev : List (List UInt8)) (n i : Nat), (climbR d n i rev).1.length ≤ 32 := by
 intro rev
 induction rev with
 | nil => intro n i; rw [climbR]; split <;> simp [hd]
 | cons last rest ih =>
  intro n i
  rw [climbR]
  by_cases hn : n = 1
  ·rw [if_pos hn]; exact hd
  ·rw [if_neg hn]
   split
   ·split <;> simp [bothB_len]
   ·simp
theorem climb_ev (d : List UInt8) (hd : d.length ≤ 32) : ∀ (rev : List (List UInt8)) (n i : Nat), 1 ≤ n → n ≤ 1024 → i < n → rev.length < 1000 → (∀ p ∈ rev, p.length ≤ 200) → Ev (fun k => merkle_climb.f k (mkB d) (n : Int) (i : Int) (rev.reverse.map mkB)) (mkB (climbR d n i rev).1, (climbR d n i rev).2) := by
 intro rev
 induction rev with
 | nil =>
  intro n i h1 h2 hi hl hall
  by_cases hn : n = 1
  ·subst hn
   rw [climbR, if_pos rfl]
   refine Ev.step (f := fun _ => some (mkB d, true)) (fun k => ?_) (Ev.now _)
   simp only [merkle_climb.f]
   rw [if_pos (by omega)]
   rfl
  ·rw [climbR, if_neg hn]
   refine Ev.step (f := fun k => merkle_climb.j0 k (mkB d) (n : Int) (i : Int) [] true) (fun k => ?_) (Ev.step (f := fun _ => some (⟨#[]⟩, false)) (fun k => ?_) (Ev.now _))
   ·simp only [merkle_climb.f, List.reverse_nil, List.map_nil]
    rw [if_neg (by omega), if_pos (by simp)]
   ·simp only [merkle_climb.j0]
    rw [if_pos trivial]
 | cons last rest ih =>
  intro n i h1 h2 hi hl hall
  have hrl : rest.reverse.length = rest.length := List.length_reverse
  have hlr : rest.length < 1000 := by simp at hl; omega
  have hll := hall last (by simp)
  by_cases hn : n = 1
  ·subst hn
   rw [climbR, if_pos rfl]
   refine Ev.step (f := fun _ => some (mkB d, false)) (fun k => ?_) (Ev.now _)
   simp only [merkle_climb.f]
   rw [if_pos (by omega)]
   simp
   omega
  ·have hc := cutN_ok n (by omega) (by omega)
   rw [List.reverse_cons, climbR, if_neg hn]
   refine Ev.step (f := fun k => merkle_climb.j0 k (mkB d) (n : Int) (i : Int) ((rest.reverse ++ [last]).map mkB) ((last.length : Int) != 32)) (fun k => ?_) ?_
   ·simp only [merkle_climb.f, len_last rest.reverse last (by omega), last_of, mk_size]
    rw [if_neg (by omega), if_neg (by simp; omega), if_pos (by omega), if_pos (by simp; omega)]
   by_cases h32 : last.length = 32
   ·rw [if_pos h32, show ((last.length : Int) != 32) = false by simp [h32]]
    refine Ev.step (f := fun k => (merkle_half.f k (n : Int)).bind fun t => if (i : Int) < t then (merkle_climb.f k (mkB d) t (i : Int) (rest.reverse.map mkB)).bind fun b => (merkle_both.f b.1 (mkB last)).bind fun u => some (u, b.2) else (merkle_climb.f k (mkB d) (wrap64 ((n : Int) - t)) (wrap64 ((i : Int) - t)) (rest.reverse.map mkB)).bind fun b => (merkle_both.f (mkB last) b.1).bind fun u => some (u, b.2)) (fun k => ?_) ?_
    ·simp only [merkle_climb.j0, len_last rest.reverse last (by omega), last_of, init_of]
     rw [if_neg (by simp), if_pos (by omega), if_pos (by simp; omega), if_pos (by simp; omega)]
    refine Ev.bind (half_ev n (by omega) h2) ?_
    by_cases hik : i < cutN n
    ·rw [if_pos hik]
     have h := ih (cutN n) i hc.1 (by omega) hik hlr (fun p hp => hall p (by simp [hp]))
     refine ifpos (by omega) ?_
     refine Ev.bind h ?_
     simp only [both_is _ _ (show (climbR d (cutN n) i rest).1.length ≤ 1000 by have := climbR_len d hd rest (cutN n) i; omega) (show last.length ≤ 1000 by omega), Option.bind_some]
     exact Ev.now _
    ·rw [if_neg hik]
     have h := ih (n - cutN n) (i - cutN n) (by omega) (by omega) (by omega) hlr (fun p hp => hall p (by simp [hp]))
     refine ifneg (by omega) ?_
     rw [show wrap64 ((n : Int) - ((cutN n : Nat) : Int)) = ((n - cutN n : Nat) : Int) by unfold wrap64; omega, show wrap64 ((i : Int) - ((cutN n : Nat) : Int)) = ((i - cutN n : Nat) : Int) by unfold wrap64; omega]
     refine Ev.bind h ?_
     simp only [both_is _ _ (show last.length ≤ 1000 by omega) (show (climbR d (n - cutN n) (i - cutN n) rest).1.length ≤ 1000 by have := climbR_len d hd rest (n - cutN n) (i - cutN n); omega), Option.bind_some]
     exact Ev.now _
   ·rw [if_neg h32, show ((last.length : Int) != 32) = true by simp; omega]
    refine Ev.step (f := fun _ => some (⟨#[]⟩, false)) (fun k => ?_) (Ev.now _)
    simp only [merkle_climb.j0]
    rw [if_pos trivial]
/-- does a proof show a leaf -/
def verB (root : List UInt8) (n i : Int) (p s : ByteArray) (rev : List (List UInt8)) : Bool :=
 goodX p s && (decide (1 ≤ n) && (decide (n ≤ 1024) && (decide (0 ≤ i) && (decide (i < n) && ((climbR (leafB p.data.toList s.data.toList) n.toNat i.toNat rev).2 && ((climbR (leafB p.data.toList s.data.toList) n.toNat i.toNat rev).1 == root))))))
theorem verT_ev (root : ByteArray) (n i : Int) (l : List ByteArray) (p s : ByteArray) : Ev (fun k => merkle_Verify.j0 k root n i l true p s) false :=
 Ev.step (f := fun _ => some false) (fun k => by simp only [merkle_Verify.j0]; rw [if_pos trivial]) (Ev.now _)
theorem ver_ev (root : List UInt8) (n i : Int) (p s : ByteArray) (rev : List (List UInt8)) (hl : rev.length < 1000) (hall : ∀ p ∈ rev, p.length ≤ 200) : Ev (fun k => merkle_Verify.f k (mkB root) n i p s (rev.reverse.map mkB)) (verB root n i p s rev) := by
 simp only [merkle_Verify.f, good_is, Option.bind_some, verB]
 cases hg : goodX p s
 ·exact ifneg (by simp) (verT_ev _ _ _ _ _ _)
 refine ifpos rfl ?_
 have hle := goodX_le hg
 simp only [Bool.true_and]
 by_cases h1 : n < 1
 ·rw [show decide (1 ≤ n) = false from decide_eq_false (by omega), Bool.false_and]
  exact ifpos h1 (verT_ev _ _ _ _ _ _)
 refine ifneg h1 ?_
 rw [show decide (1 ≤ n) = true from decide_eq_true (by omega), Bool.true_and]
 by_cases h2 : n > 1024
 ·rw [show decide (n ≤ 1024) = false from decide_eq_false (by omega), Bool.false_and]
  exact ifpos h2 (verT_ev _ _ _ _ _ _)
 refine ifneg h2 ?_
 rw [show decide (n ≤ 1024) = true from decide_eq_true (by omega), Bool.true_and]
 by_cases h3 : i < 0
 ·rw [show decide (0 ≤ i) = false from decide_eq_false (by omega), Bool.false_and]
  exact ifpos h3 (verT_ev _ _ _ _ _ _)
 refine ifneg h3 ?_
 rw [show decide (0 ≤ i) = true from decide_eq_true (by omega), Bool.true_and]
 by_cases h4 : i ≥ n
 ·rw [show decide (i < n) = false from decide_eq_false (by omega), Bool.false_and, show decide (i ≥ n) = true from decide_eq_true h4]
  exact verT_ev _ _ _ _ _ _
 rw [show decide (i < n) = true from decide_eq_true (by omega), Bool.true_and, show decide (i ≥ n) = false from decide_eq_false h4]
 have hc := climb_ev (leafB p.data.toList s.data.toList) (by rw [leafB_len]; omega) rev n.toNat i.toNat (by omega) (by omega) (by omega) hl hall
 rw [show ((n.toNat : Nat) : Int) = n by omega, show ((i.toNat : Nat) : Int) = i by omega] at hc
 have hps : p.data.toList.length = p.size := rfl
 have hss : s.data.toList.length = s.size := rfl
 refine Ev.step (f := fun k => (merkle_leaf.f k p s).bind fun t => (merkle_climb.f k t n i (rev.reverse.map mkB)).bind fun b => if b.2 = true then some (b.1.toList == (mkB root).toList) else some false) (fun k => ?_) ?_
 ·simp only [merkle_Verify.j0]
  rw [if_neg (by simp)]
 refine Ev.bind (leaf_ev p.data.toList s.data.toList (by omega) (by omega)) ?_
 refine Ev.bind hc ?_
 cases (climbR (leafB p.data.toList s.data.toList) n.toNat i.toNat rev).2
 ·exact ifneg (by simp) (Ev.now _)
 ·refine ifpos rfl ?_
  simp only [toList_data]
  exact Ev.now _
abbrev SL := S44
abbrev xE : SL := ⟨⟨#[97]⟩, ⟨(List.replicate 32 (0 : UInt8)).toArray⟩⟩
theorem zeros_is : strOfNums (List.replicate 32 (0 : Int)) = ⟨(List.replicate 32 (0 : UInt8)).toArray⟩ := by
 have : (List.replicate 32 (0 : Int)) = (List.replicate 32 (0 : UInt8)).map I := by simp [I]
 rw [this, nums_mk]
theorem xE_good : goodX xE.f0 xE.f1 = true := by
 have h : goodB (⟨#[97]⟩ : ByteArray) = true := by decide +kernel
 simp only [goodX, h]
 decide
theorem check_nil : Ev (fun k => merkle_Check.f k []) 0 := by
 simp only [merkle_Check.f]
 refine ifneg (by simp) ?_
 refine Ev.step (f := fun _ => some 0) (fun k => ?_) (Ev.now _)
 simp only [merkle_Check.l0]
 rw [if_neg (by simp)]
theorem check_one : Ev (fun k => merkle_Check.f k [xE]) 0 := by
 simp only [merkle_Check.f]
 refine ifneg (by simp) ?_
 refine Ev.step (f := fun k => merkle_Check.l0 k [xE] [xE] 1 1) (fun k => ?_) (Ev.step (f := fun _ => some 0) (fun k => ?_) (Ev.now _))
 ·simp only [merkle_Check.l0]
  rw [if_pos (by simp), if_pos (by omega), if_pos (by simp), show rd_T44 [xE] 0 = xE from rfl, good_is, xE_good]
  simp only [Option.bind_some]
  rw [if_pos trivial, if_neg (by omega), show wrap64 ((0 : Int) + 1) = 1 by decide +kernel]
  rfl
 ·simp only [merkle_Check.l0]
  rw [if_neg (by omega)]
theorem none_is : merkle_none.f = some ⟨(dig [2]).toArray⟩ := by
 simp only [merkle_none.f, sha_Sum.f]
 have : ([2] : List Int) = ([2] : List UInt8).map I := rfl
 rw [this, shaSum_is [2] (by simp) (by simp)]
 rfl
theorem dig_nil : Ev (fun k => merkle_Digest.f k []) ⟨(dig [2]).toArray⟩ := by
 simp only [merkle_Digest.f]
 refine Ev.bind check_nil ?_
 refine ifpos rfl ?_
 refine Ev.bind (a := ⟨(dig [2]).toArray⟩) ?_ (Ev.now _)
 refine Ev.step (f := fun _ => some ⟨(dig [2]).toArray⟩) (fun k => ?_) (Ev.now _)
 simp only [merkle_digest.f]
 rw [if_pos (by simp), none_is]
 rfl
theorem prove_one : Ev (fun k => merkle_Prove.f k [xE] 0) ([], 0) := by
 simp only [merkle_Prove.f]
 refine Ev.bind check_one ?_
 refine ifpos rfl ?_
 refine ifneg (by omega) ?_
 refine ifneg (by simp) ?_
 refine Ev.bind (a := []) ?_ (Ev.now _)
 refine Ev.step (f := fun _ => some []) (fun k => ?_) (Ev.now _)
 simp only [merkle_prove.f]
 rw [if_pos (by simp)]
theorem diff_one : Ev (fun k => merkle_Diff.f k [] [xE]) [⟨xE.f0, ⟨#[]⟩, xE.f1⟩] := by
 simp only [merkle_Diff.f]
 refine Ev.bind check_nil ?_
 refine ifpos rfl ?_
 refine Ev.bind check_one ?_
 refine Ev.step (f := fun k => merkle_Diff.l0 k [] [xE] []) (fun k => ?_) (Ev.step (f := fun k => merkle_Diff.l0 k [] [] [⟨xE.f0, ⟨#[]⟩, xE.f1⟩]) (fun k => ?_) (Ev.step (f := fun _ => some [⟨xE.f0, ⟨#[]⟩, xE.f1⟩]) (fun k => ?_) (Ev.now _)))
 ·simp only [merkle_Diff.j0]
  rw [if_neg (by decide)]
 ·simp only [merkle_Diff.l0]
  rw [if_neg (by simp), if_pos (by simp), if_neg (by simp), if_pos (by simp), if_pos (by simp), if_pos (by simp), if_pos (by simp)]
  rfl
 ·simp only [merkle_Diff.l0]
  rw [if_neg (by simp), if_neg (by simp)]
theorem lives_ev : Ev (fun k => strongroomlaw20_lives.f k) true := by
 simp only [strongroomlaw20_lives.f, Option.bind_some, zeros_is]
 refine ifpos (by omega) ?_
 refine Ev.bind prove_one ?_
 refine Ev.bind diff_one ?_
 refine ifpos rfl ?_
 refine ifpos rfl ?_
 refine ifpos rfl ?_
 refine ifpos (by simp) ?_
 refine ifpos (by simp only [toList_data]; decide) ?_
 refine Ev.bind dig_nil ?_
 rw [show (((⟨(dig [2]).toArray⟩ : ByteArray).size : Int) == 32) = true by rw [mk_size, dig_length]; rfl]
 exact Ev.now _
theorem lives_ev' : Ev (fun k => (strongroomlaw20_lives.f k).bind fun t => some t) true := Ev.bind lives_ev (Ev.now _)
theorem rput_ev : ∀ (n : Nat), n < 18446744073709551616 → Ev (fun k => strongroomref01_Put.f k (n : Int)) ⟨(putL n).toArray⟩ := by
 intro n
 induction n using Nat.strongRecOn with
 | ind n ih =>
  intro hb
  by_cases hn : n < 128
  ·rw [putL_small hn]
   refine Ev.step (f := fun _ => some (⟨[UInt8.ofNat n].toArray⟩ : ByteArray)) (fun k => ?_) (Ev.now _)
   simp only [strongroomref01_Put.f]
   rw [if_pos (by omega), ← nums_mk]
   simp only [List.map_cons, List.map_nil, I_ofNat (show n < 256 by omega)]
   rw [show (n : Int) % 256 = (n : Int) by omega]
  ·have h2 := ih (n / 128) (by omega) (by omega)
   have hl := putL_ten (n := n / 128) (by omega)
   rw [putL_big hn]
   refine Ev.step (f := fun k => (strongroomref01_Put.f k ((n / 128 : Nat) : Int)).bind fun t => if (⟨[UInt8.ofNat (n % 128 + 128)].toArray⟩ : ByteArray).size + t.size ≤ 9223372036854775807 then some (⟨[UInt8.ofNat (n % 128 + 128)].toArray⟩ ++ t) else none) (fun k => ?_) (Ev.bind h2 ?_)
   ·simp only [strongroomref01_Put.f]
    rw [if_neg (by omega), ← nums_mk]
    have e1 : Int.tmod (n : Int) 128 = ((n % 128 : Nat) : Int) := by rw [Int.tmod_eq_emod_of_nonneg (by omega)]; omega
    have e2 : Int.tdiv (n : Int) 128 = ((n / 128 : Nat) : Int) := by rw [Int.tdiv_eq_ediv_of_nonneg (by omega)]; omega
    rw [e1, e2, u64_nat (show n / 128 < 18446744073709551616 by omega), show ((n % 128 : Nat) : Int) + 128 = ((n % 128 + 128 : Nat) : Int) by omega, u64_nat (by omega)]
    simp only [Option.bind_some, List.map_cons, List.map_nil, I_ofNat (show n % 128 + 128 < 256 by omega)]
    rw [show ((n % 128 + 128 : Nat) : Int) % 256 = ((n % 128 + 128 : Nat) : Int) by omega]
   ·rw [if_pos (by rw [mk_size, mk_size]; simp; omega), mk_app]
    exact Ev.now _
theorem rtext_ev (s : List UInt8) (hs : s.length < 140737488355328) : Ev (fun k => strongroomref01_Text.f k ⟨s.toArray⟩) ⟨(putL s.length ++ s).toArray⟩ := by
 have h10 := putL_ten (n := s.length) (by omega)
 refine Ev.congr (f := fun k => (strongroomref01_Put.f k ((s.length : Nat) : Int)).bind fun t => if t.size + (⟨s.toArray⟩ : ByteArray).size ≤ 9223372036854775807 then some (t ++ ⟨s.toArray⟩) else none) (fun k => ?_) (Ev.bind (rput_ev s.length (by omega)) ?_)
 ·simp only [strongroomref01_Text.f, mk_size, u64_nat (show s.length < 18446744073709551616 by omega)]
 ·rw [if_pos (by rw [mk_size, mk_size]; omega), mk_app]
  exact Ev.now _
theorem cutF_le : ∀ (f n : Nat), cutF f n ≤ 2 ^ f
 | 0, n => by simp [cutF]
 | f + 1, n => by
  rw [cutF, Nat.pow_succ]
  split
  ·have : 1 ≤ 2 ^ f := Nat.one_le_two_pow
   omega
  ·have := cutF_le f ((n + 1) / 2)
   omega
theorem cutF_loop : ∀ (f n : Nat), f ≤ 10 → n ≤ 2 ^ (f + 1) → n ≤ 2048 → Ev (fun k => strongroomref20_cut.f k (n : Int)) ((cutF f n : Nat) : Int) := by
 intro f
 induction f with
 | zero =>
  intro n _ h hn
  refine Ev.step (f := fun _ => some 1) (fun k => ?_) (Ev.now _)
  simp only [strongroomref20_cut.f]
  rw [if_pos (by omega)]
 | succ f ih =>
  intro n hf h hn
  by_cases h2 : n ≤ 2
  ·rw [cutF, if_pos h2]
   refine Ev.step (f := fun _ => some 1) (fun k => ?_) (Ev.now _)
   simp only [strongroomref20_cut.f]
   rw [if_pos (by omega)]
  ·rw [cutF, if_neg h2]
   have hr := ih ((n + 1) / 2) (by omega) (by rw [Nat.pow_succ] at h; omega) (by omega)
   have e1 : wrap64 (Int.tdiv (wrap64 ((n : Int) + 1)) 2) = (((n + 1) / 2 : Nat) : Int) := by
    rw [show wrap64 ((n : Int) + 1) = ((n + 1 : Nat) : Int) by unfold wrap64; omega, Int.tdiv_eq_ediv_of_nonneg (by omega)]
    unfold wrap64; omega
   have hle := cutF_le f ((n + 1) / 2)
   have h10 : 2 ^ f ≤ 2 ^ 10 := Nat.pow_le_pow_right (by decide) (by omega)
   have e2 : wrap64 (2 * ((cutF f ((n + 1) / 2) : Nat) : Int)) = ((2 * cutF f ((n + 1) / 2) : Nat) : Int) := by
    have : cutF f ((n + 1) / 2) ≤ 1024 := Nat.le_trans hle h10
    unfold wrap64; omega
   refine Ev.step (f := fun k => (strongroomref20_cut.f k (((n + 1) / 2 : Nat) : Int)).bind fun t => some (wrap64 (2 * t))) (fun k => ?_) ?_
   ·simp only [strongroomref20_cut.f]
    rw [if_neg (by omega), e1]
   ·rw [← e2]
    exact Ev.bind hr (Ev.now _)
theorem rcut_ev (n : Nat) (h : n ≤ 1024) : Ev (fun k => strongroomref20_cut.f k (n : Int)) ((cutN n : Nat) : Int) := cutF_loop 10 n (by omega) (by omega) (by omega)
theorem rgoodX_ev (p s : ByteArray) : Ev (fun k => strongroomref20_Good.f k p s) (goodX p s) := by
 simp only [strongroomref20_Good.f, goodX]
 refine Ev.bind (rgood_ev' p) ?_
 cases goodB p
 ·exact ifneg (by simp) (Ev.now _)
 ·exact ifpos rfl (Ev.now _)
theorem one_ev (p s : List UInt8) (hp : p.length ≤ 1000) (hs : s.length ≤ 1000) : Ev (fun k => strongroomref20_one.f k ⟨p.toArray⟩ ⟨s.toArray⟩) ⟨(leafB p s).toArray⟩ := by
 have h10 := putL_ten (n := p.length) (by omega)
 simp only [strongroomref20_one.f]
 refine Ev.bind (rtext_ev p (by omega)) ?_
 refine ifpos (by rw [mk_size]; simp; omega) ?_
 have e : (⟨#[0]⟩ : ByteArray) ++ ⟨(putL p.length ++ p).toArray⟩ = ⟨(0 :: (putL p.length ++ p)).toArray⟩ := mk_app [0] _
 rw [e]
 refine ifpos (by rw [mk_size, mk_size]; simp; omega) ?_
 rw [mk_app]
 simp only [strongroomref02_Sum.f]
 rw [refSum_is _ (by simp; omega)]
 exact Ev.now _
theorem lenN_le : ∀ (m n i : Nat), n ≤ m → n ≤ 1024 → lenN n i ≤ n := by
 intro m
 induction m with
 | zero => intro n i h _; rw [lenN, dif_neg (by omega)]; omega
 | succ m ih =>
  intro n i h hb
  by_cases h2 : 2 ≤ n
  ·have hc := cutN_ok n (by omega) h2
   rw [lenN_big h2 hb]
   split
   ·have := ih (cutN n) i (by omega) (by omega); omega
   ·have := ih (n - cutN n) (i - cutN n) (by omega) (by omega); omega
  ·rw [lenN, dif_neg (by omega)]; omega
theorem length_ev : ∀ (m n i : Nat), n ≤ m → 1 ≤ n → n ≤ 1024 → i < n → Ev (fun k => strongroomref20_Length.f k (n : Int) (i : Int)) ((lenN n i : Nat) : Int) := by
 intro m
 induction m with
 | zero => intro n i h h1 _ _; omega
 | succ m ih =>
  intro n i h h1 hb hi
  by_cases hn : n = 1
  ·subst hn
   rw [lenN_one]
   refine Ev.step (f := fun _ => some 0) (fun k => ?_) (Ev.now _)
   simp only [strongroomref20_Length.f]
   rw [if_pos (by omega)]
  ·have hc := cutN_ok n (by omega) (by omega)
   rw [lenN_big (by omega) hb]
   refine Ev.step (f := fun k => (strongroomref20_cut.f k (n : Int)).bind fun t => if (i : Int) < t then (strongroomref20_Length.f k t (i : Int)).bind fun u => some (wrap64 (1 + u)) else (strongroomref20_Length.f k (wrap64 ((n : Int) - t)) (wrap64 ((i : Int) - t))).bind fun u => some (wrap64 (1 + u))) (fun k => ?_) ?_
   ·simp only [strongroomref20_Length.f]
    rw [if_neg (by omega)]
   refine Ev.bind (rcut_ev n hb) ?_
   by_cases hik : i < cutN n
   ·rw [if_pos hik]
    have hl := lenN_le m (cutN n) i (by omega) (by omega)
    refine ifpos (by omega) ?_
    rw [← show wrap64 (1 + ((lenN (cutN n) i : Nat) : Int)) = ((1 + lenN (cutN n) i : Nat) : Int) by unfold wrap64; omega]
    exact Ev.bind (ih (cutN n) i (by omega) hc.1 (by omega) hik) (Ev.now _)
   ·rw [if_neg hik]
    have hl := lenN_le m (n - cutN n) (i - cutN n) (by omega) (by omega)
    refine ifneg (by omega) ?_
    rw [show wrap64 ((n : Int) - ((cutN n : Nat) : Int)) = ((n - cutN n : Nat) : Int) by unfold wrap64; omega, show wrap64 ((i : Int) - ((cutN n : Nat) : Int)) = ((i - cutN n : Nat) : Int) by unfold wrap64; omega]
    rw [← show wrap64 (1 + ((lenN (n - cutN n) (i - cutN n) : Nat) : Int)) = ((1 + lenN (n - cutN n) (i - cutN n) : Nat) : Int) by unfold wrap64; omega]
    exact Ev.bind (ih (n - cutN n) (i - cutN n) (by omega) (by omega) (by omega) (by omega)) (Ev.now _)
theorem upR_len (d : List UInt8) (hd : d.length ≤ 32) : ∀ (rev : List (List UInt8)) (n i : Nat), (upR d n i rev).length ≤ 32 := by
 intro rev
 induction rev with
 | nil => intro n i; rw [upR]; split <;> simp [hd]
 | cons last rest ih =>
  intro n i
  rw [upR]
  by_cases hn : n = 1
  ·rw [if_pos hn]; exact hd
  ·rw [if_neg hn]
   split <;> simp [bothB_len]
theorem up_ev (d : List UInt8) (hd : d.length ≤ 32) : ∀ (rev : List (List UInt8)) (n i : Nat), 1 ≤ n → n ≤ 1024 → i < n → rev.length = lenN n i → rev.length < 1100 → (∀ p ∈ rev, p.length ≤ 200) → Ev (fun k => strongroomref20_up.f k (mkB d) (n : Int) (i : Int) (rev.reverse.map mkB)) (mkB (upR d n i rev)) := by
 intro rev
 induction rev with
 | nil =>
  intro n i h1 h2 hi hl hlt hall
  by_cases hn : n = 1
  ·subst hn
   rw [upR, if_pos rfl]
   refine Ev.step (f := fun _ => some (mkB d)) (fun k => ?_) (Ev.now _)
   simp only [strongroomref20_up.f]
   rw [if_pos (by omega)]
  ·rw [lenN_big (by omega) h2] at hl
   simp only [List.length_nil] at hl
   split at hl <;> omega
 | cons last rest ih =>
  intro n i h1 h2 hi hl hlt hall
  by_cases hn : n = 1
  ·subst hn
   rw [lenN_one] at hl
   simp at hl
  ·have hc := cutN_ok n (by omega) (by omega)
   have hrl : rest.reverse.length = rest.length := List.length_reverse
   have hlr : rest.length < 1100 := by simp at hlt; omega
   have hll := hall last (by simp)
   rw [lenN_big (by omega) h2] at hl
   simp only [List.length_cons] at hl
   rw [List.reverse_cons, upR, if_neg hn]
   refine Ev.step (f := fun k => (strongroomref20_cut.f k (n : Int)).bind fun t => if (i : Int) < t then (strongroomref20_up.f k (mkB d) t (i : Int) (rest.reverse.map mkB)).bind fun u => if 1 + u.size ≤ 9223372036854775807 then (if ((⟨#[1]⟩ : ByteArray) ++ u).size + (mkB last).size ≤ 9223372036854775807 then (strongroomref02_Sum.f (((⟨#[1]⟩ : ByteArray) ++ u) ++ mkB last)).bind fun v => some v else none) else none else if 1 + (mkB last).size ≤ 9223372036854775807 then ((strongroomref20_up.f k (mkB d) (wrap64 ((n : Int) - t)) (wrap64 ((i : Int) - t)) (rest.reverse.map mkB)).bind fun u => if ((⟨#[1]⟩ : ByteArray) ++ mkB last).size + u.size ≤ 9223372036854775807 then (strongroomref02_Sum.f (((⟨#[1]⟩ : ByteArray) ++ mkB last) ++ u)).bind fun v => some v else none) else none) (fun k => ?_) ?_
   ·have hx : ((rest.reverse.length : Nat) : Int) < ((((rest.reverse ++ [last]).map mkB).length : Nat) : Int) := by simp; omega
    simp only [strongroomref20_up.f, len_last rest.reverse last (by omega), last_of, init_of]
    rw [if_neg (by omega)]
    simp only [if_pos (show (0 : Int) ≤ ((rest.reverse.length : Nat) : Int) by omega), if_pos hx, if_pos (Int.le_of_lt hx)]
   refine Ev.bind (rcut_ev n h2) ?_
   by_cases hik : i < cutN n
   ·rw [if_pos hik] at hl ⊢
    have hu := upR_len d hd rest (cutN n) i
    refine ifpos (by omega) ?_
    refine Ev.bind (ih (cutN n) i hc.1 (by omega) hik (by omega) hlr (fun p hp => hall p (by simp [hp]))) ?_
    refine ifpos (by rw [mk_size]; omega) ?_
    rw [show (⟨#[1]⟩ : ByteArray) ++ mkB (upR d (cutN n) i rest) = mkB (1 :: upR d (cutN n) i rest) from mk_app [1] _]
    refine ifpos (by rw [mk_size, mk_size]; simp; omega) ?_
    rw [mk_app]
    simp only [strongroomref02_Sum.f]
    rw [refSum_is _ (by simp; omega)]
    exact Ev.now _
   ·rw [if_neg hik] at hl ⊢
    have hu := upR_len d hd rest (n - cutN n) (i - cutN n)
    refine ifneg (by omega) ?_
    rw [show wrap64 ((n : Int) - ((cutN n : Nat) : Int)) = ((n - cutN n : Nat) : Int) by unfold wrap64; omega, show wrap64 ((i : Int) - ((cutN n : Nat) : Int)) = ((i - cutN n : Nat) : Int) by unfold wrap64; omega]
    refine ifpos (by rw [mk_size]; omega) ?_
    refine Ev.bind (ih (n - cutN n) (i - cutN n) (by omega) (by omega) (by omega) (by omega) hlr (fun p hp => hall p (by simp [hp]))) ?_
    rw [show (⟨#[1]⟩ : ByteArray) ++ mkB last = mkB (1 :: last) from mk_app [1] _]
    refine ifpos (by rw [mk_size, mk_size]; simp; omega) ?_
    rw [mk_app]
    simp only [strongroomref02_Sum.f]
    rw [refSum_is _ (by simp; omega)]
    exact Ev.now _
theorem rverT_ev (root : ByteArray) (n i : Int) (l : List ByteArray) (p s : ByteArray) : Ev (fun k => strongroomref20_Verify.j0 k root n i l true p s) false :=
 Ev.step (f := fun _ => some false) (fun k => by simp only [strongroomref20_Verify.j0]; rw [if_pos trivial]) (Ev.now _)
theorem rver_ev (root : List UInt8) (n i : Int) (p s : ByteArray) (rev : List (List UInt8)) (hl : rev.length < 1000) (hall : ∀ p ∈ rev, p.length ≤ 200) : Ev (fun k => strongroomref20_Verify.f k (mkB root) n i p s (rev.reverse.map mkB)) (verB root n i p s rev) := by
 simp only [strongroomref20_Verify.f, verB]
 refine Ev.bind (rgoodX_ev p s) ?_
 cases hg : goodX p s
 ·exact ifneg (by simp) (rverT_ev _ _ _ _ _ _)
 refine ifpos rfl ?_
 have hle := goodX_le hg
 simp only [Bool.true_and]
 by_cases h1 : n < 1
 ·rw [show decide (1 ≤ n) = false from decide_eq_false (by omega), Bool.false_and]
  exact ifpos h1 (rverT_ev _ _ _ _ _ _)
 refine ifneg h1 ?_
 rw [show decide (1 ≤ n) = true from decide_eq_true (by omega), Bool.true_and]
 by_cases h2 : n > 1024
 ·rw [show decide (n ≤ 1024) = false from decide_eq_false (by omega), Bool.false_and]
  exact ifpos h2 (rverT_ev _ _ _ _ _ _)
 refine ifneg h2 ?_
 rw [show decide (n ≤ 1024) = true from decide_eq_true (by omega), Bool.true_and]
 by_cases h3 : i < 0
 ·rw [show decide (0 ≤ i) = false from decide_eq_false (by omega), Bool.false_and]
  exact ifpos h3 (rverT_ev _ _ _ _ _ _)
 refine ifneg h3 ?_
 rw [show decide (0 ≤ i) = true from decide_eq_true (by omega), Bool.true_and]
 by_cases h4 : i ≥ n
 ·rw [show decide (i < n) = false from decide_eq_false (by omega), Bool.false_and]
  exact ifpos h4 (rverT_ev _ _ _ _ _ _)
 refine ifneg h4 ?_
 rw [show decide (i < n) = true from decide_eq_true (by omega), Bool.true_and]
 obtain ⟨N, rfl⟩ : ∃ N : Nat, n = (N : Int) := ⟨n.toNat, by omega⟩
 obtain ⟨J, rfl⟩ : ∃ J : Nat, i = (J : Int) := ⟨i.toNat, by omega⟩
 simp only [Int.toNat_natCast]
 have hcu := climb_up (leafB p.data.toList s.data.toList) rev N J (by omega) (by omega)
 have hlen := length_ev N N J (Nat.le_refl _) (by omega) (by omega) (by omega)
 have hps : p.data.toList.length = p.size := rfl
 have hss : s.data.toList.length = s.size := rfl
 refine Ev.bind hlen ?_
 by_cases hln : ¬ rev.length = lenN N J
 ·rw [show (climbR (leafB p.data.toList s.data.toList) N J rev).2 = false by rw [hcu.1, decide_eq_false hln]; rfl, Bool.false_and]
  rw [show ((((rev.reverse.map mkB).length : Nat) : Int) != ((lenN N J : Nat) : Int)) = true by simp; omega]
  exact rverT_ev _ _ _ _ _ _
 have hln2 : rev.length = lenN N J := Classical.not_not.1 hln
 rw [show ((((rev.reverse.map mkB).length : Nat) : Int) != ((lenN N J : Nat) : Int)) = false by simp [hln2]]
 refine Ev.step (f := fun k => strongroomref20_Verify.l0 k (mkB root) (N : Int) (J : Int) (rev.reverse.map mkB) 0 p s) (fun k => ?_) ?_
 ·simp only [strongroomref20_Verify.j0]
  rw [if_neg (by simp)]
 have hup := up_ev (leafB p.data.toList s.data.toList) (by rw [leafB_len]; omega) rev N J (by omega) (by omega) (by omega) hln2 (by omega) hall
 have key := all_loopX rev.reverse (fun x => decide (x.length = 32)) (upR (leafB p.data.toList s.data.toList) N J rev == root) (fun k i => strongroomref20_Verify.l0 k (mkB root) (N : Int) (J : Int) (rev.reverse.map mkB) i p s) (fun i c cs hd hc r hr => ?_) (fun i c cs hd hc => ?_) ?_ rev.reverse 0 rfl (Nat.zero_le _)
 ·have e : (rev.reverse.all (fun x => decide (x.length = 32)) && (upR (leafB p.data.toList s.data.toList) N J rev == root)) = ((climbR (leafB p.data.toList s.data.toList) N J rev).2 && ((climbR (leafB p.data.toList s.data.toList) N J rev).1 == root)) := by
   have e1 : (climbR (leafB p.data.toList s.data.toList) N J rev).2 = rev.all fun x => decide (x.length = 32) := by rw [hcu.1, decide_eq_true hln2, Bool.true_and]
   rw [List.all_reverse, ← e1]
   cases hb : (climbR (leafB p.data.toList s.data.toList) N J rev).2
   ·rfl
   ·rw [hcu.2 hb]
  rw [← e]
  exact key
 ·obtain ⟨h1', h2', h3'⟩ := drop_cons_facts hd
  have hrd : rdOf ByteArray.empty (rev.reverse.map mkB) (i : Int) = mkB c := by simp only [rdOf, Int.toNat_natCast, List.getD_eq_getElem?_getD, List.getElem?_map, h1']; rfl
  have hc2 : c.length = 32 := of_decide_eq_true hc
  have hrl : rev.reverse.length = rev.length := List.length_reverse
  refine Ev.step (fun k => ?_) hr
  simp only [strongroomref20_Verify.l0, List.length_map, hrd, mk_size]
  rw [if_pos (by omega), if_pos (by omega), if_pos (by omega), wrap_succ h3' (by omega)]
 ·obtain ⟨h1', h2', h3'⟩ := drop_cons_facts hd
  have hrd : rdOf ByteArray.empty (rev.reverse.map mkB) (i : Int) = mkB c := by simp only [rdOf, Int.toNat_natCast, List.getD_eq_getElem?_getD, List.getElem?_map, h1']; rfl
  have hc2 : ¬ c.length = 32 := of_decide_eq_false hc
  refine Ev.step (f := fun _ => some false) (fun k => ?_) (Ev.now _)
  simp only [strongroomref20_Verify.l0, List.length_map, hrd, mk_size]
  rw [if_pos (by omega), if_pos (by omega), if_neg (by omega)]
 ·refine Ev.step (f := fun k => (strongroomref20_one.f k p s).bind fun t => (strongroomref20_up.f k t (N : Int) (J : Int) (rev.reverse.map mkB)).bind fun u => some (u.toList == (mkB root).toList)) (fun k => ?_) ?_
  ·simp only [strongroomref20_Verify.l0, List.length_map]
   rw [if_neg (by omega)]
  refine Ev.bind (one_ev p.data.toList s.data.toList (by omega) (by omega)) ?_
  refine Ev.bind hup ?_
  simp only [toList_data]
  exact Ev.now _
/-- are leaves so few and small that they are gone through -/
def smallX (l : List S39) : Bool := decide (l.length ≤ 60) && l.all fun x => decide (x.f0.size ≤ 200) && decide (x.f1.size ≤ 200)
theorem small_ev (l : List S39) : Ev (fun k => strongroomlaw20_small.f k l) (smallX l) := by
 simp only [strongroomlaw20_small.f, smallX]
 by_cases hl : l.length ≤ 60
 ·refine ifneg (by omega) ?_
  rw [decide_eq_true hl, Bool.true_and]
  refine all_loop l (fun x => decide (x.f0.size ≤ 200) && decide (x.f1.size ≤ 200)) (fun k i => strongroomlaw20_small.l0 k l i) (fun i c cs hd hc r hr => ?_) (fun i c cs hd hc => ?_) ?_ l 0 rfl (Nat.zero_le _)
  ·obtain ⟨h1, h2, h3⟩ := drop_cons_facts hd
   have hr2 : rd_T39 l (i : Int) = c := by simp [rd_T39, List.getD_eq_getElem?_getD, h1]
   simp only [Bool.and_eq_true, decide_eq_true_eq] at hc
   refine Ev.step (fun k => ?_) hr
   simp only [strongroomlaw20_small.l0, hr2]
   rw [if_pos (by omega), if_pos (by omega), if_neg (by omega), if_neg (by omega), wrap_succ h3 (by omega)]
  ·obtain ⟨h1, h2, h3⟩ := drop_cons_facts hd
   have hr2 : rd_T39 l (i : Int) = c := by simp [rd_T39, List.getD_eq_getElem?_getD, h1]
   refine Ev.step (f := fun _ => some false) (fun k => ?_) (Ev.now _)
   simp only [strongroomlaw20_small.l0, hr2]
   rw [if_pos (by omega), if_pos (by omega)]
   by_cases g1 : c.f0.size ≤ 200
   ·rw [if_neg (by omega)]
    by_cases g2 : c.f1.size ≤ 200
    ·simp [g1, g2] at hc
    ·rw [if_pos (by omega)]
   ·rw [if_pos (by omega)]
  ·refine Ev.step (f := fun _ => some true) (fun k => ?_) (Ev.now _)
   simp only [strongroomlaw20_small.l0]
   rw [if_neg (by omega)]
 ·refine ifpos (by omega) ?_
  rw [decide_eq_false hl, Bool.false_and]
  exact Ev.now _
theorem all_loopG {α β : Type} (l : List α) (P : α → Bool) (rt rf : β) (F : Nat → Int → Option β)
  (ht : ∀ i c cs, l.drop i = c :: cs → P c = true → ∀ r, Ev (fun k => F k ((i + 1 : Nat) : Int)) r → Ev (fun k => F k (i : Int)) r)
  (hf : ∀ i c cs, l.drop i = c :: cs → P c = false → Ev (fun k => F k (i : Int)) rf)
  (he : Ev (fun k => F k ((l.length : Nat) : Int)) rt) : ∀ (cs : List α) (i : Nat), l.drop i = cs → i ≤ l.length → Ev (fun k => F k (i : Int)) (if cs.all P = true then rt else rf) := by
 intro cs
 induction cs with
 | nil =>
  intro i hd hi
  rw [drop_nil_len hd hi]
  exact he
 | cons c cs ih =>
  intro i hd hi
  obtain ⟨_, hd2, hlt⟩ := drop_cons_facts hd
  cases hc : P c
  ·rw [List.all_cons, hc, Bool.false_and, if_neg (by simp)]; exact hf i c cs hd hc
  ·rw [List.all_cons, hc, Bool.true_and]; exact ht i c cs hd hc _ (ih (i + 1) hd2 hlt)
abbrev toM (x : S39) : S44 := ⟨x.f0, x.f1⟩
abbrev toP (x : S44) : List UInt8 × List UInt8 := (x.f0.data.toList, x.f1.data.toList)
abbrev toP9 (x : S39) : List UInt8 × List UInt8 := (x.f0.data.toList, x.f1.data.toList)
theorem toP_toM (l : List S39) : (l.map toM).map toP = l.map toP9 := by rw [List.map_map]; rfl
theorem rd39_of (l : List S39) (i : Nat) (h : i < l.length) : rd_T39 l (i : Int) = l[i] := by simp [rd_T39, List.getD_eq_getElem?_getD, h]
theorem rd44_of (l : List S44) (i : Nat) (h : i < l.length) : rd_T44 l (i : Int) = l[i] := by simp [rd_T44, List.getD_eq_getElem?_getD, h]
theorem mine_ev (l : List S39) (hl : l.length < 1000000) : Ev (fun k => strongroomlaw20_mine.f k l) (l.map toM) := by
 have loop : ∀ (d i : Nat), i + d = l.length → Ev (fun k => strongroomlaw20_mine.l0 k l ((l.take i).map toM) (i : Int)) (l.map toM) := by
  intro d
  induction d with
  | zero =>
   intro i hi
   refine Ev.step (f := fun _ => some (l.map toM)) (fun k => ?_) (Ev.now _)
   simp only [strongroomlaw20_mine.l0]
   rw [if_neg (by omega), List.take_of_length_le (by omega)]
  | succ d ih =>
   intro i hi
   have hlt : i < l.length := by omega
   refine Ev.step (fun k => ?_) (ih (i + 1) (by omega))
   simp only [strongroomlaw20_mine.l0, rd39_of l i hlt]
   rw [if_pos (by omega), if_pos (by omega), if_pos (by simp; omega), wrap_succ hlt (by omega), List.take_add_one, List.getElem?_eq_getElem hlt, List.map_append]
   rfl
 exact loop l.length 0 (by omega)
/-- may a leaf stand at its place -/
def okAt (l : List S39) (i : Nat) : Bool := goodX (rd_T39 l (i : Int)).f0 (rd_T39 l (i : Int)).f1 && (decide (i = 0) || Op.bytesLess (rd_T39 l ((i - 1 : Nat) : Int)).f0.toList (rd_T39 l (i : Int)).f0.toList)
def listB (l : List S39) : Bool := (List.range l.length).all (okAt l)
theorem range_drop {n i c : Nat} {cs : List Nat} (h : (List.range n).drop i = c :: cs) : c = i ∧ i < n := by
 obtain ⟨h1, _, h3⟩ := drop_cons_facts h
 rw [List.length_range] at h3
 rw [List.getElem?_range h3] at h1
 exact ⟨(Option.some.inj h1).symm, h3⟩
theorem rwhy_ev (l : List S39) (hl : l.length ≤ 1024) : Ev (fun k => strongroomref20_Why.f k l) (if listB l = true then 0 else 1) := by
 simp only [strongroomref20_Why.f]
 refine ifneg (by omega) ?_
 have key := all_loopG (List.range l.length) (okAt l) (0 : Int) 1 (fun k i => strongroomref20_Why.l0 k l i) (fun i c cs hd hc r hr => ?_) (fun i c cs hd hc => ?_) ?_ (List.range l.length) 0 rfl (Nat.zero_le _)
 ·exact key
 ·obtain ⟨rfl, hi⟩ := range_drop hd
  simp only [okAt, Bool.and_eq_true, Bool.or_eq_true, decide_eq_true_eq] at hc
  refine Ev.step (f := fun k => (strongroomref20_Good.f k (rd_T39 l (c : Int)).f0 (rd_T39 l (c : Int)).f1).bind fun t => if t = true then strongroomref20_Why.l0 k l ((c + 1 : Nat) : Int) else some 1) (fun k => ?_) ?_
  ·simp only [strongroomref20_Why.l0]
   rw [if_pos (by omega), if_pos (by omega), wrap_succ hi (by omega)]
   by_cases h0 : c = 0
   ·simp only [if_neg (show ¬ (c : Int) > 0 by omega)]
   ·simp only [if_pos (show (c : Int) > 0 by omega), show wrap64 ((c : Int) - 1) = ((c - 1 : Nat) : Int) by unfold wrap64; omega]
    simp only [if_pos (show (0 : Int) ≤ ((c - 1 : Nat) : Int) by omega), if_pos (show ((c - 1 : Nat) : Int) < (l.length : Int) by omega), if_pos (hc.2.resolve_left h0)]
  ·exact Ev.bind (rgoodX_ev _ _) (ifpos hc.1 hr)
 ·obtain ⟨rfl, hi⟩ := range_drop hd
  by_cases hg : goodX (rd_T39 l (c : Int)).f0 (rd_T39 l (c : Int)).f1 = true
  ·simp only [okAt, hg, Bool.true_and, Bool.or_eq_false_iff, decide_eq_false_iff_not] at hc
   refine Ev.step (f := fun k => (strongroomref20_Good.f k (rd_T39 l (c : Int)).f0 (rd_T39 l (c : Int)).f1).bind fun t => if t = true then some 1 else some 1) (fun k => ?_) (Ev.bind (rgoodX_ev _ _) (ifpos hg (Ev.now _)))
   simp only [strongroomref20_Why.l0]
   rw [if_pos (by omega), if_pos (by omega)]
   have h0 := hc.1
   simp only [if_pos (show (c : Int) > 0 by omega), show wrap64 ((c : Int) - 1) = ((c - 1 : Nat) : Int) by unfold wrap64; omega]
   simp only [if_pos (show (0 : Int) ≤ ((c - 1 : Nat) : Int) by omega), if_pos (show ((c - 1 : Nat) : Int) < (l.length : Int) by omega), hc.2, Bool.false_eq_true, if_false]
  ·refine Ev.step (fun k => ?_) (Ev.bind (f := fun k t => if t = true then (if (c : Int) > 0 then (if 0 ≤ (wrap64 ((c : Int) - 1)) then (if (wrap64 ((c : Int) - 1)) < (l.length : Int) then (if ((Op.bytesLess (((rd_T39 l (wrap64 ((c : Int) - 1))).f0).toList) (((rd_T39 l (c : Int)).f0).toList)) = true) then (strongroomref20_Why.l0 k l (wrap64 ((c : Int) + 1))) else (some 1)) else (none)) else (none)) else (strongroomref20_Why.l0 k l (wrap64 ((c : Int) + 1)))) else some 1) (rgoodX_ev _ _) (ifneg hg (Ev.now _)))
   simp only [strongroomref20_Why.l0]
   rw [if_pos (by omega), if_pos (by omega)]
 ·refine Ev.step (f := fun _ => some 0) (fun k => ?_) (Ev.now _)
  simp only [strongroomref20_Why.l0]
  rw [if_neg (by rw [List.length_range]; omega)]
theorem rd_mine (l : List S39) (i : Nat) (h : i < l.length) : rd_T44 (l.map toM) (i : Int) = toM (rd_T39 l (i : Int)) := by
 rw [rd44_of _ i (by simpa using h), rd39_of l i h]; simp
theorem check_ev (l : List S39) (hl : l.length ≤ 1024) : Ev (fun k => merkle_Check.f k (l.map toM)) (if listB l = true then 0 else 1) := by
 simp only [merkle_Check.f, List.length_map]
 refine ifneg (by omega) ?_
 have key := all_loopG (List.range l.length) (okAt l) (0 : Int) 1 (fun k i => merkle_Check.l0 k (l.map toM) (l.map toM) (l.length : Int) i) (fun i c cs hd hc r hr => ?_) (fun i c cs hd hc => ?_) ?_ (List.range l.length) 0 rfl (Nat.zero_le _)
 ·exact key
 ·obtain ⟨rfl, hi⟩ := range_drop hd
  simp only [okAt, Bool.and_eq_true, Bool.or_eq_true, decide_eq_true_eq] at hc
  refine Ev.step (fun k => ?_) hr
  simp only [merkle_Check.l0, List.length_map, rd_mine l c hi, good_is, Option.bind_some]
  rw [if_pos (by omega), if_pos (by omega), if_pos (by omega), if_pos hc.1, wrap_succ hi (by omega)]
  by_cases h0 : c = 0
  ·rw [if_neg (show ¬ (c : Int) > 0 by omega)]
  ·rw [if_pos (show (c : Int) > 0 by omega), show wrap64 ((c : Int) - 1) = ((c - 1 : Nat) : Int) by unfold wrap64; omega, rd_mine l (c - 1) (by omega), if_pos (by omega), if_pos (by omega), if_pos (hc.2.resolve_left h0)]
 ·obtain ⟨rfl, hi⟩ := range_drop hd
  refine Ev.step (f := fun _ => some 1) (fun k => ?_) (Ev.now _)
  simp only [merkle_Check.l0, List.length_map, rd_mine l c hi, good_is, Option.bind_some]
  rw [if_pos (by omega), if_pos (by omega), if_pos (by omega)]
  by_cases hg : goodX (rd_T39 l (c : Int)).f0 (rd_T39 l (c : Int)).f1 = true
  ·simp only [okAt, hg, Bool.true_and, Bool.or_eq_false_iff, decide_eq_false_iff_not] at hc
   have h0 := hc.1
   rw [if_pos hg, if_pos (show (c : Int) > 0 by omega), show wrap64 ((c : Int) - 1) = ((c - 1 : Nat) : Int) by unfold wrap64; omega, rd_mine l (c - 1) (by omega), if_pos (by omega), if_pos (by omega), if_neg (by rw [hc.2]; simp)]
  ·rw [if_neg hg]
 ·refine Ev.step (f := fun _ => some 0) (fun k => ?_) (Ev.now _)
  simp only [merkle_Check.l0]
  rw [if_neg (by rw [List.length_range]; omega)]
/-- are the texts of leaves short -/
def tinyL (l : List (List UInt8 × List UInt8)) : Prop := ∀ x ∈ l, x.1.length ≤ 200 ∧ x.2.length ≤ 200
theorem tiny_take {l : List (List UInt8 × List UInt8)} (h : tinyL l) (n : Nat) : tinyL (l.take n) := fun x hx => h x (List.mem_of_mem_take hx)
theorem tiny_drop {l : List (List UInt8 × List UInt8)} (h : tinyL l) (n : Nat) : tinyL (l.drop n) := fun x hx => h x (List.mem_of_mem_drop hx)
theorem digest_ev : ∀ (m : Nat) (l : List S44), l.length ≤ m → l.length ≤ 1024 → tinyL (l.map toP) → Ev (fun k => merkle_digest.f k l) (mkB (digL (l.map toP))) := by
 intro m
 induction m with
 | zero =>
  intro l hm _ _
  obtain rfl := List.eq_nil_of_length_eq_zero (by omega : l.length = 0)
  rw [List.map_nil, digL_nil]
  refine Ev.step (f := fun _ => some (mkB (dig [2]))) (fun k => ?_) (Ev.now _)
  simp only [merkle_digest.f]
  rw [if_pos (by simp), none_is]
  rfl
 | succ m ih =>
  intro l hm hb ht
  by_cases h0 : l.length = 0
  ·exact ih l (by omega) hb ht
  by_cases h1 : l.length = 1
  ·obtain ⟨x, rfl⟩ := List.length_eq_one_iff.1 h1
   have hx : x.f0.data.toList.length ≤ 200 ∧ x.f1.data.toList.length ≤ 200 := ht (toP x) (by simp)
   rw [List.map_cons, List.map_nil, digL_one]
   refine Ev.step (f := fun k => (merkle_leaf.f k x.f0 x.f1).bind fun t => some t) (fun k => ?_) (Ev.bind (leaf_ev x.f0.data.toList x.f1.data.toList (by omega) (by omega)) (Ev.now _))
   simp only [merkle_digest.f]
   rw [if_neg (by simp), if_pos (by simp), if_pos (by simp)]
   rfl
  have hc := cutN_ok l.length (by omega) (by omega)
  rw [digL_big (by rw [List.length_map]; omega) (by rw [List.length_map]; omega), List.length_map, ← List.map_take, ← List.map_drop]
  refine Ev.step (f := fun k => (merkle_half.f k (l.length : Int)).bind fun t => if 0 ≤ t then (if t ≤ (l.length : Int) then ((merkle_digest.f k (l.take t.toNat)).bind fun u => (merkle_digest.f k (l.drop t.toNat)).bind fun v => (merkle_both.f u v).bind fun w => some w) else none) else none) (fun k => ?_) ?_
  ·simp only [merkle_digest.f]
   rw [if_neg (by omega), if_neg (by omega)]
  refine Ev.bind (half_ev l.length (by omega) hb) ?_
  refine ifpos (by omega) ?_
  refine ifpos (by omega) ?_
  rw [Int.toNat_natCast]
  refine Ev.bind (ih (l.take (cutN l.length)) (by rw [List.length_take]; omega) (by rw [List.length_take]; omega) (by rw [List.map_take]; exact tiny_take ht _)) ?_
  refine Ev.bind (ih (l.drop (cutN l.length)) (by rw [List.length_drop]; omega) (by rw [List.length_drop]; omega) (by rw [List.map_drop]; exact tiny_drop ht _)) ?_
  rw [both_is _ _ (by rw [digL_len]; omega) (by rw [digL_len]; omega)]
  exact Ev.now _
theorem small_facts {l : List S39} (h : smallX l = true) : l.length ≤ 60 ∧ tinyL (l.map toP9) := by
 simp only [smallX, Bool.and_eq_true, decide_eq_true_eq, List.all_eq_true] at h
 refine ⟨h.1, fun x hx => ?_⟩
 obtain ⟨y, hy, rfl⟩ := List.mem_map.1 hx
 exact h.2 y hy
theorem Digest_ev (l : List S39) (hl : l.length ≤ 1024) (ht : tinyL (l.map toP9)) : Ev (fun k => merkle_Digest.f k (l.map toM)) (if listB l = true then mkB (digL (l.map toP9)) else ⟨#[]⟩) := by
 simp only [merkle_Digest.f]
 refine Ev.bind (check_ev l hl) ?_
 have hd := digest_ev l.length (l.map toM) (by simp) (by simpa using hl) (by rw [toP_toM]; exact ht)
 rw [toP_toM] at hd
 cases listB l
 ·exact ifneg (by decide) (Ev.now _)
 ·exact ifpos rfl (Ev.bind hd (Ev.now _))
theorem list_ev (l : List S39) (hl : l.length ≤ 1024) : Ev (fun k => strongroomlaw20_list.f k l) (listB l) := by
 simp only [strongroomlaw20_list.f]
 refine Ev.bind (rwhy_ev l hl) ?_
 cases listB l
 ·exact Ev.now _
 ·exact Ev.now _
theorem prv_len {l : List (List UInt8 × List UInt8)} {i : Nat} (h : i < l.length) (hb : l.length ≤ 1024) : (prvR l i).length ≤ 1024 := by
 have e := (prv_up l.length l i l[i] (List.getElem?_eq_getElem h) (Nat.le_refl _) hb).1
 have := lenN_le l.length l.length i (Nat.le_refl _) hb
 omega
theorem prove_ev : ∀ (m : Nat) (l : List S44) (i : Nat), i < l.length → l.length ≤ m → l.length ≤ 1024 → tinyL (l.map toP) → Ev (fun k => merkle_prove.f k l (i : Int)) ((prvR (l.map toP) i).reverse.map mkB) := by
 intro m
 induction m with
 | zero => intro l i hi hm _ _; omega
 | succ m ih =>
  intro l i hi hm hb ht
  by_cases h1 : l.length = 1
  ·obtain ⟨x, rfl⟩ := List.length_eq_one_iff.1 h1
   rw [List.map_cons, List.map_nil, prvR_one]
   refine Ev.step (f := fun _ => some []) (fun k => ?_) (Ev.now _)
   simp only [merkle_prove.f]
   rw [if_pos (by simp)]
  have hc := cutN_ok l.length (by omega) (by omega)
  have hlt : (l.take (cutN l.length)).length = cutN l.length := by rw [List.length_take]; omega
  have hld : (l.drop (cutN l.length)).length = l.length - cutN l.length := List.length_drop
  rw [prvR_big (by rw [List.length_map]; omega) (by rw [List.length_map]; omega), List.length_map]
  refine Ev.step (f := fun k => (merkle_half.f k (l.length : Int)).bind fun t => if (i : Int) < t then (if 0 ≤ t then (if t ≤ (l.length : Int) then ((merkle_prove.f k (l.take t.toNat) (i : Int)).bind fun u => (merkle_digest.f k (l.drop t.toNat)).bind fun v => if u.length < 8796093022208 then some (u ++ [v]) else none) else none) else none) else (if 0 ≤ t then (if t ≤ (l.length : Int) then ((merkle_prove.f k (l.drop t.toNat) (wrap64 ((i : Int) - t))).bind fun u => (merkle_digest.f k (l.take t.toNat)).bind fun v => if u.length < 8796093022208 then some (u ++ [v]) else none) else none) else none)) (fun k => ?_) ?_
  ·simp only [merkle_prove.f]
   rw [if_neg (by omega)]
  refine Ev.bind (half_ev l.length (by omega) hb) ?_
  by_cases hik : i < cutN l.length
  ·rw [if_pos hik, ← List.map_take, ← List.map_drop]
   refine ifpos (by omega) ?_
   refine ifpos (by omega) ?_
   refine ifpos (by omega) ?_
   rw [Int.toNat_natCast]
   refine Ev.bind (ih (l.take (cutN l.length)) i (by omega) (by omega) (by omega) (by rw [List.map_take]; exact tiny_take ht _)) ?_
   refine Ev.bind (digest_ev _ (l.drop (cutN l.length)) (Nat.le_refl _) (by omega) (by rw [List.map_drop]; exact tiny_drop ht _)) ?_
   have hpl := prv_len (l := (l.take (cutN l.length)).map toP) (i := i) (by rw [List.length_map]; omega) (by rw [List.length_map]; omega)
   refine ifpos (by rw [List.length_map, List.length_reverse]; omega) ?_
   rw [List.reverse_cons, List.map_append]
   exact Ev.now _
  ·rw [if_neg hik, ← List.map_take, ← List.map_drop]
   refine ifneg (by omega) ?_
   refine ifpos (by omega) ?_
   refine ifpos (by omega) ?_
   rw [Int.toNat_natCast, show wrap64 ((i : Int) - ((cutN l.length : Nat) : Int)) = ((i - cutN l.length : Nat) : Int) by unfold wrap64; omega]
   refine Ev.bind (ih (l.drop (cutN l.length)) (i - cutN l.length) (by omega) (by omega) (by omega) (by rw [List.map_drop]; exact tiny_drop ht _)) ?_
   refine Ev.bind (digest_ev _ (l.take (cutN l.length)) (Nat.le_refl _) (by omega) (by rw [List.map_take]; exact tiny_take ht _)) ?_
   have hpl := prv_len (l := (l.drop (cutN l.length)).map toP) (i := i - cutN l.length) (by rw [List.length_map]; omega) (by rw [List.length_map]; omega)
   refine ifpos (by rw [List.length_map, List.length_reverse]; omega) ?_
   rw [List.reverse_cons, List.map_append]
   exact Ev.now _
/-- the order of texts -/
def ltB (a b : ByteArray) : Bool := Op.bytesLess a.toList b.toList
theorem ltB_iff (a b : ByteArray) : ltB a b = true ↔ a.data.toList < b.data.toList := by
 rw [ltB, bytesLess_eq, toList_data, toList_data]; simp
theorem ltB_irr (a : ByteArray) : ltB a a = false := by
 rw [Bool.eq_false_iff, ne_eq, ltB_iff]
 exact List.lt_irrefl _
theorem ltB_trans {a b c : ByteArray} (h1 : ltB a b = true) (h2 : ltB b c = true) : ltB a c = true := by
 rw [ltB_iff] at *
 exact List.lt_trans h1 h2
theorem ext_toList {a b : ByteArray} (h : a.toList = b.toList) : a = b := by
 rw [toList_data, toList_data] at h
 cases a; cases b
 congr 1
 exact Array.toList_inj.1 h
theorem ltB_tri {a b : ByteArray} (h1 : ltB a b = false) (h2 : ltB b a = false) : a = b := by
 rw [Bool.eq_false_iff, ne_eq, ltB_iff, List.not_lt] at h1 h2
 exact ext_toList (by rw [toList_data, toList_data]; exact List.le_antisymm h2 h1)
theorem ltB_ne {a b : ByteArray} (h : ltB a b = true) : ¬ a.toList = b.toList := by
 intro e
 rw [ext_toList e, ltB_irr] at h
 cases h
theorem ltB_asymm {a b : ByteArray} (h : ltB a b = true) : ltB b a = false := by
 cases g : ltB b a
 ·rfl
 ·have := ltB_trans h g
  rw [ltB_irr] at this; cases this
/-- leaves in order -/
def srt (l : List S39) : Prop := l.Pairwise fun x y => ltB x.f0 y.f0 = true
theorem listB_adj {l : List S39} (h : listB l = true) (i : Nat) (hi : i + 1 < l.length) : ltB (l[i]'(by omega)).f0 (l[i + 1]).f0 = true := by
 have := List.all_eq_true.1 h (i + 1) (List.mem_range.2 hi)
 simp only [okAt, Bool.and_eq_true, Bool.or_eq_true, decide_eq_true_eq] at this
 have h2 := this.2.resolve_left (by omega)
 rw [rd39_of l (i + 1) hi, show i + 1 - 1 = i by omega, rd39_of l i (by omega)] at h2
 exact h2
theorem listB_lt {l : List S39} (h : listB l = true) : ∀ (d i : Nat) (hi : i + d + 1 < l.length), ltB (l[i]'(by omega)).f0 (l[i + d + 1]).f0 = true
 | 0, i, hi => listB_adj h i hi
 | d + 1, i, hi => ltB_trans (listB_lt h d i (by omega)) (listB_adj h (i + d + 1) (by omega))
theorem listB_srt {l : List S39} (h : listB l = true) : srt l := by
 rw [srt, List.pairwise_iff_getElem]
 intro i j hi hj hij
 obtain ⟨d, rfl⟩ : ∃ d, j = i + d + 1 := ⟨j - i - 1, by omega⟩
 exact listB_lt h d i hj
/-- how many paths are less -/
def cnt (l : List S39) (p : ByteArray) : Nat := l.countP fun x => ltB x.f0 p
theorem cnt_le (l : List S39) (p : ByteArray) : cnt l p ≤ l.length := List.countP_le_length
theorem cnt_split : ∀ (l : List S39) (p : ByteArray), srt l → (∀ x ∈ l.take (cnt l p), ltB x.f0 p = true) ∧ (∀ x ∈ l.drop (cnt l p), ltB x.f0 p = false)
 | [], p, _ => by simp
 | x :: t, p, h => by
  have ht : srt t := List.Pairwise.of_cons h
  obtain ⟨h1, h2⟩ := cnt_split t p ht
  by_cases hx : ltB x.f0 p = true
  ·rw [show cnt (x :: t) p = cnt t p + 1 by simp [cnt, hx], List.take_succ_cons, List.drop_succ_cons]
   refine ⟨fun y hy => ?_, h2⟩
   rcases List.mem_cons.1 hy with rfl | hy
   ·exact hx
   ·exact h1 y hy
  ·have hall : ∀ y ∈ t, ltB y.f0 p = false := fun y hy => by
    cases g : ltB y.f0 p
    ·rfl
    ·exact absurd (ltB_trans (List.rel_of_pairwise_cons h hy) g) hx
   have h0 : cnt (x :: t) p = 0 := by
    rw [cnt, List.countP_eq_zero]
    intro y hy
    rcases List.mem_cons.1 hy with rfl | hy
    ·exact hx
    ·rw [hall y hy]; simp
   rw [h0]
   refine ⟨fun y hy => by simp at hy, fun y hy => ?_⟩
   rw [List.drop_zero] at hy
   rcases List.mem_cons.1 hy with rfl | hy
   ·simpa using hx
   ·exact hall y hy
/-- where a path stands, told place by place -/
def fnd : List S39 → ByteArray → Nat → Nat → Nat × Bool
 | [], _, _, n => (n, false)
 | x :: t, p, i, n => if x.f0.toList = p.toList then (i, true) else if ltB x.f0 p = true then fnd t p (i + 1) (n + 1) else fnd t p (i + 1) n
theorem fnd_app (p : ByteArray) : ∀ (A l : List S39) (i n : Nat), (∀ x ∈ A, ltB x.f0 p = true) → fnd (A ++ l) p i n = fnd l p (i + A.length) (n + A.length)
 | [], l, i, n, _ => by simp
 | x :: A, l, i, n, h => by
  have hx := h x (by simp)
  rw [List.cons_append, fnd, if_neg (ltB_ne hx), if_pos hx, fnd_app p A l _ _ (fun y hy => h y (by simp [hy])), List.length_cons]
  congr 1 <;> omega
theorem fnd_gt (p : ByteArray) : ∀ (l : List S39) (i n : Nat), (∀ x ∈ l, ltB p x.f0 = true) → fnd l p i n = (n, false)
 | [], _, _, _ => rfl
 | x :: t, i, n, h => by
  have hx := h x (by simp)
  rw [fnd, if_neg (fun e => ltB_ne hx e.symm), if_neg (by rw [ltB_asymm hx]; simp)]
  exact fnd_gt p t _ n (fun y hy => h y (by simp [hy]))
/-- a list in order at a path: what is less, and what isn't; whether the path is there -/
theorem at_path {l : List S39} (h : srt l) (p : ByteArray) : (∀ x ∈ l.take (cnt l p), ltB x.f0 p = true) ∧
  ((∃ x t, l.drop (cnt l p) = x :: t ∧ x.f0 = p ∧ ∀ y ∈ t, ltB p y.f0 = true) ∨ (∀ y ∈ l.drop (cnt l p), ltB p y.f0 = true)) := by
 obtain ⟨h1, h2⟩ := cnt_split l p h
 refine ⟨h1, ?_⟩
 have hs : srt (l.drop (cnt l p)) := List.Pairwise.sublist (List.drop_sublist _ _) h
 generalize l.drop (cnt l p) = m at h2 hs
 cases m with
 | nil => exact .inr (by simp)
 | cons x t =>
  have hx := h2 x (by simp)
  cases g : ltB p x.f0
  ·have e := ltB_tri hx g
   refine .inl ⟨x, t, rfl, e, fun y hy => ?_⟩
   rw [← e]
   exact List.rel_of_pairwise_cons hs hy
  ·refine .inr (fun y hy => ?_)
   rcases List.mem_cons.1 hy with rfl | hy
   ·exact g
   ·exact ltB_trans g (List.rel_of_pairwise_cons hs hy)
/-- does a list begin with a path -/
def hdB : List S39 → ByteArray → Bool
 | [], _ => false
 | x :: _, p => x.f0.toList == p.toList
theorem hdB_none {l : List S39} {p : ByteArray} (h : ∀ y ∈ l, ltB p y.f0 = true) : hdB l p = false := by
 cases l with
 | nil => rfl
 | cons x t => exact beq_eq_false_iff_ne.2 (fun e => ltB_ne (h x (by simp)) e.symm)
theorem fnd_srt {l : List S39} (h : srt l) (p : ByteArray) (A : List S39) (hA : ∀ x ∈ A, ltB x.f0 p = true) :
  fnd (A ++ l) p 0 0 = (A.length + cnt l p, hdB (l.drop (cnt l p)) p) := by
 obtain ⟨h1, h2⟩ := at_path h p
 have hc := cnt_le l p
 have e : A ++ l = (A ++ l.take (cnt l p)) ++ l.drop (cnt l p) := by rw [List.append_assoc, List.take_append_drop]
 have hB : ∀ x ∈ A ++ l.take (cnt l p), ltB x.f0 p = true := fun x hx => by
  rcases List.mem_append.1 hx with hx | hx
  ·exact hA x hx
  ·exact h1 x hx
 have hl : (A ++ l.take (cnt l p)).length = A.length + cnt l p := by rw [List.length_append, List.length_take]; omega
 rw [e, fnd_app p _ _ _ _ hB, hl]
 rcases h2 with ⟨x, t, g1, g2, _⟩ | g
 ·rw [g1, fnd, if_pos (by rw [g2])]
  simp [hdB, g2]
 ·rw [fnd_gt p _ _ _ g, hdB_none g, Nat.zero_add]
theorem range_rd (l : List S39) : (List.range l.length).map (fun i : Nat => rd_T39 l (i : Int)) = l := by
 apply List.ext_getElem
 ·simp
 ·intro i h1 h2
  simp only [List.getElem_map, List.getElem_range]
  exact rd39_of l i h2
theorem less_is (l : List S39) (p : ByteArray) (i : Nat) (h : i < l.length) : merkle_place.less (l.map toM) p i = ltB (rd_T39 l (i : Int)).f0 p := by
 rw [merkle_place.less, rd_mine l i h]; rfl
theorem place_of {l : List S39} (h : srt l) (hl : l.length < 1000000) (p : ByteArray) : merkle_place.f (l.map toM) p = some ((cnt l p : Nat) : Int) := by
 rw [merkle_place.f, if_pos]
 ·congr 2
  rw [List.length_map, cnt]
  conv => rhs; rw [← range_rd l]
  rw [List.countP_map]
  refine List.countP_congr (fun i hi => ?_)
  rw [less_is l p i (List.mem_range.1 hi)]; rfl
 ·rw [List.length_map, Bool.and_eq_true, decide_eq_true_eq]
  refine ⟨by omega, ?_⟩
  rw [List.all_eq_true]
  intro a ha
  rw [List.all_eq_true]
  intro b hb
  have ha := List.mem_range.1 ha
  have hb := List.mem_range.1 hb
  rw [less_is l p a ha, less_is l p b hb]
  by_cases hab : a ≤ b
  ·rw [decide_eq_true hab, Bool.true_and]
   cases gb : ltB (rd_T39 l (b : Int)).f0 p
   ·simp
   ·have : ltB (rd_T39 l (a : Int)).f0 p = true := by
     by_cases e : a = b
     ·rw [e]; exact gb
     ·rw [rd39_of l b hb] at gb
      rw [rd39_of l a ha]
      exact ltB_trans ((List.pairwise_iff_getElem.1 h) a b ha hb (by omega)) gb
    rw [this]; rfl
  ·rw [decide_eq_false hab]; rfl
theorem find_ev (l : List S39) (p : ByteArray) (hl : l.length < 100000) : Ev (fun k => strongroomref20_Find.f k l p) (((fnd l p 0 0).1 : Nat), (fnd l p 0 0).2) := by
 have loop : ∀ (m : List S39) (i n : Nat), l.drop i = m → i ≤ l.length → n ≤ i → Ev (fun k => strongroomref20_Find.l0 k l p (n : Int) (i : Int)) ((((fnd m p i n).1 : Nat) : Int), (fnd m p i n).2) := by
  intro m
  induction m with
  | nil =>
   intro i n hd hi hn
   have := drop_nil_len hd hi
   refine Ev.step (f := fun _ => some ((n : Int), false)) (fun k => ?_) (Ev.now _)
   simp only [strongroomref20_Find.l0]
   rw [if_neg (by omega)]
  | cons x t ih =>
   intro i n hd hi hn
   obtain ⟨g1, g2, g3⟩ := drop_cons_facts hd
   have hx : rd_T39 l (i : Int) = x := by
    rw [rd39_of l i g3]
    rw [List.getElem?_eq_getElem g3] at g1; exact Option.some.inj g1
   rw [fnd]
   by_cases e : x.f0.toList = p.toList
   ·rw [if_pos e]
    refine Ev.step (f := fun _ => some ((i : Int), true)) (fun k => ?_) (Ev.now _)
    simp only [strongroomref20_Find.l0, hx]
    rw [if_pos (by omega), if_pos (by omega), if_pos e]
   ·rw [if_neg e]
    by_cases g : ltB x.f0 p = true
    ·rw [if_pos g]
     refine Ev.step (fun k => ?_) (ih (i + 1) (n + 1) g2 g3 (by omega))
     rw [ltB] at g
     simp only [strongroomref20_Find.l0, hx]
     rw [if_pos (by omega), if_pos (by omega), if_neg e, if_pos g, wrap_succ g3 (by omega), wrap_succ (n := 100000) (by omega) (by omega)]
    ·rw [if_neg g]
     refine Ev.step (fun k => ?_) (ih (i + 1) n g2 g3 (by omega))
     rw [ltB] at g
     simp only [strongroomref20_Find.l0, hx]
     rw [if_pos (by omega), if_pos (by omega), if_neg e, if_neg g, wrap_succ g3 (by omega)]
 simp only [strongroomref20_Find.f]
 exact loop l 0 0 rfl (by omega) (by omega)
/-- does one side of an absence hold -/
def besB (there order : Bool) (root : List UInt8) (n i : Int) (p s : ByteArray) (rev : List (List UInt8)) : Bool :=
 if there = true then (order && verB root n i p s rev) else ((p.toList == []) && (s.toList == [])) && decide (rev.length = 0)
theorem beside_ev (there order : Bool) (root : List UInt8) (n i : Int) (p s : ByteArray) (rev : List (List UInt8)) (hl : rev.length < 1000) (hall : ∀ p ∈ rev, p.length ≤ 200) : Ev (fun k => merkle_beside.f k there order (mkB root) n i p s (rev.reverse.map mkB)) (besB there order root n i p s rev) := by
 simp only [merkle_beside.f, besB]
 cases there
 ·refine ifneg (by simp) ?_
  simp only [Bool.false_eq_true, if_false]
  cases he : ((p.toList == []) && (s.toList == []))
  ·exact ifneg (by simp) (Ev.now _)
  ·refine ifpos rfl ?_
   rw [show ((((rev.reverse.map mkB).length : Nat) : Int) == 0) = (true && decide (rev.length = 0)) by
    rw [Bool.true_and, Bool.eq_iff_iff, beq_iff_eq, decide_eq_true_eq, List.length_map, List.length_reverse]; omega]
   exact Ev.now _
 ·refine ifpos rfl ?_
  simp only [if_true]
  cases order
  ·exact ifneg (by simp) (Ev.now _)
  ·exact ifpos rfl (Ev.bind (ver_ev root n i p s rev hl hall) (Ev.now _))
theorem rdig_nil : Ev (fun k => strongroomref20_Digest.f k []) ⟨(dig [2]).toArray⟩ := by
 refine Ev.step (f := fun _ => some ⟨(dig [2]).toArray⟩) (fun k => ?_) (Ev.now _)
 simp only [strongroomref20_Digest.f, strongroomref02_Sum.f]
 rw [if_pos (by simp), show refSumF ⟨#[2]⟩ = some ⟨(dig [2]).toArray⟩ from refSum_is [2] (by simp)]
 rfl
theorem misT_ev (r : ByteArray) (n : Int) (P : ByteArray) (at_ : Int) (a b c d : ByteArray) (u v : List ByteArray) : Ev (fun k => merkle_Missing.j0 k r n P true at_ a b c d u v) false :=
 Ev.step (f := fun _ => some false) (fun k => by simp only [merkle_Missing.j0]; rw [if_pos trivial]) (Ev.now _)
theorem rmisT_ev (r : ByteArray) (n : Int) (P : ByteArray) (at_ : Int) (a b c d : ByteArray) (u v : List ByteArray) : Ev (fun k => strongroomref20_Missing.j0 k r n P true at_ a b c d u v) false :=
 Ev.step (f := fun _ => some false) (fun k => by simp only [strongroomref20_Missing.j0]; rw [if_pos trivial]) (Ev.now _)
theorem mis1_ev (root : List UInt8) (n : Int) (P : ByteArray) (at_ : Int) (a b c d : ByteArray) (u v : List (List UInt8)) (hu : u.length < 1000) (hv : v.length < 1000) (au : ∀ p ∈ u, p.length ≤ 200) (av : ∀ p ∈ v, p.length ≤ 200) :
  Ev (fun k => merkle_Missing.j1 k (mkB root) n P false at_ a b c d (u.reverse.map mkB) (v.reverse.map mkB)) (besB (decide (at_ > 0)) (Op.bytesLess a.toList P.toList) root n (wrap64 (at_ - 1)) a b u && besB (decide (at_ < n)) (Op.bytesLess P.toList c.toList) root n at_ c d v) := by
 refine Ev.step (f := fun k => (merkle_beside.f k (decide (at_ > 0)) (Op.bytesLess a.toList P.toList) (mkB root) n (wrap64 (at_ - 1)) a b (u.reverse.map mkB)).bind fun x => if x = true then (merkle_beside.f k (decide (at_ < n)) (Op.bytesLess P.toList c.toList) (mkB root) n at_ c d (v.reverse.map mkB)).bind fun y => some y else some false) (fun k => ?_) ?_
 ·simp only [merkle_Missing.j1]
  rw [if_neg (by simp)]
 refine Ev.bind (beside_ev _ _ _ _ _ _ _ _ hu au) ?_
 cases besB (decide (at_ > 0)) (Op.bytesLess a.toList P.toList) root n (wrap64 (at_ - 1)) a b u
 ·exact ifneg (by simp) (Ev.now _)
 ·refine ifpos rfl ?_
  rw [Bool.true_and]
  exact Ev.bind (beside_ev _ _ _ _ _ _ _ _ hv av) (Ev.now _)
theorem listB_good {l : List S39} (h : listB l = true) (i : Nat) (hi : i < l.length) : goodX (l[i]).f0 (l[i]).f1 = true := by
 have := List.all_eq_true.1 h i (List.mem_range.2 hi)
 simp only [okAt, Bool.and_eq_true, rd39_of l i hi] at this
 exact this.1
theorem emp_toList : (⟨#[]⟩ : ByteArray).toList = [] := by rw [toList_data]
/-- do two sides show that a path isn't there -/
def sidesB (root : List UInt8) (n : Int) (P : ByteArray) (at_ : Int) (a b c d : ByteArray) (u v : List (List UInt8)) : Bool :=
 besB (decide (at_ > 0)) (Op.bytesLess a.toList P.toList) root n (wrap64 (at_ - 1)) a b u && besB (decide (at_ < n)) (Op.bytesLess P.toList c.toList) root n at_ c d v
def misV (root : List UInt8) (n : Int) (P : ByteArray) (at_ : Int) (a b c d : ByteArray) (u v : List (List UInt8)) : Bool :=
 goodB P && (decide (0 ≤ n ∧ n ≤ 1024 ∧ 0 ≤ at_ ∧ at_ ≤ n) && ((!decide (n = 0) || (mkB root).toList == (⟨(dig [2]).toArray⟩ : ByteArray).toList) && sidesB root n P at_ a b c d u v))
theorem rmis3_ev (root : List UInt8) (n : Int) (P : ByteArray) (at_ : Int) (a b c d : ByteArray) (u v : List (List UInt8)) (hv : v.length < 1000) (av : ∀ p ∈ v, p.length ≤ 200) (X : Bool) :
  Ev (fun k => strongroomref20_Missing.j3 k (mkB root) n P X at_ a b c d (u.reverse.map mkB) (v.reverse.map mkB)) (X && besB (decide (at_ < n)) (Op.bytesLess P.toList c.toList) root n at_ c d v) := by
 have h2 := rver_ev root n at_ c d v hv av
 have e3 : ((((v.reverse.map mkB).length : Nat) : Int) == 0) = decide (v.length = 0) := by
  rw [Bool.eq_iff_iff, beq_iff_eq, decide_eq_true_eq, List.length_map, List.length_reverse]; omega
 apply Ev.step (fun k => by simp only [strongroomref20_Missing.j3]; exact rfl)
 simp only [besB, e3]
 generalize Op.bytesLess P.toList c.toList = o2
 generalize ((c.toList == []) && (d.toList == [])) = em
 by_cases g2 : at_ < n
 ·simp only [if_pos g2, decide_eq_true g2, if_true]
  cases X <;> cases o2 <;> cases em <;> simp only [Bool.false_eq_true, if_false, if_true, Bool.false_and, Bool.and_false, Bool.true_and]
  all_goals first
   | exact Ev.now _
   | exact Ev.bind h2 (Ev.now _)
 ·simp only [if_neg g2, decide_eq_false g2, Bool.false_eq_true, if_false]
  cases X <;> cases em <;> simp only [Bool.false_eq_true, if_false, if_true, Bool.false_and, Bool.and_false, Bool.true_and]
  all_goals exact Ev.now _
theorem rmis2_ev (root : List UInt8) (n : Int) (P : ByteArray) (at_ : Int) (a b c d : ByteArray) (u v : List (List UInt8)) (hu : u.length < 1000) (hv : v.length < 1000) (au : ∀ p ∈ u, p.length ≤ 200) (av : ∀ p ∈ v, p.length ≤ 200) (X : Bool) (hX : X = (((a.toList == []) && (b.toList == [])) && decide (u.length = 0))) :
  Ev (fun k => strongroomref20_Missing.j2 k (mkB root) n P X at_ a b c d (u.reverse.map mkB) (v.reverse.map mkB)) (sidesB root n P at_ a b c d u v) := by
 have h1 := rver_ev root n (wrap64 (at_ - 1)) a b u hu au
 have h3 := rmis3_ev root n P at_ a b c d u v hv av
 apply Ev.step (fun k => by simp only [strongroomref20_Missing.j2]; exact rfl)
 rw [sidesB, besB, ← hX]
 by_cases g1 : at_ > 0
 ·rw [if_pos (decide_eq_true g1)]
  refine ifpos g1 ?_
  cases Op.bytesLess a.toList P.toList
  ·exact ifneg (by simp) (h3 false)
  ·exact ifpos rfl (Ev.bind h1 (h3 _))
 ·rw [if_neg (by simp [g1])]
  exact ifneg g1 (h3 X)
theorem rmis1_ev (root : List UInt8) (n : Int) (P : ByteArray) (at_ : Int) (a b c d : ByteArray) (u v : List (List UInt8)) (hu : u.length < 1000) (hv : v.length < 1000) (au : ∀ p ∈ u, p.length ≤ 200) (av : ∀ p ∈ v, p.length ≤ 200) :
  Ev (fun k => strongroomref20_Missing.j1 k (mkB root) n P false at_ a b c d (u.reverse.map mkB) (v.reverse.map mkB)) (sidesB root n P at_ a b c d u v) := by
 have e3 : ((((u.reverse.map mkB).length : Nat) : Int) == 0) = decide (u.length = 0) := by
  rw [Bool.eq_iff_iff, beq_iff_eq, decide_eq_true_eq, List.length_map, List.length_reverse]; omega
 apply Ev.step (fun k => by simp only [strongroomref20_Missing.j1]; rw [if_neg (by simp)])
 rw [e3]
 cases he : ((a.toList == []) && (b.toList == []))
 ·exact ifneg (by simp) (rmis2_ev root n P at_ a b c d u v hu hv au av false (by rw [he]; rfl))
 ·exact ifpos rfl (rmis2_ev root n P at_ a b c d u v hu hv au av _ (by rw [he]; rfl))
theorem mis_both (root : List UInt8) (n : Int) (P : ByteArray) (at_ : Int) (a b c d : ByteArray) (u v : List (List UInt8)) (hu : u.length < 1000) (hv : v.length < 1000) (au : ∀ p ∈ u, p.length ≤ 200) (av : ∀ p ∈ v, p.length ≤ 200) :
  Ev (fun k => merkle_Missing.f k (mkB root) n P at_ a b c d (u.reverse.map mkB) (v.reverse.map mkB)) (misV root n P at_ a b c d u v) ∧ Ev (fun k => strongroomref20_Missing.f k (mkB root) n P at_ a b c d (u.reverse.map mkB) (v.reverse.map mkB)) (misV root n P at_ a b c d u v) := by
 simp only [merkle_Missing.f, strongroomref20_Missing.f, path_Good.f, Option.bind_some, misV]
 have hg := rgood_ev' P
 cases hgP : goodB P
 ·rw [hgP] at hg
  exact ⟨ifneg (by simp) (misT_ev ..), Ev.bind hg (ifneg (by simp) (rmisT_ev ..))⟩
 rw [hgP] at hg
 by_cases h : 0 ≤ n ∧ n ≤ 1024 ∧ 0 ≤ at_ ∧ at_ ≤ n
 case neg =>
  rw [decide_eq_false h, Bool.false_and, Bool.and_false]
  by_cases h1 : n < 0
  ·exact ⟨ifpos rfl (ifpos h1 (misT_ev ..)), Ev.bind hg (ifpos rfl (ifpos h1 (rmisT_ev ..)))⟩
  by_cases h2 : n > 1024
  ·exact ⟨ifpos rfl (ifneg h1 (ifpos h2 (misT_ev ..))), Ev.bind hg (ifpos rfl (ifneg h1 (ifpos h2 (rmisT_ev ..))))⟩
  by_cases h3 : at_ < 0
  ·exact ⟨ifpos rfl (ifneg h1 (ifneg h2 (ifpos h3 (misT_ev ..)))), Ev.bind hg (ifpos rfl (ifneg h1 (ifneg h2 (ifpos h3 (rmisT_ev ..)))))⟩
  have h4 : at_ > n := by omega
  refine ⟨ifpos rfl (ifneg h1 (ifneg h2 (ifneg h3 ?_))), Ev.bind hg (ifpos rfl (ifneg h1 (ifneg h2 (ifneg h3 ?_))))⟩
  ·rw [decide_eq_true h4]; exact misT_ev ..
  ·rw [decide_eq_true h4]; exact rmisT_ev ..
 obtain ⟨h1, h2, h3, h4⟩ := h
 rw [decide_eq_true (show 0 ≤ n ∧ n ≤ 1024 ∧ 0 ≤ at_ ∧ at_ ≤ n from ⟨h1, h2, h3, h4⟩), Bool.true_and, Bool.true_and]
 have m1 := mis1_ev root n P at_ a b c d u v hu hv au av
 have m2 := rmis1_ev root n P at_ a b c d u v hu hv au av
 rw [← sidesB] at m1
 have key : Ev (fun k => merkle_Missing.j0 k (mkB root) n P false at_ a b c d (u.reverse.map mkB) (v.reverse.map mkB)) ((!decide (n = 0) || (mkB root).toList == (⟨(dig [2]).toArray⟩ : ByteArray).toList) && sidesB root n P at_ a b c d u v) ∧
   Ev (fun k => strongroomref20_Missing.j0 k (mkB root) n P false at_ a b c d (u.reverse.map mkB) (v.reverse.map mkB)) ((!decide (n = 0) || (mkB root).toList == (⟨(dig [2]).toArray⟩ : ByteArray).toList) && sidesB root n P at_ a b c d u v) := by
  by_cases h0 : n = 0
  ·rw [decide_eq_true h0, Bool.not_true, Bool.false_or]
   cases hr : ((mkB root).toList == (⟨(dig [2]).toArray⟩ : ByteArray).toList)
   ·refine ⟨Ev.step (f := fun k => merkle_Missing.j1 k (mkB root) n P true at_ a b c d (u.reverse.map mkB) (v.reverse.map mkB)) (fun k => ?_) (Ev.step (f := fun _ => some false) (fun k => ?_) (Ev.now _)), Ev.step (f := fun k => (strongroomref20_Digest.f k []).bind fun t => strongroomref20_Missing.j1 k (mkB root) n P ((mkB root).toList != t.toList) at_ a b c d (u.reverse.map mkB) (v.reverse.map mkB)) (fun k => ?_) (Ev.bind rdig_nil ?_)⟩
    ·simp only [merkle_Missing.j0]
     rw [if_neg (by simp), if_pos h0, none_is, Option.bind_some, bne, hr]; rfl
    ·simp only [merkle_Missing.j1]
     rw [if_pos trivial]
    ·simp only [strongroomref20_Missing.j0]
     rw [if_neg (by simp), if_pos h0]
    ·rw [bne, hr]
     refine Ev.step (f := fun _ => some false) (fun k => ?_) (Ev.now _)
     simp only [strongroomref20_Missing.j1]
     rw [if_pos (by rfl)]
   ·refine ⟨Ev.step (fun k => ?_) m1, Ev.step (f := fun k => (strongroomref20_Digest.f k []).bind fun t => strongroomref20_Missing.j1 k (mkB root) n P ((mkB root).toList != t.toList) at_ a b c d (u.reverse.map mkB) (v.reverse.map mkB)) (fun k => ?_) (Ev.bind rdig_nil ?_)⟩
    ·simp only [merkle_Missing.j0]
     rw [if_neg (by simp), if_pos h0, none_is, Option.bind_some, bne, hr]; rfl
    ·simp only [strongroomref20_Missing.j0]
     rw [if_neg (by simp), if_pos h0]
    ·rw [bne, hr]; exact m2
  ·rw [decide_eq_false h0, Bool.not_false, Bool.true_or, Bool.true_and]
   refine ⟨Ev.step (fun k => ?_) m1, Ev.step (fun k => ?_) m2⟩
   ·simp only [merkle_Missing.j0]
    rw [if_neg (by simp), if_neg h0]
   ·simp only [strongroomref20_Missing.j0]
    rw [if_neg (by simp), if_neg h0]
 obtain ⟨k1, k2⟩ := key
 refine ⟨ifpos rfl (ifneg (by omega) (ifneg (by omega) (ifneg (by omega) ?_))), Ev.bind hg (ifpos rfl (ifneg (by omega) (ifneg (by omega) (ifneg (by omega) ?_))))⟩
 ·rw [decide_eq_false (by omega)]; exact k1
 ·rw [decide_eq_false (by omega)]; exact k2
theorem get_of {l : List S39} {i : Nat} {x : S39} {t : List S39} (h : l.drop i = x :: t) : ∃ hi : i < l.length, l[i] = x := by
 obtain ⟨g1, g2, g3⟩ := drop_cons_facts h
 exact ⟨g3, by rw [List.getElem?_eq_getElem g3] at g1; exact Option.some.inj g1⟩
theorem Find_ev (l : List S39) (hl : l.length ≤ 1000) (p : ByteArray) : Ev (fun k => merkle_Find.f k (l.map toM) p) (if listB l = true then (((cnt l p : Nat) : Int), hdB (l.drop (cnt l p)) p) else (0, false)) := by
 simp only [merkle_Find.f]
 refine Ev.bind (check_ev l (by omega)) ?_
 cases hb : listB l
 ·exact ifneg (by simp) (Ev.now _)
 simp only [if_true]
 have hs := listB_srt hb
 rw [place_of hs (by omega), Option.bind_some]
 have := cnt_le l p
 cases hd : l.drop (cnt l p) with
 | nil =>
  have e := drop_nil_len hd this
  exact ifneg (by rw [List.length_map]; omega) (Ev.now _)
 | cons x t =>
  obtain ⟨hi, e⟩ := get_of hd
  refine ifpos (by rw [List.length_map]; omega) (ifpos (by omega) ?_)
  rw [rd_mine l _ hi, rd39_of l _ hi, e]
  exact Ev.now _
/-- what shows that a path isn't there: both sides -/
def lefS (l : List S39) (c : Nat) : S39 := if 0 < c then l.getD (c - 1) z39 else z39
def rigS (l : List S39) (c : Nat) : S39 := if c < l.length then l.getD c z39 else z39
def lefP (l : List S39) (c : Nat) : List (List UInt8) := if 0 < c then prvR (l.map toP9) (c - 1) else []
def rigP (l : List S39) (c : Nat) : List (List UInt8) := if c < l.length then prvR (l.map toP9) c else []
theorem getD_l (l : List S39) (i : Nat) (h : i < l.length) : l.getD i z39 = l[i] := by simp [List.getD_eq_getElem?_getD, h]
theorem z39_0 : z39.f0 = ⟨#[]⟩ := rfl
theorem z39_1 : z39.f1 = ⟨#[]⟩ := rfl
theorem Absent_ev (l : List S39) (hl : l.length ≤ 60) (ht : tinyL (l.map toP9)) (p : ByteArray) : Ev (fun k => merkle_Absent.f k (l.map toM) p)
  (if listB l = true then (if goodB p = true then (if hdB (l.drop (cnt l p)) p = true then (0, ⟨#[]⟩, ⟨#[]⟩, ⟨#[]⟩, ⟨#[]⟩, [], [], 7)
   else (((cnt l p : Nat) : Int), (lefS l (cnt l p)).f0, (lefS l (cnt l p)).f1, (rigS l (cnt l p)).f0, (rigS l (cnt l p)).f1, (lefP l (cnt l p)).reverse.map mkB, (rigP l (cnt l p)).reverse.map mkB, 0))
   else (0, ⟨#[]⟩, ⟨#[]⟩, ⟨#[]⟩, ⟨#[]⟩, [], [], 1)) else (0, ⟨#[]⟩, ⟨#[]⟩, ⟨#[]⟩, ⟨#[]⟩, [], [], 1)) := by
 simp only [merkle_Absent.f]
 refine Ev.bind (check_ev l (by omega)) ?_
 cases hb : listB l
 ·exact ifneg (by simp) (Ev.now _)
 simp only [if_true]
 simp only [path_Good.f, Option.bind_some]
 cases hg : goodB p
 ·exact ifneg (by simp) (Ev.now _)
 refine ifpos rfl ?_
 have hF := Find_ev l (by omega) p
 rw [if_pos hb] at hF
 refine Ev.bind hF ?_
 cases hh : hdB (l.drop (cnt l p)) p
 case true => exact ifpos rfl (Ev.now _)
 refine ifneg (by simp) ?_
 simp only [Bool.false_eq_true, if_false, if_true]
 have hc := cnt_le l p
 generalize cnt l p = c at hc
 have right : ∀ (a b : ByteArray) (u : List ByteArray), Ev (fun k => merkle_Absent.j0 k (l.map toM) (c : Int) (c : Int) a b ⟨#[]⟩ ⟨#[]⟩ u) (((c : Nat) : Int), a, b, (rigS l c).f0, (rigS l c).f1, u, (rigP l c).reverse.map mkB, 0) := by
  intro a b u
  by_cases h : c < l.length
  ·refine Ev.step (f := fun k => (merkle_prove.f k (l.map toM) (c : Int)).bind fun t => some ((c : Int), a, b, (rd_T44 (l.map toM) (c : Int)).f0, (rd_T44 (l.map toM) (c : Int)).f1, u, t, 0)) (fun k => ?_) ?_
   ·simp only [merkle_Absent.j0]
    rw [if_pos (by rw [List.length_map]; omega), if_pos (by omega)]
   ·have hp := prove_ev l.length (l.map toM) c (by rw [List.length_map]; exact h) (by rw [List.length_map]; omega) (by rw [List.length_map]; omega) (by rw [toP_toM]; exact ht)
    rw [toP_toM] at hp
    refine Ev.bind hp ?_
    rw [rd_mine l c h, rd39_of l c h, rigS, if_pos h, rigP, if_pos h, getD_l l c h]
    exact Ev.now _
  ·refine Ev.step (f := fun _ => some ((c : Int), a, b, ⟨#[]⟩, ⟨#[]⟩, u, [], 0)) (fun k => ?_) ?_
   ·simp only [merkle_Absent.j0]
    rw [if_neg (by rw [List.length_map]; omega)]
   ·rw [rigS, if_neg h, rigP, if_neg h]
    exact Ev.now _
 by_cases h : 0 < c
 ·have hw : wrap64 ((c : Int) - 1) = ((c - 1 : Nat) : Int) := by unfold wrap64; omega
  refine ifpos (by omega) ?_
  rw [hw]
  refine ifpos (by omega) (ifpos (by rw [List.length_map]; omega) ?_)
  have hp := prove_ev l.length (l.map toM) (c - 1) (by rw [List.length_map]; omega) (by rw [List.length_map]; omega) (by rw [List.length_map]; omega) (by rw [toP_toM]; exact ht)
  rw [toP_toM] at hp
  refine Ev.bind hp ?_
  rw [rd_mine l (c - 1) (by omega), rd39_of l (c - 1) (by omega), lefS, if_pos h, lefP, if_pos h, getD_l l (c - 1) (by omega)]
  exact right _ _ _
 ·refine ifneg (by omega) ?_
  rw [lefS, if_neg h, lefP, if_neg h]
  exact right _ _ _
/-- a leaf is shown at its place by its proof -/
theorem ver_own (l : List S39) (hl : l.length ≤ 60) (hb : listB l = true) (i : Nat) (hi : i < l.length) : verB (digL (l.map toP9)) (l.length : Int) (i : Int) (l[i]).f0 (l[i]).f1 (prvR (l.map toP9) i) = true := by
 have hg := listB_good hb i hi
 obtain ⟨e1, e2⟩ := prv_up l.length (l.map toP9) i (toP9 l[i]) (by rw [List.getElem?_map, List.getElem?_eq_getElem hi]; rfl) (by rw [List.length_map]; omega) (by rw [List.length_map]; omega)
 have e3 := prv_all l.length (l.map toP9) i (by rw [List.length_map]; omega) (by rw [List.length_map]; omega)
 rw [List.length_map] at e1 e2
 obtain ⟨c1, c2⟩ := climb_up (leafB (toP9 l[i]).1 (toP9 l[i]).2) (prvR (l.map toP9) i) l.length i (by omega) (by omega)
 rw [e1, e3, decide_eq_true rfl, Bool.true_and] at c1
 have c3 := (c2 c1).trans e2
 have c1' : (climbR (leafB (l[i]).f0.data.toList (l[i]).f1.data.toList) l.length i (prvR (l.map toP9) i)).2 = true := c1
 have c3' : (climbR (leafB (l[i]).f0.data.toList (l[i]).f1.data.toList) l.length i (prvR (l.map toP9) i)).1 = digL (l.map toP9) := c3
 rw [verB, hg, Int.toNat_natCast, Int.toNat_natCast, c1', c3']
 simp only [Bool.true_and, beq_self_eq_true, Bool.and_true, decide_eq_true_eq, Bool.and_eq_true]
 omega
theorem mis_own2 (l : List S39) (hl : l.length ≤ 60) (hb : listB l = true) (p : ByteArray) (hg : goodB p = true) (c : Nat) (hc : c ≤ l.length) (hL : ∀ h : 0 < c, ltB (l[c - 1]'(by omega)).f0 p = true) (hR : ∀ h : c < l.length, ltB p (l[c]).f0 = true) :
  misV (digL (l.map toP9)) (l.length : Int) p ((c : Nat) : Int) (lefS l c).f0 (lefS l c).f1 (rigS l c).f0 (rigS l c).f1 (lefP l c) (rigP l c) = true := by
 rw [misV, hg, Bool.true_and, decide_eq_true (show 0 ≤ (l.length : Int) ∧ (l.length : Int) ≤ 1024 ∧ 0 ≤ (c : Int) ∧ (c : Int) ≤ (l.length : Int) by omega), Bool.true_and, Bool.and_eq_true, Bool.or_eq_true]
 refine ⟨?_, ?_⟩
 ·by_cases h : l.length = 0
  ·right
   rw [List.eq_nil_of_length_eq_zero h, List.map_nil, digL_nil]
   exact beq_self_eq_true _
  ·left
   rw [decide_eq_false (by omega)]; rfl
 ·rw [sidesB, besB, besB, Bool.and_eq_true]
  refine ⟨?_, ?_⟩
  ·by_cases h : 0 < c
   ·rw [if_pos (decide_eq_true (by omega)), lefS, if_pos h, lefP, if_pos h, getD_l l _ (by omega), show wrap64 ((c : Int) - 1) = ((c - 1 : Nat) : Int) by unfold wrap64; omega, ver_own l hl hb (c - 1) (by omega), Bool.and_true]
    exact hL h
   ·rw [if_neg (by simp; omega), lefS, if_neg h, lefP, if_neg h, z39_0, z39_1, emp_toList]
    rfl
  ·by_cases h : c < l.length
   ·rw [if_pos (decide_eq_true (by omega)), rigS, if_pos h, rigP, if_pos h, getD_l l _ h, ver_own l hl hb c h, Bool.and_true]
    exact hR h
   ·rw [if_neg (by simp; omega), rigS, if_neg h, rigP, if_neg h, z39_0, z39_1, emp_toList]
    rfl
theorem mis_own (l : List S39) (hl : l.length ≤ 60) (hb : listB l = true) (p : ByteArray) (hg : goodB p = true) (hh : hdB (l.drop (cnt l p)) p = false) :
  misV (digL (l.map toP9)) (l.length : Int) p ((cnt l p : Nat) : Int) (lefS l (cnt l p)).f0 (lefS l (cnt l p)).f1 (rigS l (cnt l p)).f0 (rigS l (cnt l p)).f1 (lefP l (cnt l p)) (rigP l (cnt l p)) = true := by
 have hs := listB_srt hb
 have hc := cnt_le l p
 obtain ⟨h1, h2⟩ := at_path hs p
 have hL : ∀ h : 0 < cnt l p, ltB (l[cnt l p - 1]'(by omega)).f0 p = true := fun h => h1 _ (by
  refine List.mem_iff_getElem.2 ⟨cnt l p - 1, by rw [List.length_take]; omega, ?_⟩
  rw [List.getElem_take])
 have hR : ∀ h : cnt l p < l.length, ltB p (l[cnt l p]).f0 = true := fun h => by
  rw [List.drop_eq_getElem_cons h] at h2 hh
  rcases h2 with ⟨x, t, g1, g2, _⟩ | g
  ·have e : l[cnt l p] = x := (List.cons.inj g1).1
   rw [hdB, e, g2] at hh
   simp at hh
  ·exact g _ List.mem_cons_self
 exact mis_own2 l hl hb p hg _ hc hL hR
/-- no path that is there is shown to be none -/
theorem mis_not (l : List S39) (hb : listB l = true) (c n : Nat) (hc : c ≤ l.length) (hn : n < l.length) (root : List UInt8) (u v : List (List UInt8)) :
  misV root (l.length : Int) (l[n]).f0 (c : Int) (lefS l c).f0 (lefS l c).f1 (rigS l c).f0 (rigS l c).f1 u v = false := by
 have hs := List.pairwise_iff_getElem.1 (listB_srt hb)
 cases hm : misV root (l.length : Int) (l[n]).f0 (c : Int) (lefS l c).f0 (lefS l c).f1 (rigS l c).f0 (rigS l c).f1 u v
 ·rfl
 exfalso
 simp only [misV, sidesB, Bool.and_eq_true] at hm
 obtain ⟨_, _, _, m1, m2⟩ := hm
 by_cases h : n < c
 ·rw [besB, if_pos (decide_eq_true (by omega)), lefS, if_pos (by omega), getD_l l _ (by omega), Bool.and_eq_true] at m1
  have g : ltB (l[c - 1]'(by omega)).f0 (l[n]).f0 = true := m1.1
  by_cases e : n = c - 1
  ·subst e
   rw [ltB_irr] at g; cases g
  ·have := ltB_asymm (hs n (c - 1) hn (by omega) (by omega))
   rw [this] at g; cases g
 ·rw [besB, if_pos (decide_eq_true (by omega)), rigS, if_pos (by omega), getD_l l _ (by omega), Bool.and_eq_true] at m2
  have g : ltB (l[n]).f0 (l[c]'(by omega)).f0 = true := m2.1
  by_cases e : n = c
  ·subst e
   rw [ltB_irr] at g; cases g
  ·have := ltB_asymm (hs c n (by omega) hn (by omega))
   rw [this] at g; cases g
theorem prv_short {l : List S39} (hl : l.length ≤ 60) (i : Nat) (hi : i < l.length) : (prvR (l.map toP9) i).length < 1000 ∧ ∀ q ∈ prvR (l.map toP9) i, q.length ≤ 200 := by
 obtain ⟨e1, _⟩ := prv_up l.length (l.map toP9) i (toP9 l[i]) (by rw [List.getElem?_map, List.getElem?_eq_getElem hi]; rfl) (by rw [List.length_map]; omega) (by rw [List.length_map]; omega)
 rw [List.length_map] at e1
 have h2 := lenN_le l.length l.length i (Nat.le_refl _) (by omega)
 refine ⟨by omega, fun q hq => ?_⟩
 have := List.all_eq_true.1 (prv_all l.length (l.map toP9) i (by rw [List.length_map]; omega) (by rw [List.length_map]; omega)) q hq
 have := of_decide_eq_true this
 omega
theorem lef_short {l : List S39} (hl : l.length ≤ 60) (c : Nat) (hc : c ≤ l.length) : (lefP l c).length < 1000 ∧ ∀ q ∈ lefP l c, q.length ≤ 200 := by
 rw [lefP]
 split
 ·exact prv_short hl (c - 1) (by omega)
 ·simp
theorem rig_short {l : List S39} (hl : l.length ≤ 60) (c : Nat) : (rigP l c).length < 1000 ∧ ∀ q ∈ rigP l c, q.length ≤ 200 := by
 rw [rigP]
 split
 ·rename_i h; exact prv_short hl c h
 ·simp
theorem absent_loop (l : List S39) (hl : l.length ≤ 60) (hb : listB l = true) (root : List UInt8) (P : ByteArray) (c : Nat) (hc : c ≤ l.length) : ∀ (d i : Nat), i + d = l.length →
  Ev (fun k => strongroomlaw20_MerkleAbsent.l0 k P (l.map toM) (c : Int) (mkB root) (i : Int) (c : Int) (lefS l c).f0 (lefS l c).f1 (rigS l c).f0 (rigS l c).f1 ((lefP l c).reverse.map mkB) ((rigP l c).reverse.map mkB)) true := by
 intro d
 induction d with
 | zero =>
  intro i hi
  refine Ev.step (fun k => ?_) lives_ev'
  simp only [strongroomlaw20_MerkleAbsent.l0, List.length_map]
  rw [if_neg (by omega)]
 | succ d ih =>
  intro i hi
  have hm := (mis_both root (l.length : Int) (l[i]'(by omega)).f0 (c : Int) (lefS l c).f0 (lefS l c).f1 (rigS l c).f0 (rigS l c).f1 (lefP l c) (rigP l c) (lef_short hl c hc).1 (rig_short hl c).1 (lef_short hl c hc).2 (rig_short hl c).2).1
  rw [mis_not l hb c i hc (by omega)] at hm
  refine Ev.step (f := fun k => (merkle_Missing.f k (mkB root) (l.length : Int) (l[i]'(by omega)).f0 (c : Int) (lefS l c).f0 (lefS l c).f1 (rigS l c).f0 (rigS l c).f1 ((lefP l c).reverse.map mkB) ((rigP l c).reverse.map mkB)).bind fun t => if t = true then (if (i : Int) = (wrap64 ((c : Int) - 1)) then (if (Op.bytesLess (((rd_T44 (l.map toM) (i : Int)).f0).toList) P.toList) = true then (if (i : Int) = (c : Int) then (if (Op.bytesLess P.toList (((rd_T44 (l.map toM) (i : Int)).f0).toList)) = true then (some false) else (strongroomlaw20_MerkleAbsent.l0 k P (l.map toM) (c : Int) (mkB root) (wrap64 ((i : Int) + 1)) (c : Int) (lefS l c).f0 (lefS l c).f1 (rigS l c).f0 (rigS l c).f1 ((lefP l c).reverse.map mkB) ((rigP l c).reverse.map mkB))) else (some false)) else (strongroomlaw20_MerkleAbsent.l0 k P (l.map toM) (c : Int) (mkB root) (wrap64 ((i : Int) + 1)) (c : Int) (lefS l c).f0 (lefS l c).f1 (rigS l c).f0 (rigS l c).f1 ((lefP l c).reverse.map mkB) ((rigP l c).reverse.map mkB))) else (if (i : Int) = (c : Int) then (if (Op.bytesLess P.toList (((rd_T44 (l.map toM) (i : Int)).f0).toList)) = true then (some false) else (strongroomlaw20_MerkleAbsent.l0 k P (l.map toM) (c : Int) (mkB root) (wrap64 ((i : Int) + 1)) (c : Int) (lefS l c).f0 (lefS l c).f1 (rigS l c).f0 (rigS l c).f1 ((lefP l c).reverse.map mkB) ((rigP l c).reverse.map mkB))) else (some false))) else strongroomlaw20_MerkleAbsent.l0 k P (l.map toM) (c : Int) (mkB root) ((i + 1 : Nat) : Int) (c : Int) (lefS l c).f0 (lefS l c).f1 (rigS l c).f0 (rigS l c).f1 ((lefP l c).reverse.map mkB) ((rigP l c).reverse.map mkB)) (fun k => ?_) (Ev.bind hm (ifneg (by simp) (ih (i + 1) (by omega))))
  simp only [strongroomlaw20_MerkleAbsent.l0, List.length_map]
  rw [if_pos (by omega), if_pos (by omega), rd_mine l i (by omega), rd39_of l i (by omega), wrap_succ (i := i) (n := l.length) (by omega) (by omega)]
theorem hd_good {l : List S39} (hb : listB l = true) {p : ByteArray} {n : Nat} (h : hdB (l.drop n) p = true) : goodB p = true := by
 cases hd : l.drop n with
 | nil => rw [hd] at h; cases h
 | cons x t =>
  rw [hd, hdB, beq_iff_eq] at h
  obtain ⟨hi, e⟩ := get_of hd
  have g := listB_good hb n hi
  rw [goodX, Bool.and_eq_true, e, ext_toList h] at g
  exact g.1
/-- MerkleAbsent, of numbers and lists alone. -/
theorem MerkleAbsent (l : List S39) (p : ByteArray) : ∃ k, strongroomlaw20_MerkleAbsent.f k l p = some true := by
 refine Ev.rounds (g := fun k => strongroomlaw20_MerkleAbsent.f k l p) ?_
 simp only [strongroomlaw20_MerkleAbsent.f]
 have hT : Ev (fun k => strongroomlaw20_MerkleAbsent.j0 k l p true) true := by
  refine Ev.step (fun k => ?_) lives_ev'
  simp only [strongroomlaw20_MerkleAbsent.j0]
  rw [if_pos trivial]
 refine Ev.bind (small_ev l) ?_
 cases hsm : smallX l
 ·exact ifneg (by simp) hT
 refine ifpos rfl ?_
 obtain ⟨h60, ht⟩ := small_facts hsm
 by_cases hp : p.size > 200
 ·rw [show decide ((p.size : Int) > 200) = true from decide_eq_true (by omega)]
  exact hT
 rw [show decide ((p.size : Int) > 200) = false from decide_eq_false (by omega)]
 have hF := Find_ev l (by omega) p
 have hA := Absent_ev l h60 ht p
 have hR := find_ev l p (by omega)
 have hj : ∀ r, Ev (fun k => (strongroomlaw20_mine.f k l).bind fun t334 => ((merkle_Find.f k t334 p).bind fun bt337 => ((merkle_Absent.f k t334 p).bind fun bt339 => ((strongroomlaw20_list.f k l).bind fun t352 => (if t352 = true then ((strongroomref20_Find.f k l p).bind fun bt355 => (if bt337.1 = bt355.1 then (strongroomlaw20_MerkleAbsent.j1 k p t334 bt337.1 bt339.2.2.2.2.2.2.2 bt355.2 (bt337.2 != bt355.2) bt339.1 bt339.2.1 bt339.2.2.1 bt339.2.2.2.1 bt339.2.2.2.2.1 bt339.2.2.2.2.2.1 bt339.2.2.2.2.2.2.1) else (strongroomlaw20_MerkleAbsent.j1 k p t334 bt337.1 bt339.2.2.2.2.2.2.2 bt355.2 true bt339.1 bt339.2.1 bt339.2.2.1 bt339.2.2.2.1 bt339.2.2.2.2.1 bt339.2.2.2.2.2.1 bt339.2.2.2.2.2.2.1))) else (if bt337.1 = 0 then (if bt337.2 = true then (some false) else ((strongroomref20_Why.f k l).bind fun t353 => (if bt339.2.2.2.2.2.2.2 = t353 then ((strongroomlaw20_lives.f k).bind fun t354 => (some t354)) else (some false)))) else (some false))))))) r → Ev (fun k => strongroomlaw20_MerkleAbsent.j0 k l p false) r := fun r h => by
  refine Ev.step (fun k => ?_) h
  simp only [strongroomlaw20_MerkleAbsent.j0]
  rw [if_neg (by simp)]
 refine hj _ ?_
 refine Ev.bind (mine_ev l (by omega)) ?_
 refine Ev.bind hF ?_
 refine Ev.bind hA ?_
 refine Ev.bind (list_ev l (by omega)) ?_
 cases hb : listB l
 ·simp only [Bool.false_eq_true, if_false]
  have hW := rwhy_ev l (by omega)
  rw [if_neg (by rw [hb]; simp)] at hW
  exact Ev.bind hW (ifpos rfl lives_ev')
 simp only [if_true]
 refine Ev.bind hR ?_
 have hs := listB_srt hb
 have e2 := fnd_srt hs p [] (by simp)
 rw [List.nil_append, List.length_nil, Nat.zero_add] at e2
 rw [e2]
 refine ifpos rfl ?_
 have hc := cnt_le l p
 simp only [bne_self_eq_false]
 cases hh : hdB (l.drop (cnt l p)) p
 case true =>
  rw [if_pos (hd_good hb hh)]
  simp only [if_true]
  refine Ev.step (fun k => ?_) lives_ev'
  simp only [strongroomlaw20_MerkleAbsent.j1]
  rw [if_neg (by simp), if_neg (by decide), if_pos (by decide), if_pos (by decide)]
 simp only [Bool.false_eq_true, if_false]
 cases hg : goodB p
 ·simp only [Bool.false_eq_true, if_false]
  refine Ev.step (fun k => ?_) lives_ev'
  simp only [strongroomlaw20_MerkleAbsent.j1]
  rw [if_neg (by simp), if_neg (by decide), if_pos (by decide), if_neg (by decide), if_pos (by decide)]
 simp only [if_true]
 have hD := Digest_ev l (by omega) ht
 rw [hb, if_pos rfl] at hD
 obtain ⟨m1, m2⟩ := mis_both (digL (l.map toP9)) (l.length : Int) p ((cnt l p : Nat) : Int) (lefS l (cnt l p)).f0 (lefS l (cnt l p)).f1 (rigS l (cnt l p)).f0 (rigS l (cnt l p)).f1 (lefP l (cnt l p)) (rigP l (cnt l p)) (lef_short h60 _ hc).1 (rig_short h60 _).1 (lef_short h60 _ hc).2 (rig_short h60 _).2
 rw [mis_own l h60 hb p hg hh] at m1 m2
 have hL := absent_loop l h60 hb (digL (l.map toP9)) p (cnt l p) hc l.length 0 (by omega)
 generalize cnt l p = c at *
 have hlm : (((l.map toM).length : Nat) : Int) = (l.length : Int) := by rw [List.length_map]
 have h2 : Ev (fun k => strongroomlaw20_MerkleAbsent.j2 k p (l.map toM) (c : Int) (mkB (digL (l.map toP9))) (!true) (c : Int) (lefS l c).f0 (lefS l c).f1 (rigS l c).f0 (rigS l c).f1 ((lefP l c).reverse.map mkB) ((rigP l c).reverse.map mkB)) true := by
  refine Ev.step (fun k => ?_) hL
  simp only [strongroomlaw20_MerkleAbsent.j2]
  rw [if_neg (by simp)]
  rfl
 refine Ev.step (f := fun k => (merkle_Digest.f k (l.map toM)).bind fun t359 => (merkle_Missing.f k t359 (l.length : Int) p (c : Int) (lefS l c).f0 (lefS l c).f1 (rigS l c).f0 (rigS l c).f1 ((lefP l c).reverse.map mkB) ((rigP l c).reverse.map mkB)).bind fun t360 => (if t360 = true then ((strongroomref20_Missing.f k t359 (l.length : Int) p (c : Int) (lefS l c).f0 (lefS l c).f1 (rigS l c).f0 (rigS l c).f1 ((lefP l c).reverse.map mkB) ((rigP l c).reverse.map mkB)).bind fun t361 => (strongroomlaw20_MerkleAbsent.j2 k p (l.map toM) (c : Int) t359 (!t361) (c : Int) (lefS l c).f0 (lefS l c).f1 (rigS l c).f0 (rigS l c).f1 ((lefP l c).reverse.map mkB) ((rigP l c).reverse.map mkB))) else (strongroomlaw20_MerkleAbsent.j2 k p (l.map toM) (c : Int) t359 true (c : Int) (lefS l c).f0 (lefS l c).f1 (rigS l c).f0 (rigS l c).f1 ((lefP l c).reverse.map mkB) ((rigP l c).reverse.map mkB)))) (fun k => ?_) (Ev.bind hD (Ev.bind m1 (ifpos rfl (Ev.bind m2 h2))))
 simp only [strongroomlaw20_MerkleAbsent.j1, strongroomlaw20_absence.f, Option.bind_some, hlm, if_true]
 rw [if_neg (by simp)]

end Go.Proofs.YtdeggemomajhcaaDoor.Pure
