/- The plain law of MerkleApplies: of numbers and lists alone. -/
import Derived.Test.YtdeggemomajhcaaDoorHMerkleAppliesx15
import Derived.Laws.BitsAllLaws
namespace Go.Proofs.YtdeggemomajhcaaDoor.Pure
open Go.RowKit Go.Proofs.YtdeggemomajhcaaDoorH.HMerkleApplies Go.Proofs.YtdeggemomajhcaaDoorW.PrintWords Go.Proofs.YtdeggemomajhcaaDoorW.PrintLast Go.Proofs.YtdeggemomajhcaaDoorW.PrintMore

abbrev I (b : UInt8) : Int := (b.toNat : Int)
theorem mk_size (a : List UInt8) : (⟨a.toArray⟩ : ByteArray).size = a.length := by simp [ByteArray.size]
theorem nums_mk (l : List UInt8) : strOfNums (l.map I) = ⟨l.toArray⟩ := by
 simp [strOfNums, I, Function.comp_def]
theorem ifpos {α : Type} {c : Prop} [Decidable c] {f g : Nat → Option α} {r : α} (h : c) (k : Ev f r) : Ev (fun n => if c then f n else g n) r := Ev.congr (fun _ => if_pos h) k
theorem ifneg {α : Type} {c : Prop} [Decidable c] {f g : Nat → Option α} {r : α} (h : ¬ c) (k : Ev g r) : Ev (fun n => if c then f n else g n) r := Ev.congr (fun _ => if_neg h) k
theorem toList_data (s : ByteArray) : s.toList = s.data.toList := by rw [ByteArray.toList_eq]
theorem bt_mk (s : List UInt8) (i : Nat) (h : i < s.length) : bt ⟨s.toArray⟩ (i : Int) = I (s.getD i 0) := by
 have hs : i < (⟨s.toArray⟩ : ByteArray).size := by rw [mk_size]; exact h
 simp only [bt, Int.toNat_natCast, hs, dite_true, I]
 simp [List.getD_eq_getElem?_getD, h]
 rfl
theorem drop_nil_len {α : Type} {l : List α} {i : Nat} (h : l.drop i = []) (hi : i ≤ l.length) : i = l.length := by
 have := congrArg List.length h
 simp at this; omega
theorem wrap_succ {i n : Nat} (h : i < n) (hn : n < 1000000000000) : wrap64 ((i : Int) + 1) = ((i + 1 : Nat) : Int) := by unfold wrap64; omega
theorem all_loop {α : Type} (l : List α) (P : α → Bool) (F : Nat → Int → Option Bool)
  (ht : ∀ i c cs, l.drop i = c :: cs → P c = true → ∀ r, Ev (fun k => F k ((i + 1 : Nat) : Int)) r → Ev (fun k => F k (i : Int)) r)
  (hf : ∀ i c cs, l.drop i = c :: cs → P c = false → Ev (fun k => F k (i : Int)) false)
  (he : Ev (fun k => F k ((l.length : Nat) : Int)) true) : ∀ (cs : List α) (i : Nat), l.drop i = cs → i ≤ l.length → Ev (fun k => F k (i : Int)) (cs.all P) := by
 intro cs
 induction cs with
 | nil =>
  intro i hd hi
  rw [drop_nil_len hd hi]
  exact he
 | cons c cs ih =>
  intro i hd hi
  have hlt : i < l.length := by
   rcases Nat.lt_or_ge i l.length with g | g
   ·exact g
   ·rw [List.drop_eq_nil_of_le g] at hd; cases hd
  have hd2 : l.drop (i + 1) = cs := by
   have := congrArg List.tail hd
   simpa [List.tail_drop] using this
  cases hc : P c
  ·rw [List.all_cons, hc]; exact hf i c cs hd hc
  ·rw [List.all_cons, hc]; exact ht i c cs hd hc _ (ih (i + 1) hd2 hlt)
theorem goodB_le {a : ByteArray} (h : goodB a = true) : a.size ≤ 32 := by
 simp [goodB] at h; omega
/-- a text cut at its strokes -/
def cutL : List UInt8 → List (List UInt8)
 | [] => [[]]
 | b :: l => if b = 47 then [] :: cutL l else match cutL l with
  | [] => [[b]]
  | h :: t => (b :: h) :: t
theorem cutL_ne : ∀ l : List UInt8, cutL l ≠ []
 | [] => by simp [cutL]
 | b :: l => by
  unfold cutL
  split
  ·simp
  ·cases h : cutL l <;> simp
theorem splitK_ne (b : UInt8) (l : List UInt8) (h : b ≠ 47) (k : Nat) : Go.Lib.splitK [47] 0 k (b :: l) = match Go.Lib.splitK [47] 0 k l with
  | [] => [[b]]
  | x :: t => (b :: x) :: t := by
 cases k with
 | zero => rfl
 | succ k =>
  have hp : ([47] : List UInt8).isPrefixOf (b :: l) = false := by simp [List.isPrefixOf, Ne.symm h]
  have hix : Go.Lib.index (b :: l) [47] = if Go.Lib.index l [47] == -1 then -1 else Go.Lib.index l [47] + 1 := by rw [Go.Lib.index, hp]; simp
  by_cases hm : Go.Lib.index l [47] = -1
  ·simp only [Go.Lib.splitK, hix, hm]
   rfl
  ·have hge := Go.Lib.index_ge l [47]
   have hm2 : (Go.Lib.index l [47] == -1) = false := beq_eq_false_iff_ne.2 hm
   have hm3 : (Go.Lib.index l [47] + 1 == -1) = false := beq_eq_false_iff_ne.2 (by omega)
   simp only [Go.Lib.splitK, hix, hm2, hm3, Bool.false_eq_true, if_false]
   have e : (Go.Lib.index l [47] + 1).toNat = (Go.Lib.index l [47]).toNat + 1 := by omega
   rw [e]
   simp
theorem splitK_cutL : ∀ l : List UInt8, Go.Lib.splitK [47] 0 (Go.Lib.count l [47]) l = cutL l
 | [] => by rw [Go.Lib.count_miss (by simp [Go.Lib.index])]; rfl
 | b :: l => by
  by_cases h : b = 47
  ·subst h
   have hix : Go.Lib.index (47 :: l) [47] = 0 := by rw [Go.Lib.index]; simp [List.isPrefixOf]
   rw [Go.Lib.count_cons_eq, Nat.add_comm]
   simp only [Go.Lib.splitK, hix]
   rw [if_neg (by decide)]
   simp only [cutL, if_true, ← splitK_cutL l]
   rfl
  ·rw [Go.Lib.count_cons_ne b 47 l h, splitK_ne b l h, splitK_cutL l]
   simp only [cutL, if_neg h]
theorem pieces_data (s : ByteArray) : (pieces s).map (·.data.toList) = cutL s.data.toList := by
 rw [pieces, Go.Lib.splitB_data]
 exact splitK_cutL s.data.toList
/-- is a text a path, in plain lists -/
def goodL (s : List UInt8) : Bool := decide (1 ≤ s.length) && decide (s.length ≤ 32) && (cutL s).all nameB
theorem goodB_goodL (s : ByteArray) : goodB s = goodL s.data.toList := by
 unfold goodB goodL
 rw [← pieces_data, List.all_map]
 rfl
theorem cutL_app : ∀ (a b : List UInt8), cutL (a ++ 47 :: b) = cutL a ++ cutL b
 | [], b => by simp [cutL]
 | x :: a, b => by
  by_cases h : x = 47
  ·simp only [List.cons_append, cutL, if_pos h, cutL_app a b]
  ·simp only [List.cons_append, cutL, if_neg h, cutL_app a b]
   cases hc : cutL a with
   | nil => exact absurd hc (cutL_ne a)
   | cons y t => rfl
/-- the text of some pieces -/
def joinL : List (List UInt8) → List UInt8
 | [] => []
 | [x] => x
 | x :: y :: t => x ++ 47 :: joinL (y :: t)
theorem joinL_cons (x : List UInt8) (t : List (List UInt8)) (h : t ≠ []) : joinL (x :: t) = x ++ 47 :: joinL t := by
 cases t with
 | nil => exact absurd rfl h
 | cons y t => rfl
theorem joinL_cutL : ∀ l : List UInt8, joinL (cutL l) = l
 | [] => rfl
 | b :: l => by
  have ih := joinL_cutL l
  by_cases h : b = 47
  ·simp only [cutL, if_pos h]
   rw [joinL_cons _ _ (cutL_ne l), ih, h]
   rfl
  ·simp only [cutL, if_neg h]
   cases hc : cutL l with
   | nil => exact absurd hc (cutL_ne l)
   | cons y t =>
    rw [hc] at ih
    cases t with
    | nil => simp only [joinL] at ih ⊢; rw [ih]
    | cons z t => simp only [joinL] at ih ⊢; rw [← ih]; rfl
theorem joinL_app (a b : List (List UInt8)) (ha : a ≠ []) (hb : b ≠ []) : joinL (a ++ b) = joinL a ++ 47 :: joinL b := by
 induction a with
 | nil => exact absurd rfl ha
 | cons x a ih =>
  by_cases h : a = []
  ·subst h
   rw [List.cons_append, List.nil_append, joinL_cons _ _ hb]; rfl
  ·rw [List.cons_append, joinL_cons _ _ (by simp [h]), joinL_cons _ _ h, ih h]
   simp
/-- a place's pieces stand at the head of a path's just if it is the path, or the path begins with it and a stroke -/
theorem prefix_cut (a p : List UInt8) : cutL a <+: cutL p ↔ p = a ∨ (a ++ [47]) <+: p := by
 constructor
 ·rintro ⟨t, ht⟩
  by_cases h : t = []
  ·subst h
   rw [List.append_nil] at ht
   left
   rw [← joinL_cutL p, ← ht, joinL_cutL]
  ·right
   refine ⟨joinL t, ?_⟩
   have := joinL_app (cutL a) t (cutL_ne a) h
   rw [ht, joinL_cutL, joinL_cutL] at this
   rw [this]; simp
 ·rintro (rfl | ⟨t, rfl⟩)
  ·exact List.prefix_refl _
  ·refine ⟨cutL t, ?_⟩
   rw [List.append_assoc]
   exact (cutL_app a t).symm
/-- the same cut, with what stands ahead -/
def cutG : List UInt8 → List UInt8 → List (List UInt8)
 | cur, [] => [cur]
 | cur, b :: l => if b = 47 then cur :: cutG [] l else cutG (cur ++ [b]) l
theorem cutG_eq : ∀ (l cur : List UInt8), cutG cur l = match cutL l with | [] => [cur] | h :: t => (cur ++ h) :: t
 | [], cur => by simp [cutG, cutL]
 | b :: l, cur => by
  unfold cutG cutL
  by_cases h : b = 47
  ·rw [if_pos h, if_pos h, cutG_eq l []]
   cases hc : cutL l with
   | nil => exact absurd hc (cutL_ne l)
   | cons x t => simp
  ·rw [if_neg h, if_neg h, cutG_eq l (cur ++ [b])]
   cases hc : cutL l with
   | nil => simp
   | cons x t => simp
theorem cutG_nil (l : List UInt8) : cutG [] l = cutL l := by
 rw [cutG_eq]
 cases hc : cutL l with
 | nil => exact absurd hc (cutL_ne l)
 | cons x t => simp
abbrev mkB (p : List UInt8) : ByteArray := ⟨p.toArray⟩
theorem extract_mk (s : List UInt8) (a b : Nat) : (⟨s.toArray⟩ : ByteArray).extract a b = mkB ((s.drop a).take (b - a)) := by
 apply ByteArray.ext
 rw [ByteArray.data_extract]
 simp [List.extract_eq_take_drop]
theorem drop_cons_facts {α : Type} {l : List α} {i : Nat} {c : α} {cs : List α} (h : l.drop i = c :: cs) : l[i]? = some c ∧ l.drop (i + 1) = cs ∧ i < l.length := by
 have hlt : i < l.length := by
  rcases Nat.lt_or_ge i l.length with g | g
  ·exact g
  ·rw [List.drop_eq_nil_of_le g] at h; cases h
 refine ⟨?_, ?_, hlt⟩
 ·have := congrArg List.head? h
  simpa [List.head?_drop] using this
 ·have := congrArg List.tail h
  simpa [List.tail_drop] using this
theorem getD_of {l : List UInt8} {i : Nat} {c : UInt8} (h : l[i]? = some c) : l.getD i 0 = c := by rw [List.getD_eq_getElem?_getD, h]; rfl
theorem take_piece {s : List UInt8} {f i : Nat} {b : UInt8} (hf : f ≤ i) (hb : s[i]? = some b) : (s.drop f).take (i + 1 - f) = (s.drop f).take (i - f) ++ [b] := by
 rw [show i + 1 - f = (i - f) + 1 by omega, List.take_add_one, List.getElem?_drop, show f + (i - f) = i by omega, hb]; rfl
theorem cut_loop (s : List UInt8) (hs : s.length < 1000000) : ∀ (rest : List UInt8) (i f : Nat) (acc : List ByteArray), s.drop i = rest → f ≤ i → i ≤ s.length → acc.length ≤ i → Ev (fun k => strongroomref05_Cut.l0 k ⟨s.toArray⟩ acc (f : Int) (i : Int)) (acc ++ (cutG ((s.drop f).take (i - f)) rest).map mkB) := by
 intro rest
 induction rest with
 | nil =>
  intro i f acc hd hf hi ha
  have hl := drop_nil_len hd hi
  refine Ev.step (f := fun k => strongroomref05_Cut.l0 k ⟨s.toArray⟩ (acc ++ [mkB ((s.drop f).take (i - f))]) (wrap64 ((i : Int) + 1)) (wrap64 ((i : Int) + 1))) (fun k => ?_) (Ev.step (f := fun _ => some (acc ++ [mkB ((s.drop f).take (i - f))])) (fun k => ?_) (Ev.now _))
  ·simp only [strongroomref05_Cut.l0, mk_size]
   rw [if_pos (by omega), if_pos (by omega), if_pos (by omega), if_pos (by omega), if_pos (by omega), Int.toNat_natCast, Int.toNat_natCast, extract_mk]
  ·simp only [strongroomref05_Cut.l0, mk_size]
   rw [if_neg (by unfold wrap64; omega)]
 | cons b rest ih =>
  intro i f acc hd hf hi ha
  obtain ⟨h1, h2, h3⟩ := drop_cons_facts hd
  have hb : bt ⟨s.toArray⟩ (i : Int) = I b := by rw [bt_mk s i h3, getD_of h1]
  have hw := wrap_succ h3 (by omega)
  by_cases h47 : b = 47
  ·have h := ih (i + 1) (i + 1) (acc ++ [mkB ((s.drop f).take (i - f))]) h2 (Nat.le_refl _) h3 (by simp; omega)
   rw [Nat.sub_self, List.take_zero] at h
   rw [cutG, if_pos h47, List.map_cons]
   rw [List.append_assoc, List.singleton_append] at h
   refine Ev.step (fun k => ?_) h
   simp only [strongroomref05_Cut.l0, mk_size]
   rw [if_pos (by omega), if_neg (by omega), if_pos (by omega), if_pos (by omega), hb, if_pos (by rw [h47]; rfl), if_pos (by omega), if_pos (by omega), if_pos (by omega), Int.toNat_natCast, Int.toNat_natCast, extract_mk, hw]
  ·have h := ih (i + 1) f acc h2 (by omega) h3 (by omega)
   rw [take_piece hf h1] at h
   rw [cutG, if_neg h47]
   refine Ev.step (fun k => ?_) h
   simp only [strongroomref05_Cut.l0, mk_size]
   rw [if_pos (by omega), if_neg (by omega), if_pos (by omega), if_pos (by omega), hb, if_neg (by intro h; exact h47 (UInt8.toNat.inj (show b.toNat = 47 by simp only [I] at h; omega))), hw]
theorem cut_ev (s : List UInt8) (hs : s.length < 1000000) : Ev (fun k => strongroomref05_Cut.f k ⟨s.toArray⟩) ((cutL s).map mkB) := by
 simp only [strongroomref05_Cut.f]
 have h := cut_loop s hs s 0 0 [] rfl (Nat.le_refl _) (Nat.zero_le _) (Nat.zero_le _)
 simp only [Nat.sub_self, List.take_zero, List.nil_append, cutG_nil] at h
 exact h
theorem nameJ_t (s : ByteArray) : Ev (fun k => strongroomref05_Name.j0 k s true) false :=
 Ev.step (f := fun _ => some false) (fun k => by simp only [strongroomref05_Name.j0]; rw [if_pos trivial]) (Ev.now _)
theorem nameLoop_ev (s : List UInt8) (hs : s.length < 1000000) : Ev (fun k => strongroomref05_Name.l0 k ⟨s.toArray⟩ 0) (s.all okB) := by
 refine all_loop s okB (fun k i => strongroomref05_Name.l0 k ⟨s.toArray⟩ i) (fun i c cs hd hc r hr => ?_) (fun i c cs hd hc => ?_) ?_ s 0 rfl (Nat.zero_le _)
 ·obtain ⟨h1, h2, h3⟩ := drop_cons_facts hd
  have hb : bt ⟨s.toArray⟩ (i : Int) = I c := by rw [bt_mk s i h3, getD_of h1]
  rw [okB_okI] at hc
  have hk := okI_true hc
  refine Ev.step (fun k => ?_) hr
  simp only [strongroomref05_Name.l0, mk_size, hb]
  rw [if_pos (by omega), if_pos (by omega), wrap_succ h3 (by omega)]
  generalize strongroomref05_Name.l0 k ⟨s.toArray⟩ ((i + 1 : Nat) : Int) = X
  simp only [I]
  repeat' split
  all_goals first | rfl | (exfalso; omega)
 ·obtain ⟨h1, h2, h3⟩ := drop_cons_facts hd
  have hb : bt ⟨s.toArray⟩ (i : Int) = I c := by rw [bt_mk s i h3, getD_of h1]
  rw [okB_okI] at hc
  have hk := okI_false hc
  refine Ev.step (f := fun _ => some false) (fun k => ?_) (Ev.now _)
  simp only [strongroomref05_Name.l0, mk_size, hb]
  rw [if_pos (by omega), if_pos (by omega), wrap_succ h3 (by omega)]
  generalize strongroomref05_Name.l0 k ⟨s.toArray⟩ ((i + 1 : Nat) : Int) = X
  simp only [I]
  repeat' split
  all_goals first | rfl | (exfalso; omega)
 ·refine Ev.step (f := fun _ => some true) (fun k => ?_) (Ev.now _)
  simp only [strongroomref05_Name.l0, mk_size]
  rw [if_neg (by omega)]
theorem rname_ev (s : List UInt8) (hs : s.length < 1000000) : Ev (fun k => strongroomref05_Name.f k ⟨s.toArray⟩) (nameB s) := by
 simp only [strongroomref05_Name.f, toList_data, mk_size]
 by_cases h0 : s = []
 ·refine ifpos h0 ?_
  subst h0
  exact nameJ_t _
 refine ifneg h0 ?_
 have hl : 1 ≤ s.length := by
  rcases s with _ | ⟨b, s⟩
  ·exact absurd rfl h0
  ·simp
 by_cases h1 : 12 < s.length
 ·refine ifpos (by omega) ?_
  rw [show nameB s = false by rw [nameB, show decide (s.length ≤ 12) = false from decide_eq_false (by omega)]; simp]
  exact nameJ_t _
 refine ifneg (by omega) ?_
 by_cases h2 : s = [46]
 ·refine ifpos h2 ?_
  subst h2
  exact nameJ_t _
 refine ifneg h2 ?_
 by_cases h3 : s = [46, 46]
 ·subst h3
  exact nameJ_t _
 rw [show ((s.toArray).toList == [46, 46]) = false from beq_eq_false_iff_ne.2 h3]
 rw [show nameB s = s.all okB by
  rw [nameB, show decide (1 ≤ s.length) = true from decide_eq_true hl, show decide (s.length ≤ 12) = true from decide_eq_true (by omega), show (s == [46]) = false from beq_eq_false_iff_ne.2 h2, show (s == [46, 46]) = false from beq_eq_false_iff_ne.2 h3]; rfl]
 refine Ev.step (fun k => ?_) (nameLoop_ev s hs)
 simp only [strongroomref05_Name.j0]
 rw [if_neg (by simp)]
theorem cutL_len : ∀ (l : List UInt8), (cutL l).length ≤ l.length + 1
 | [] => by simp [cutL]
 | b :: l => by
  have ih := cutL_len l
  unfold cutL
  split
  ·simp; omega
  ·cases hc : cutL l with
   | nil => simp
   | cons x t => rw [hc] at ih; simp at ih ⊢; omega
theorem cutL_piece : ∀ (l : List UInt8) (x : List UInt8), x ∈ cutL l → x.length ≤ l.length
 | [], x, h => by simp [cutL] at h; simp [h]
 | b :: l, x, h => by
  unfold cutL at h
  split at h
  ·rcases List.mem_cons.1 h with rfl | h
   ·simp
   ·have := cutL_piece l x h; simp; omega
  ·cases hc : cutL l with
   | nil => rw [hc] at h; simp at h; simp [h]
   | cons y t =>
    rw [hc] at h
    rcases List.mem_cons.1 h with rfl | h
    ·have := cutL_piece l y (by rw [hc]; simp); simp; omega
    ·have := cutL_piece l x (by rw [hc]; simp [h]); simp; omega
theorem rgood_ev (s : List UInt8) : Ev (fun k => strongroomref05_Good.f k ⟨s.toArray⟩) (goodB ⟨s.toArray⟩) := by
 rw [goodB_goodL]
 show Ev _ (goodL s)
 simp only [strongroomref05_Good.f, mk_size]
 by_cases h : 32 < s.length
 ·refine ifpos (by omega) ?_
  rw [show goodL s = false by rw [goodL, show decide (s.length ≤ 32) = false from decide_eq_false (by omega)]; simp]
  exact Ev.now _
 refine ifneg (by omega) ?_
 refine Ev.bind (cut_ev s (by omega)) ?_
 have hlen := cutL_len s
 have key : goodL s = (cutL s).all nameB := by
  rw [goodL, show decide (s.length ≤ 32) = true from decide_eq_true (by omega)]
  rcases s with _ | ⟨b, s⟩
  ·rfl
  ·simp
 rw [key]
 refine all_loop (cutL s) nameB (fun k i => strongroomref05_Good.l0 k ((cutL s).map mkB) i) (fun i c cs hd hc r hr => ?_) (fun i c cs hd hc => ?_) ?_ (cutL s) 0 rfl (Nat.zero_le _)
 ·obtain ⟨h1, h2, h3⟩ := drop_cons_facts hd
  have hcl := cutL_piece s c (List.mem_of_getElem? h1)
  have hrd : rdOf ByteArray.empty ((cutL s).map mkB) (i : Int) = mkB c := by simp [rdOf, List.getD_eq_getElem?_getD, h1]
  refine Ev.step (f := fun k => (strongroomref05_Name.f k (mkB c)).bind fun t => if t = true then strongroomref05_Good.l0 k ((cutL s).map mkB) ((i + 1 : Nat) : Int) else some false) (fun k => ?_) ?_
  ·simp only [strongroomref05_Good.l0, List.length_map, hrd]
   rw [if_pos (by omega), if_pos (by omega), wrap_succ h3 (by omega)]
  ·refine Ev.bind (rname_ev c (by omega)) ?_
   exact ifpos hc hr
 ·obtain ⟨h1, h2, h3⟩ := drop_cons_facts hd
  have hcl := cutL_piece s c (List.mem_of_getElem? h1)
  have hrd : rdOf ByteArray.empty ((cutL s).map mkB) (i : Int) = mkB c := by simp [rdOf, List.getD_eq_getElem?_getD, h1]
  refine Ev.step (f := fun k => (strongroomref05_Name.f k (mkB c)).bind fun t => if t = true then strongroomref05_Good.l0 k ((cutL s).map mkB) ((i + 1 : Nat) : Int) else some false) (fun k => ?_) ?_
  ·simp only [strongroomref05_Good.l0, List.length_map, hrd]
   rw [if_pos (by omega), if_pos (by omega), wrap_succ h3 (by omega)]
  ·refine Ev.bind (rname_ev c (by omega)) ?_
   exact ifneg (by rw [hc]; simp) (Ev.now _)
 ·refine Ev.step (f := fun _ => some true) (fun k => ?_) (Ev.now _)
  simp only [strongroomref05_Good.l0, List.length_map]
  rw [if_neg (by omega)]
theorem rgood_ev' (p : ByteArray) : Ev (fun k => strongroomref05_Good.f k p) (goodB p) := rgood_ev p.data.toList
theorem bytesN_map (l : List UInt8) : bytesN (l.map I) = l := by
 simp [bytesN, I, Function.comp_def]
theorem okBytes_map (l : List UInt8) : okBytes (l.map I) = true := by
 simp only [okBytes, List.all_map, List.all_eq_true]
 intro x _
 have := x.toNat_lt
 simp [I]; omega
theorem shaSum_is (l : List UInt8) (h0 : 0 < l.length) (h1 : l.length ≤ 1000000) : shaSumF (l.map I) = some ⟨(dig l).toArray⟩ := by
 unfold shaSumF
 rw [if_pos ⟨by simpa using h0, by simp; omega, okBytes_map l⟩, bytesN_map]
/-- may a leaf be -/
def goodX (p s : ByteArray) : Bool := goodB p && ((s.size : Int) == 32)
theorem good_is (p s : ByteArray) : merkle_good.f p s = some (goodX p s) := by
 simp only [merkle_good.f, path_Good.f, Option.bind_some, goodX]
 cases goodB p <;> simp
abbrev SL := S44
abbrev xE : SL := ⟨⟨#[97]⟩, ⟨(List.replicate 32 (0 : UInt8)).toArray⟩⟩
theorem zeros_is : strOfNums (List.replicate 32 (0 : Int)) = ⟨(List.replicate 32 (0 : UInt8)).toArray⟩ := by
 have : (List.replicate 32 (0 : Int)) = (List.replicate 32 (0 : UInt8)).map I := by simp [I]
 rw [this, nums_mk]
theorem xE_good : goodX xE.f0 xE.f1 = true := by
 have h : goodB (⟨#[97]⟩ : ByteArray) = true := by decide +kernel
 simp only [goodX, h]
 decide
theorem check_nil : Ev (fun k => merkle_Check.f k []) 0 := by
 simp only [merkle_Check.f]
 refine ifneg (by simp) ?_
 refine Ev.step (f := fun _ => some 0) (fun k => ?_) (Ev.now _)
 simp only [merkle_Check.l0]
 rw [if_neg (by simp)]
theorem check_one : Ev (fun k => merkle_Check.f k [xE]) 0 := by
 simp only [merkle_Check.f]
 refine ifneg (by simp) ?_
 refine Ev.step (f := fun k => merkle_Check.l0 k [xE] [xE] 1 1) (fun k => ?_) (Ev.step (f := fun _ => some 0) (fun k => ?_) (Ev.now _))
 ·simp only [merkle_Check.l0]
  rw [if_pos (by simp), if_pos (by omega), if_pos (by simp), show rd_T44 [xE] 0 = xE from rfl, good_is, xE_good]
  simp only [Option.bind_some]
  rw [if_pos trivial, if_neg (by omega), show wrap64 ((0 : Int) + 1) = 1 by decide +kernel]
  rfl
 ·simp only [merkle_Check.l0]
  rw [if_neg (by omega)]
theorem none_is : merkle_none.f = some ⟨(dig [2]).toArray⟩ := by
 simp only [merkle_none.f, sha_Sum.f]
 have : ([2] : List Int) = ([2] : List UInt8).map I := rfl
 rw [this, shaSum_is [2] (by simp) (by simp)]
 rfl
theorem dig_nil : Ev (fun k => merkle_Digest.f k []) ⟨(dig [2]).toArray⟩ := by
 simp only [merkle_Digest.f]
 refine Ev.bind check_nil ?_
 refine ifpos rfl ?_
 refine Ev.bind (a := ⟨(dig [2]).toArray⟩) ?_ (Ev.now _)
 refine Ev.step (f := fun _ => some ⟨(dig [2]).toArray⟩) (fun k => ?_) (Ev.now _)
 simp only [merkle_digest.f]
 rw [if_pos (by simp), none_is]
 rfl
theorem prove_one : Ev (fun k => merkle_Prove.f k [xE] 0) ([], 0) := by
 simp only [merkle_Prove.f]
 refine Ev.bind check_one ?_
 refine ifpos rfl ?_
 refine ifneg (by omega) ?_
 refine ifneg (by simp) ?_
 refine Ev.bind (a := []) ?_ (Ev.now _)
 refine Ev.step (f := fun _ => some []) (fun k => ?_) (Ev.now _)
 simp only [merkle_prove.f]
 rw [if_pos (by simp)]
theorem diff_one : Ev (fun k => merkle_Diff.f k [] [xE]) [⟨xE.f0, ⟨#[]⟩, xE.f1⟩] := by
 simp only [merkle_Diff.f]
 refine Ev.bind check_nil ?_
 refine ifpos rfl ?_
 refine Ev.bind check_one ?_
 refine Ev.step (f := fun k => merkle_Diff.l0 k [] [xE] []) (fun k => ?_) (Ev.step (f := fun k => merkle_Diff.l0 k [] [] [⟨xE.f0, ⟨#[]⟩, xE.f1⟩]) (fun k => ?_) (Ev.step (f := fun _ => some [⟨xE.f0, ⟨#[]⟩, xE.f1⟩]) (fun k => ?_) (Ev.now _)))
 ·simp only [merkle_Diff.j0]
  rw [if_neg (by decide)]
 ·simp only [merkle_Diff.l0]
  rw [if_neg (by simp), if_pos (by simp), if_neg (by simp), if_pos (by simp), if_pos (by simp), if_pos (by simp), if_pos (by simp)]
  rfl
 ·simp only [merkle_Diff.l0]
  rw [if_neg (by simp), if_neg (by simp)]
theorem lives_ev : Ev (fun k => strongroomlaw20_lives.f k) true := by
 simp only [strongroomlaw20_lives.f, Option.bind_some, zeros_is]
 refine ifpos (by omega) ?_
 refine Ev.bind prove_one ?_
 refine Ev.bind diff_one ?_
 refine ifpos rfl ?_
 refine ifpos rfl ?_
 refine ifpos rfl ?_
 refine ifpos (by simp) ?_
 refine ifpos (by simp only [toList_data]; decide) ?_
 refine Ev.bind dig_nil ?_
 rw [show (((⟨(dig [2]).toArray⟩ : ByteArray).size : Int) == 32) = true by rw [mk_size, dig_length]; rfl]
 exact Ev.now _
theorem lives_ev' : Ev (fun k => (strongroomlaw20_lives.f k).bind fun t => some t) true := Ev.bind lives_ev (Ev.now _)
theorem rgoodX_ev (p s : ByteArray) : Ev (fun k => strongroomref20_Good.f k p s) (goodX p s) := by
 simp only [strongroomref20_Good.f, goodX]
 refine Ev.bind (rgood_ev' p) ?_
 cases goodB p
 ·exact ifneg (by simp) (Ev.now _)
 ·exact ifpos rfl (Ev.now _)
/-- are leaves so few and small that they are gone through -/
def smallX (l : List S39) : Bool := decide (l.length ≤ 60) && l.all fun x => decide (x.f0.size ≤ 200) && decide (x.f1.size ≤ 200)
theorem small_ev (l : List S39) : Ev (fun k => strongroomlaw20_small.f k l) (smallX l) := by
 simp only [strongroomlaw20_small.f, smallX]
 by_cases hl : l.length ≤ 60
 ·refine ifneg (by omega) ?_
  rw [decide_eq_true hl, Bool.true_and]
  refine all_loop l (fun x => decide (x.f0.size ≤ 200) && decide (x.f1.size ≤ 200)) (fun k i => strongroomlaw20_small.l0 k l i) (fun i c cs hd hc r hr => ?_) (fun i c cs hd hc => ?_) ?_ l 0 rfl (Nat.zero_le _)
  ·obtain ⟨h1, h2, h3⟩ := drop_cons_facts hd
   have hr2 : rd_T39 l (i : Int) = c := by simp [rd_T39, List.getD_eq_getElem?_getD, h1]
   simp only [Bool.and_eq_true, decide_eq_true_eq] at hc
   refine Ev.step (fun k => ?_) hr
   simp only [strongroomlaw20_small.l0, hr2]
   rw [if_pos (by omega), if_pos (by omega), if_neg (by omega), if_neg (by omega), wrap_succ h3 (by omega)]
  ·obtain ⟨h1, h2, h3⟩ := drop_cons_facts hd
   have hr2 : rd_T39 l (i : Int) = c := by simp [rd_T39, List.getD_eq_getElem?_getD, h1]
   refine Ev.step (f := fun _ => some false) (fun k => ?_) (Ev.now _)
   simp only [strongroomlaw20_small.l0, hr2]
   rw [if_pos (by omega), if_pos (by omega)]
   by_cases g1 : c.f0.size ≤ 200
   ·rw [if_neg (by omega)]
    by_cases g2 : c.f1.size ≤ 200
    ·simp [g1, g2] at hc
    ·rw [if_pos (by omega)]
   ·rw [if_pos (by omega)]
  ·refine Ev.step (f := fun _ => some true) (fun k => ?_) (Ev.now _)
   simp only [strongroomlaw20_small.l0]
   rw [if_neg (by omega)]
 ·refine ifpos (by omega) ?_
  rw [decide_eq_false hl, Bool.false_and]
  exact Ev.now _
theorem all_loopG {α β : Type} (l : List α) (P : α → Bool) (rt rf : β) (F : Nat → Int → Option β)
  (ht : ∀ i c cs, l.drop i = c :: cs → P c = true → ∀ r, Ev (fun k => F k ((i + 1 : Nat) : Int)) r → Ev (fun k => F k (i : Int)) r)
  (hf : ∀ i c cs, l.drop i = c :: cs → P c = false → Ev (fun k => F k (i : Int)) rf)
  (he : Ev (fun k => F k ((l.length : Nat) : Int)) rt) : ∀ (cs : List α) (i : Nat), l.drop i = cs → i ≤ l.length → Ev (fun k => F k (i : Int)) (if cs.all P = true then rt else rf) := by
 intro cs
 induction cs with
 | nil =>
  intro i hd hi
  rw [drop_nil_len hd hi]
  exact he
 | cons c cs ih =>
  intro i hd hi
  obtain ⟨_, hd2, hlt⟩ := drop_cons_facts hd
  cases hc : P c
  ·rw [List.all_cons, hc, Bool.false_and, if_neg (by simp)]; exact hf i c cs hd hc
  ·rw [List.all_cons, hc, Bool.true_and]; exact ht i c cs hd hc _ (ih (i + 1) hd2 hlt)
abbrev toM (x : S39) : S44 := ⟨x.f0, x.f1⟩
abbrev toP9 (x : S39) : List UInt8 × List UInt8 := (x.f0.data.toList, x.f1.data.toList)
theorem rd39_of (l : List S39) (i : Nat) (h : i < l.length) : rd_T39 l (i : Int) = l[i] := by simp [rd_T39, List.getD_eq_getElem?_getD, h]
theorem rd44_of (l : List S44) (i : Nat) (h : i < l.length) : rd_T44 l (i : Int) = l[i] := by simp [rd_T44, List.getD_eq_getElem?_getD, h]
theorem mine_ev (l : List S39) (hl : l.length < 1000000) : Ev (fun k => strongroomlaw20_mine.f k l) (l.map toM) := by
 have loop : ∀ (d i : Nat), i + d = l.length → Ev (fun k => strongroomlaw20_mine.l0 k l ((l.take i).map toM) (i : Int)) (l.map toM) := by
  intro d
  induction d with
  | zero =>
   intro i hi
   refine Ev.step (f := fun _ => some (l.map toM)) (fun k => ?_) (Ev.now _)
   simp only [strongroomlaw20_mine.l0]
   rw [if_neg (by omega), List.take_of_length_le (by omega)]
  | succ d ih =>
   intro i hi
   have hlt : i < l.length := by omega
   refine Ev.step (fun k => ?_) (ih (i + 1) (by omega))
   simp only [strongroomlaw20_mine.l0, rd39_of l i hlt]
   rw [if_pos (by omega), if_pos (by omega), if_pos (by simp; omega), wrap_succ hlt (by omega), List.take_add_one, List.getElem?_eq_getElem hlt, List.map_append]
   rfl
 exact loop l.length 0 (by omega)
/-- may a leaf stand at its place -/
def okAt (l : List S39) (i : Nat) : Bool := goodX (rd_T39 l (i : Int)).f0 (rd_T39 l (i : Int)).f1 && (decide (i = 0) || Op.bytesLess (rd_T39 l ((i - 1 : Nat) : Int)).f0.toList (rd_T39 l (i : Int)).f0.toList)
def listB (l : List S39) : Bool := (List.range l.length).all (okAt l)
theorem range_drop {n i c : Nat} {cs : List Nat} (h : (List.range n).drop i = c :: cs) : c = i ∧ i < n := by
 obtain ⟨h1, _, h3⟩ := drop_cons_facts h
 rw [List.length_range] at h3
 rw [List.getElem?_range h3] at h1
 exact ⟨(Option.some.inj h1).symm, h3⟩
theorem rwhy_ev (l : List S39) (hl : l.length ≤ 1024) : Ev (fun k => strongroomref20_Why.f k l) (if listB l = true then 0 else 1) := by
 simp only [strongroomref20_Why.f]
 refine ifneg (by omega) ?_
 have key := all_loopG (List.range l.length) (okAt l) (0 : Int) 1 (fun k i => strongroomref20_Why.l0 k l i) (fun i c cs hd hc r hr => ?_) (fun i c cs hd hc => ?_) ?_ (List.range l.length) 0 rfl (Nat.zero_le _)
 ·exact key
 ·obtain ⟨rfl, hi⟩ := range_drop hd
  simp only [okAt, Bool.and_eq_true, Bool.or_eq_true, decide_eq_true_eq] at hc
  refine Ev.step (f := fun k => (strongroomref20_Good.f k (rd_T39 l (c : Int)).f0 (rd_T39 l (c : Int)).f1).bind fun t => if t = true then strongroomref20_Why.l0 k l ((c + 1 : Nat) : Int) else some 1) (fun k => ?_) ?_
  ·simp only [strongroomref20_Why.l0]
   rw [if_pos (by omega), if_pos (by omega), wrap_succ hi (by omega)]
   by_cases h0 : c = 0
   ·simp only [if_neg (show ¬ (c : Int) > 0 by omega)]
   ·simp only [if_pos (show (c : Int) > 0 by omega), show wrap64 ((c : Int) - 1) = ((c - 1 : Nat) : Int) by unfold wrap64; omega]
    simp only [if_pos (show (0 : Int) ≤ ((c - 1 : Nat) : Int) by omega), if_pos (show ((c - 1 : Nat) : Int) < (l.length : Int) by omega), if_pos (hc.2.resolve_left h0)]
  ·exact Ev.bind (rgoodX_ev _ _) (ifpos hc.1 hr)
 ·obtain ⟨rfl, hi⟩ := range_drop hd
  by_cases hg : goodX (rd_T39 l (c : Int)).f0 (rd_T39 l (c : Int)).f1 = true
  ·simp only [okAt, hg, Bool.true_and, Bool.or_eq_false_iff, decide_eq_false_iff_not] at hc
   refine Ev.step (f := fun k => (strongroomref20_Good.f k (rd_T39 l (c : Int)).f0 (rd_T39 l (c : Int)).f1).bind fun t => if t = true then some 1 else some 1) (fun k => ?_) (Ev.bind (rgoodX_ev _ _) (ifpos hg (Ev.now _)))
   simp only [strongroomref20_Why.l0]
   rw [if_pos (by omega), if_pos (by omega)]
   have h0 := hc.1
   simp only [if_pos (show (c : Int) > 0 by omega), show wrap64 ((c : Int) - 1) = ((c - 1 : Nat) : Int) by unfold wrap64; omega]
   simp only [if_pos (show (0 : Int) ≤ ((c - 1 : Nat) : Int) by omega), if_pos (show ((c - 1 : Nat) : Int) < (l.length : Int) by omega), hc.2, Bool.false_eq_true, if_false]
  ·refine Ev.step (fun k => ?_) (Ev.bind (f := fun k t => if t = true then (if (c : Int) > 0 then (if 0 ≤ (wrap64 ((c : Int) - 1)) then (if (wrap64 ((c : Int) - 1)) < (l.length : Int) then (if ((Op.bytesLess (((rd_T39 l (wrap64 ((c : Int) - 1))).f0).toList) (((rd_T39 l (c : Int)).f0).toList)) = true) then (strongroomref20_Why.l0 k l (wrap64 ((c : Int) + 1))) else (some 1)) else (none)) else (none)) else (strongroomref20_Why.l0 k l (wrap64 ((c : Int) + 1)))) else some 1) (rgoodX_ev _ _) (ifneg hg (Ev.now _)))
   simp only [strongroomref20_Why.l0]
   rw [if_pos (by omega), if_pos (by omega)]
 ·refine Ev.step (f := fun _ => some 0) (fun k => ?_) (Ev.now _)
  simp only [strongroomref20_Why.l0]
  rw [if_neg (by rw [List.length_range]; omega)]
theorem rd_mine (l : List S39) (i : Nat) (h : i < l.length) : rd_T44 (l.map toM) (i : Int) = toM (rd_T39 l (i : Int)) := by
 rw [rd44_of _ i (by simpa using h), rd39_of l i h]; simp
theorem check_ev (l : List S39) (hl : l.length ≤ 1024) : Ev (fun k => merkle_Check.f k (l.map toM)) (if listB l = true then 0 else 1) := by
 simp only [merkle_Check.f, List.length_map]
 refine ifneg (by omega) ?_
 have key := all_loopG (List.range l.length) (okAt l) (0 : Int) 1 (fun k i => merkle_Check.l0 k (l.map toM) (l.map toM) (l.length : Int) i) (fun i c cs hd hc r hr => ?_) (fun i c cs hd hc => ?_) ?_ (List.range l.length) 0 rfl (Nat.zero_le _)
 ·exact key
 ·obtain ⟨rfl, hi⟩ := range_drop hd
  simp only [okAt, Bool.and_eq_true, Bool.or_eq_true, decide_eq_true_eq] at hc
  refine Ev.step (fun k => ?_) hr
  simp only [merkle_Check.l0, List.length_map, rd_mine l c hi, good_is, Option.bind_some]
  rw [if_pos (by omega), if_pos (by omega), if_pos (by omega), if_pos hc.1, wrap_succ hi (by omega)]
  by_cases h0 : c = 0
  ·rw [if_neg (show ¬ (c : Int) > 0 by omega)]
  ·rw [if_pos (show (c : Int) > 0 by omega), show wrap64 ((c : Int) - 1) = ((c - 1 : Nat) : Int) by unfold wrap64; omega, rd_mine l (c - 1) (by omega), if_pos (by omega), if_pos (by omega), if_pos (hc.2.resolve_left h0)]
 ·obtain ⟨rfl, hi⟩ := range_drop hd
  refine Ev.step (f := fun _ => some 1) (fun k => ?_) (Ev.now _)
  simp only [merkle_Check.l0, List.length_map, rd_mine l c hi, good_is, Option.bind_some]
  rw [if_pos (by omega), if_pos (by omega), if_pos (by omega)]
  by_cases hg : goodX (rd_T39 l (c : Int)).f0 (rd_T39 l (c : Int)).f1 = true
  ·simp only [okAt, hg, Bool.true_and, Bool.or_eq_false_iff, decide_eq_false_iff_not] at hc
   have h0 := hc.1
   rw [if_pos hg, if_pos (show (c : Int) > 0 by omega), show wrap64 ((c : Int) - 1) = ((c - 1 : Nat) : Int) by unfold wrap64; omega, rd_mine l (c - 1) (by omega), if_pos (by omega), if_pos (by omega), if_neg (by rw [hc.2]; simp)]
  ·rw [if_neg hg]
 ·refine Ev.step (f := fun _ => some 0) (fun k => ?_) (Ev.now _)
  simp only [merkle_Check.l0]
  rw [if_neg (by rw [List.length_range]; omega)]
/-- are the texts of leaves short -/
def tinyL (l : List (List UInt8 × List UInt8)) : Prop := ∀ x ∈ l, x.1.length ≤ 200 ∧ x.2.length ≤ 200
theorem small_facts {l : List S39} (h : smallX l = true) : l.length ≤ 60 ∧ tinyL (l.map toP9) := by
 simp only [smallX, Bool.and_eq_true, decide_eq_true_eq, List.all_eq_true] at h
 refine ⟨h.1, fun x hx => ?_⟩
 obtain ⟨y, hy, rfl⟩ := List.mem_map.1 hx
 exact h.2 y hy
theorem list_ev (l : List S39) (hl : l.length ≤ 1024) : Ev (fun k => strongroomlaw20_list.f k l) (listB l) := by
 simp only [strongroomlaw20_list.f]
 refine Ev.bind (rwhy_ev l hl) ?_
 cases listB l
 ·exact Ev.now _
 ·exact Ev.now _
/-- the order of texts -/
def ltB (a b : ByteArray) : Bool := Op.bytesLess a.toList b.toList
theorem ltB_iff (a b : ByteArray) : ltB a b = true ↔ a.data.toList < b.data.toList := by
 rw [ltB, bytesLess_eq, toList_data, toList_data]; simp
theorem ltB_irr (a : ByteArray) : ltB a a = false := by
 rw [Bool.eq_false_iff, ne_eq, ltB_iff]
 exact List.lt_irrefl _
theorem ltB_trans {a b c : ByteArray} (h1 : ltB a b = true) (h2 : ltB b c = true) : ltB a c = true := by
 rw [ltB_iff] at *
 exact List.lt_trans h1 h2
theorem ext_toList {a b : ByteArray} (h : a.toList = b.toList) : a = b := by
 rw [toList_data, toList_data] at h
 cases a; cases b
 congr 1
 exact Array.toList_inj.1 h
theorem ltB_tri {a b : ByteArray} (h1 : ltB a b = false) (h2 : ltB b a = false) : a = b := by
 rw [Bool.eq_false_iff, ne_eq, ltB_iff, List.not_lt] at h1 h2
 exact ext_toList (by rw [toList_data, toList_data]; exact List.le_antisymm h2 h1)
theorem ltB_ne {a b : ByteArray} (h : ltB a b = true) : ¬ a.toList = b.toList := by
 intro e
 rw [ext_toList e, ltB_irr] at h
 cases h
theorem ltB_asymm {a b : ByteArray} (h : ltB a b = true) : ltB b a = false := by
 cases g : ltB b a
 ·rfl
 ·have := ltB_trans h g
  rw [ltB_irr] at this; cases this
/-- leaves in order -/
def srt (l : List S39) : Prop := l.Pairwise fun x y => ltB x.f0 y.f0 = true
theorem listB_adj {l : List S39} (h : listB l = true) (i : Nat) (hi : i + 1 < l.length) : ltB (l[i]'(by omega)).f0 (l[i + 1]).f0 = true := by
 have := List.all_eq_true.1 h (i + 1) (List.mem_range.2 hi)
 simp only [okAt, Bool.and_eq_true, Bool.or_eq_true, decide_eq_true_eq] at this
 have h2 := this.2.resolve_left (by omega)
 rw [rd39_of l (i + 1) hi, show i + 1 - 1 = i by omega, rd39_of l i (by omega)] at h2
 exact h2
theorem listB_lt {l : List S39} (h : listB l = true) : ∀ (d i : Nat) (hi : i + d + 1 < l.length), ltB (l[i]'(by omega)).f0 (l[i + d + 1]).f0 = true
 | 0, i, hi => listB_adj h i hi
 | d + 1, i, hi => ltB_trans (listB_lt h d i (by omega)) (listB_adj h (i + d + 1) (by omega))
theorem listB_srt {l : List S39} (h : listB l = true) : srt l := by
 rw [srt, List.pairwise_iff_getElem]
 intro i j hi hj hij
 obtain ⟨d, rfl⟩ : ∃ d, j = i + d + 1 := ⟨j - i - 1, by omega⟩
 exact listB_lt h d i hj
/-- how many paths are less -/
def cnt (l : List S39) (p : ByteArray) : Nat := l.countP fun x => ltB x.f0 p
theorem cnt_le (l : List S39) (p : ByteArray) : cnt l p ≤ l.length := List.countP_le_length
theorem cnt_split : ∀ (l : List S39) (p : ByteArray), srt l → (∀ x ∈ l.take (cnt l p), ltB x.f0 p = true) ∧ (∀ x ∈ l.drop (cnt l p), ltB x.f0 p = false)
 | [], p, _ => by simp
 | x :: t, p, h => by
  have ht : srt t := List.Pairwise.of_cons h
  obtain ⟨h1, h2⟩ := cnt_split t p ht
  by_cases hx : ltB x.f0 p = true
  ·rw [show cnt (x :: t) p = cnt t p + 1 by simp [cnt, hx], List.take_succ_cons, List.drop_succ_cons]
   refine ⟨fun y hy => ?_, h2⟩
   rcases List.mem_cons.1 hy with rfl | hy
   ·exact hx
   ·exact h1 y hy
  ·have hall : ∀ y ∈ t, ltB y.f0 p = false := fun y hy => by
    cases g : ltB y.f0 p
    ·rfl
    ·exact absurd (ltB_trans (List.rel_of_pairwise_cons h hy) g) hx
   have h0 : cnt (x :: t) p = 0 := by
    rw [cnt, List.countP_eq_zero]
    intro y hy
    rcases List.mem_cons.1 hy with rfl | hy
    ·exact hx
    ·rw [hall y hy]; simp
   rw [h0]
   refine ⟨fun y hy => by simp at hy, fun y hy => ?_⟩
   rw [List.drop_zero] at hy
   rcases List.mem_cons.1 hy with rfl | hy
   ·simpa using hx
   ·exact hall y hy
/-- where a path stands, told place by place -/
def fnd : List S39 → ByteArray → Nat → Nat → Nat × Bool
 | [], _, _, n => (n, false)
 | x :: t, p, i, n => if x.f0.toList = p.toList then (i, true) else if ltB x.f0 p = true then fnd t p (i + 1) (n + 1) else fnd t p (i + 1) n
theorem fnd_app (p : ByteArray) : ∀ (A l : List S39) (i n : Nat), (∀ x ∈ A, ltB x.f0 p = true) → fnd (A ++ l) p i n = fnd l p (i + A.length) (n + A.length)
 | [], l, i, n, _ => by simp
 | x :: A, l, i, n, h => by
  have hx := h x (by simp)
  rw [List.cons_append, fnd, if_neg (ltB_ne hx), if_pos hx, fnd_app p A l _ _ (fun y hy => h y (by simp [hy])), List.length_cons]
  congr 1 <;> omega
theorem fnd_gt (p : ByteArray) : ∀ (l : List S39) (i n : Nat), (∀ x ∈ l, ltB p x.f0 = true) → fnd l p i n = (n, false)
 | [], _, _, _ => rfl
 | x :: t, i, n, h => by
  have hx := h x (by simp)
  rw [fnd, if_neg (fun e => ltB_ne hx e.symm), if_neg (by rw [ltB_asymm hx]; simp)]
  exact fnd_gt p t _ n (fun y hy => h y (by simp [hy]))
theorem fnd_le (p : ByteArray) : ∀ (l : List S39) (i n : Nat), n ≤ i → (fnd l p i n).1 ≤ i + l.length ∧ ((fnd l p i n).2 = true → (fnd l p i n).1 < i + l.length)
 | [], i, n, h => by simp [fnd]; omega
 | x :: t, i, n, h => by
  rw [fnd]
  split
  ·simp
  ·split
   ·have := fnd_le p t (i + 1) (n + 1) (by omega)
    rw [List.length_cons]
    refine ⟨by omega, fun g => by have := this.2 g; omega⟩
   ·have := fnd_le p t (i + 1) n (by omega)
    rw [List.length_cons]
    refine ⟨by omega, fun g => by have := this.2 g; omega⟩
/-- the digest of a path in a list -/
def sumS (l : List S39) (p : ByteArray) : ByteArray := if (fnd l p 0 0).2 = true then (l.getD (fnd l p 0 0).1 z39).f1 else ⟨#[]⟩
/-- a list in order at a path: what is less, and what isn't; whether the path is there -/
theorem at_path {l : List S39} (h : srt l) (p : ByteArray) : (∀ x ∈ l.take (cnt l p), ltB x.f0 p = true) ∧
  ((∃ x t, l.drop (cnt l p) = x :: t ∧ x.f0 = p ∧ ∀ y ∈ t, ltB p y.f0 = true) ∨ (∀ y ∈ l.drop (cnt l p), ltB p y.f0 = true)) := by
 obtain ⟨h1, h2⟩ := cnt_split l p h
 refine ⟨h1, ?_⟩
 have hs : srt (l.drop (cnt l p)) := List.Pairwise.sublist (List.drop_sublist _ _) h
 generalize l.drop (cnt l p) = m at h2 hs
 cases m with
 | nil => exact .inr (by simp)
 | cons x t =>
  have hx := h2 x (by simp)
  cases g : ltB p x.f0
  ·have e := ltB_tri hx g
   refine .inl ⟨x, t, rfl, e, fun y hy => ?_⟩
   rw [← e]
   exact List.rel_of_pairwise_cons hs hy
  ·refine .inr (fun y hy => ?_)
   rcases List.mem_cons.1 hy with rfl | hy
   ·exact g
   ·exact ltB_trans g (List.rel_of_pairwise_cons hs hy)
/-- does a list begin with a path -/
def hdB : List S39 → ByteArray → Bool
 | [], _ => false
 | x :: _, p => x.f0.toList == p.toList
theorem hdB_none {l : List S39} {p : ByteArray} (h : ∀ y ∈ l, ltB p y.f0 = true) : hdB l p = false := by
 cases l with
 | nil => rfl
 | cons x t => exact beq_eq_false_iff_ne.2 (fun e => ltB_ne (h x (by simp)) e.symm)
theorem fnd_srt {l : List S39} (h : srt l) (p : ByteArray) (A : List S39) (hA : ∀ x ∈ A, ltB x.f0 p = true) :
  fnd (A ++ l) p 0 0 = (A.length + cnt l p, hdB (l.drop (cnt l p)) p) := by
 obtain ⟨h1, h2⟩ := at_path h p
 have hc := cnt_le l p
 have e : A ++ l = (A ++ l.take (cnt l p)) ++ l.drop (cnt l p) := by rw [List.append_assoc, List.take_append_drop]
 have hB : ∀ x ∈ A ++ l.take (cnt l p), ltB x.f0 p = true := fun x hx => by
  rcases List.mem_append.1 hx with hx | hx
  ·exact hA x hx
  ·exact h1 x hx
 have hl : (A ++ l.take (cnt l p)).length = A.length + cnt l p := by rw [List.length_append, List.length_take]; omega
 rw [e, fnd_app p _ _ _ _ hB, hl]
 rcases h2 with ⟨x, t, g1, g2, _⟩ | g
 ·rw [g1, fnd, if_pos (by rw [g2])]
  simp [hdB, g2]
 ·rw [fnd_gt p _ _ _ g, hdB_none g, Nat.zero_add]
theorem sumS_app {l : List S39} (h : srt l) (p : ByteArray) (A : List S39) (hA : ∀ x ∈ A, ltB x.f0 p = true) : sumS (A ++ l) p = sumS l p := by
 have e1 := fnd_srt h p A hA
 have e2 := fnd_srt h p [] (by simp)
 rw [List.nil_append, List.length_nil, Nat.zero_add] at e2
 rw [sumS, sumS, e1, e2]
 simp only [List.getD_eq_getElem?_getD]
 rw [List.getElem?_append_right (by omega), show A.length + cnt l p - A.length = cnt l p by omega]
theorem sumS_there {l : List S39} (h : srt l) (p : ByteArray) {x : S39} {t : List S39} (hd : l.drop (cnt l p) = x :: t) (e : x.f0 = p) : sumS l p = x.f1 := by
 have e2 := fnd_srt h p [] (by simp)
 rw [List.nil_append, List.length_nil, Nat.zero_add] at e2
 rw [sumS, e2, if_pos (show hdB (l.drop (cnt l p)) p = true by rw [hd]; exact beq_iff_eq.2 (by rw [e]))]
 have := congrArg (·[0]?) hd
 simp only [List.getElem?_drop, Nat.add_zero, List.getElem?_cons_zero] at this
 rw [List.getD_eq_getElem?_getD, this]; rfl
theorem sumS_none {l : List S39} (h : srt l) (p : ByteArray) (hd : ∀ y ∈ l.drop (cnt l p), ltB p y.f0 = true) : sumS l p = ⟨#[]⟩ := by
 have e2 := fnd_srt h p [] (by simp)
 rw [List.nil_append, List.length_nil, Nat.zero_add] at e2
 rw [sumS, e2, hdB_none hd, if_neg (by simp)]
abbrev toC (x : S67) : S66 := ⟨x.f0, x.f1, x.f2⟩
theorem rd67_of (l : List S67) (i : Nat) (h : i < l.length) : rd_T67 l (i : Int) = l[i] := by simp [rd_T67, List.getD_eq_getElem?_getD, h]
theorem rd66_of (l : List S66) (i : Nat) (h : i < l.length) : rd_T66 l (i : Int) = l[i] := by simp [rd_T66, List.getD_eq_getElem?_getD, h]
theorem rd66_C (l : List S67) (i : Nat) (h : i < l.length) : rd_T66 (l.map toC) (i : Int) = toC l[i] := by
 rw [rd66_of _ i (by simpa using h)]; simp
/-- may a text stand for a digest -/
def sumB (s : ByteArray) : Bool := s.toList == [] || decide (s.size = 32)
theorem sum_is (s : ByteArray) : merkle_sum.f s = some (sumB s) := by
 simp only [merkle_sum.f, sumB]
 by_cases h : s.toList = []
 ·rw [if_pos h, h]; rfl
 ·rw [if_neg h, beq_eq_false_iff_ne.2 h, Bool.false_or]
  congr 1
  by_cases g : s.size = 32
  ·simp [g]
  ·rw [decide_eq_false g, beq_eq_false_iff_ne]; omega
/-- may a change be; may it stand at its place -/
def chgB (x : S67) : Bool := !(x.f1.toList == x.f2.toList) && (sumB x.f1 && sumB x.f2)
def okC (l : List S67) (i : Nat) : Bool := goodB (rd_T67 l (i : Int)).f0 && ((decide (i = 0) || ltB (rd_T67 l ((i - 1 : Nat) : Int)).f0 (rd_T67 l (i : Int)).f0) && chgB (rd_T67 l (i : Int)))
def chgsB (l : List S67) : Bool := (List.range l.length).all (okC l)
theorem rd_chg (l : List S67) (i : Nat) (h : i < l.length) : rd_T66 (l.map toC) (i : Int) = toC (rd_T67 l (i : Int)) := by
 rw [rd66_C l i h, rd67_of l i h]
/-- the program's look at a change, and the reference's -/
theorem papp_j (k : Nat) (l : List S44) (a b : List S66) (n i : Int) (x : S67) : (if x.f1.toList = x.f2.toList then merkle_Apply.j1 k l a b n i true else ((merkle_sum.f x.f1).bind fun t => if t = true then ((merkle_sum.f x.f2).bind fun u => merkle_Apply.j1 k l a b n i (!u)) else merkle_Apply.j1 k l a b n i true)) = merkle_Apply.j1 k l a b n i (!chgB x) := by
 simp only [sum_is, Option.bind_some]
 by_cases h : x.f1.toList = x.f2.toList
 ·rw [if_pos h, show chgB x = false by simp [chgB, h]]; rfl
 ·rw [if_neg h, show chgB x = (sumB x.f1 && sumB x.f2) by simp [chgB, h]]
  cases sumB x.f1 <;> cases sumB x.f2 <;> simp
theorem rapp_j (k : Nat) (l : List S39) (a : List S67) (i : Int) (x : S67) : (if x.f1.toList = x.f2.toList then strongroomref20_Apply.j1 k l a i true else (if x.f1.toList = ([] : List UInt8) then (if x.f2.toList = ([] : List UInt8) then strongroomref20_Apply.j1 k l a i false else strongroomref20_Apply.j1 k l a i ((x.f2.size : Int) != 32)) else (if (x.f1.size : Int) = 32 then (if x.f2.toList = ([] : List UInt8) then strongroomref20_Apply.j1 k l a i false else strongroomref20_Apply.j1 k l a i ((x.f2.size : Int) != 32)) else strongroomref20_Apply.j1 k l a i true))) = strongroomref20_Apply.j1 k l a i (!chgB x) := by
 have e : ((x.f1.size : Int) = 32) = (x.f1.size = 32) := propext (by omega)
 have e2 : ((x.f2.size : Int) != 32) = !decide (x.f2.size = 32) := by
  rw [bne, Bool.not_inj_iff, Bool.eq_iff_iff, beq_iff_eq, decide_eq_true_eq]; omega
 simp only [e, e2]
 by_cases h : x.f1.toList = x.f2.toList
 ·rw [if_pos h, show chgB x = false by simp [chgB, h]]; rfl
 ·rw [if_neg h, show chgB x = (sumB x.f1 && sumB x.f2) by simp [chgB, h], sumB, sumB]
  have f0 : ∀ s : List UInt8, ¬ s = [] → s.isEmpty = false := fun s h => by cases s <;> simp_all
  by_cases a : x.f1.toList = [] <;> by_cases b : x.f2.toList = [] <;> by_cases c : x.f1.size = 32 <;> by_cases d : x.f2.size = 32 <;> first | (simp [a, b, c, d]; done) | (simp [a, b, c, d, f0 _ b]; done) | (simp [a, b, c, d, f0 _ a]; done) | (simp [a, b, c, d, f0 _ a, f0 _ b]; done)
theorem pchg_ev (l : List S44) (c : List S67) (hc : c.length < 1000000) (r : List S44 × Int) (hr : Ev (fun k => merkle_Apply.l1 k l [] (c.map toC) (c.length : Int) 0) r) :
  Ev (fun k => merkle_Apply.l0 k l (c.map toC) (c.map toC) (c.length : Int) 0) (if chgsB c = true then r else ([], 1)) := by
 have key := all_loopG (List.range c.length) (okC c) r (([] : List S44), (1 : Int)) (fun k i => merkle_Apply.l0 k l (c.map toC) (c.map toC) (c.length : Int) i) (fun i x cs hd hx r hr => ?_) (fun i x cs hd hx => ?_) ?_ (List.range c.length) 0 rfl (Nat.zero_le _)
 ·exact key
 ·obtain ⟨rfl, hi⟩ := range_drop hd
  simp only [okC, Bool.and_eq_true, Bool.or_eq_true, decide_eq_true_eq] at hx
  refine Ev.step (f := fun k => merkle_Apply.j1 k l (c.map toC) (c.map toC) (c.length : Int) (x : Int) false) (fun k => ?_) (Ev.step (fun k => ?_) hr)
  ·simp only [merkle_Apply.l0, List.length_map, rd_chg c x hi, path_Good.f, Option.bind_some, papp_j]
   rw [if_pos (by omega), if_pos (by omega), if_pos (by omega), if_pos hx.1, hx.2.2]
   by_cases h0 : x = 0
   ·rw [if_neg (show ¬ (x : Int) > 0 by omega)]; rfl
   ·have h2 := hx.2.1.resolve_left h0
    rw [ltB] at h2
    rw [if_pos (show (x : Int) > 0 by omega), show wrap64 ((x : Int) - 1) = ((x - 1 : Nat) : Int) by unfold wrap64; omega, rd_chg c (x - 1) (by omega), if_pos (by omega), if_pos (by omega), if_pos h2]; rfl
  ·simp only [merkle_Apply.j1]
   rw [if_neg (by simp), wrap_succ hi (by omega)]
 ·obtain ⟨rfl, hi⟩ := range_drop hd
  refine Ev.step (f := fun k => merkle_Apply.j1 k l (c.map toC) (c.map toC) (c.length : Int) (x : Int) true) (fun k => ?_) (Ev.step (f := fun _ => some ([], 1)) (fun k => ?_) (Ev.now _))
  ·simp only [merkle_Apply.l0, List.length_map, rd_chg c x hi, path_Good.f, Option.bind_some, papp_j]
   rw [if_pos (by omega), if_pos (by omega), if_pos (by omega)]
   by_cases hg : goodB (rd_T67 c (x : Int)).f0 = true
   ·rw [if_pos hg]
    simp only [okC, hg, Bool.true_and] at hx
    by_cases h0 : x = 0
    ·rw [if_neg (show ¬ (x : Int) > 0 by omega)]
     simp only [h0, decide_true, Bool.true_or, Bool.true_and] at hx
     rw [h0, hx]; rfl
    ·rw [if_pos (show (x : Int) > 0 by omega), show wrap64 ((x : Int) - 1) = ((x - 1 : Nat) : Int) by unfold wrap64; omega, rd_chg c (x - 1) (by omega), if_pos (by omega), if_pos (by omega)]
     simp only [decide_eq_false h0, Bool.false_or] at hx
     by_cases h2 : ltB (rd_T67 c ((x - 1 : Nat) : Int)).f0 (rd_T67 c (x : Int)).f0 = true
     ·rw [h2, Bool.true_and] at hx
      rw [ltB] at h2
      rw [if_pos h2, hx]; rfl
     ·rw [ltB] at h2
      rw [if_neg h2]
   ·rw [if_neg hg]
  ·simp only [merkle_Apply.j1]
   rw [if_pos trivial]
 ·refine Ev.step (fun k => ?_) hr
  simp only [merkle_Apply.l0, List.length_map]
  rw [if_neg (by rw [List.length_range]; omega)]
theorem rchg_ev (l : List S39) (c : List S67) (hc : c.length < 1000000) (r : List S39 × Int) (hr : Ev (fun k => strongroomref20_Apply.l1 k l c 0) r) :
  Ev (fun k => strongroomref20_Apply.l0 k l c 0) (if chgsB c = true then r else ([], 1)) := by
 have hE : ∀ x : Nat, Ev (fun k => strongroomref20_Apply.j1 k l c (x : Int) true) (([] : List S39), (1 : Int)) := fun x => by
  refine Ev.step (f := fun _ => some ([], 1)) (fun k => ?_) (Ev.now _)
  simp only [strongroomref20_Apply.j1]
  rw [if_pos trivial]
 have key := all_loopG (List.range c.length) (okC c) r (([] : List S39), (1 : Int)) (fun k i => strongroomref20_Apply.l0 k l c i) (fun i x cs hd hx r hr => ?_) (fun i x cs hd hx => ?_) ?_ (List.range c.length) 0 rfl (Nat.zero_le _)
 ·exact key
 ·obtain ⟨rfl, hi⟩ := range_drop hd
  simp only [okC, Bool.and_eq_true, Bool.or_eq_true, decide_eq_true_eq] at hx
  have hj : Ev (fun k => strongroomref20_Apply.j1 k l c (x : Int) false) r := by
   refine Ev.step (fun k => ?_) hr
   simp only [strongroomref20_Apply.j1]
   rw [if_neg (by simp), wrap_succ hi (by omega)]
  refine Ev.step (f := fun k => (strongroomref05_Good.f k (rd_T67 c (x : Int)).f0).bind fun t => if t = true then strongroomref20_Apply.j1 k l c (x : Int) false else strongroomref20_Apply.j1 k l c (x : Int) true) (fun k => ?_) (Ev.bind (rgood_ev' _) (ifpos hx.1 hj))
  simp only [strongroomref20_Apply.l0, rapp_j]
  rw [if_pos (by omega), if_pos (by omega)]
  simp only [hx.2.2, Bool.not_true]
  by_cases h0 : x = 0
  ·simp only [if_neg (show ¬ (x : Int) > 0 by omega)]
  ·have h2 := hx.2.1.resolve_left h0
   rw [ltB] at h2
   simp only [if_pos (show (x : Int) > 0 by omega), show wrap64 ((x : Int) - 1) = ((x - 1 : Nat) : Int) by unfold wrap64; omega]
   simp only [if_pos (show (0 : Int) ≤ ((x - 1 : Nat) : Int) by omega), if_pos (show ((x - 1 : Nat) : Int) < (c.length : Int) by omega), if_pos h2]
 ·obtain ⟨rfl, hi⟩ := range_drop hd
  by_cases hg : goodB (rd_T67 c (x : Int)).f0 = true
  ·refine Ev.step (f := fun k => (strongroomref05_Good.f k (rd_T67 c (x : Int)).f0).bind fun t => if t = true then strongroomref20_Apply.j1 k l c (x : Int) true else strongroomref20_Apply.j1 k l c (x : Int) true) (fun k => ?_) (Ev.bind (rgood_ev' _) (ifpos hg (hE x)))
   simp only [strongroomref20_Apply.l0, rapp_j]
   rw [if_pos (by omega), if_pos (by omega)]
   simp only [okC, hg, Bool.true_and] at hx
   by_cases h0 : x = 0
   ·simp only [if_neg (show ¬ (x : Int) > 0 by omega)]
    simp only [h0, decide_true, Bool.true_or, Bool.true_and] at hx
    simp only [h0, hx, Bool.not_false]
   ·simp only [if_pos (show (x : Int) > 0 by omega), show wrap64 ((x : Int) - 1) = ((x - 1 : Nat) : Int) by unfold wrap64; omega]
    simp only [if_pos (show (0 : Int) ≤ ((x - 1 : Nat) : Int) by omega), if_pos (show ((x - 1 : Nat) : Int) < (c.length : Int) by omega)]
    simp only [decide_eq_false h0, Bool.false_or] at hx
    by_cases h2 : ltB (rd_T67 c ((x - 1 : Nat) : Int)).f0 (rd_T67 c (x : Int)).f0 = true
    ·rw [h2, Bool.true_and] at hx
     rw [ltB] at h2
     simp only [if_pos h2, hx, Bool.not_false]
    ·rw [ltB] at h2
     simp only [if_neg h2]
  ·apply Ev.step (fun k => by simp only [strongroomref20_Apply.l0]; rw [if_pos (by omega), if_pos (by omega)])
   exact Ev.bind (rgood_ev' _) (ifneg hg (hE x))
 ·refine Ev.step (fun k => ?_) hr
  simp only [strongroomref20_Apply.l0]
  rw [if_neg (by rw [List.length_range]; omega)]
theorem range_rd (l : List S39) : (List.range l.length).map (fun i : Nat => rd_T39 l (i : Int)) = l := by
 apply List.ext_getElem
 ·simp
 ·intro i h1 h2
  simp only [List.getElem_map, List.getElem_range]
  exact rd39_of l i h2
theorem less_is (l : List S39) (p : ByteArray) (i : Nat) (h : i < l.length) : merkle_place.less (l.map toM) p i = ltB (rd_T39 l (i : Int)).f0 p := by
 rw [merkle_place.less, rd_mine l i h]; rfl
theorem place_of {l : List S39} (h : srt l) (hl : l.length < 1000000) (p : ByteArray) : merkle_place.f (l.map toM) p = some ((cnt l p : Nat) : Int) := by
 rw [merkle_place.f, if_pos]
 ·congr 2
  rw [List.length_map, cnt]
  conv => rhs; rw [← range_rd l]
  rw [List.countP_map]
  refine List.countP_congr (fun i hi => ?_)
  rw [less_is l p i (List.mem_range.1 hi)]; rfl
 ·rw [List.length_map, Bool.and_eq_true, decide_eq_true_eq]
  refine ⟨by omega, ?_⟩
  rw [List.all_eq_true]
  intro a ha
  rw [List.all_eq_true]
  intro b hb
  have ha := List.mem_range.1 ha
  have hb := List.mem_range.1 hb
  rw [less_is l p a ha, less_is l p b hb]
  by_cases hab : a ≤ b
  ·rw [decide_eq_true hab, Bool.true_and]
   cases gb : ltB (rd_T39 l (b : Int)).f0 p
   ·simp
   ·have : ltB (rd_T39 l (a : Int)).f0 p = true := by
     by_cases e : a = b
     ·rw [e]; exact gb
     ·rw [rd39_of l b hb] at gb
      rw [rd39_of l a ha]
      exact ltB_trans ((List.pairwise_iff_getElem.1 h) a b ha hb (by omega)) gb
    rw [this]; rfl
  ·rw [decide_eq_false hab]; rfl
def addC (c : S67) : List S39 := if c.f2.toList = [] then [] else [⟨c.f0, c.f2⟩]
/-- what a list has at a path, and what stands behind it -/
def curS (l : List S39) (p : ByteArray) : ByteArray × List S39 := match l.drop (cnt l p) with
 | [] => (⟨#[]⟩, [])
 | x :: t => if x.f0.toList = p.toList then (x.f1, t) else (⟨#[]⟩, x :: t)
def applyS : List S67 → List S39 → List S39 → Option (List S39)
 | [], l, out => some (out ++ l)
 | c :: cs, l, out => if (curS l c.f0).1.toList = c.f1.toList then applyS cs (curS l c.f0).2 (out ++ l.take (cnt l c.f0) ++ addC c) else none
theorem cur_len (l : List S39) (p : ByteArray) : (curS l p).2.length + cnt l p ≤ l.length := by
 have h : (l.drop (cnt l p)).length = l.length - cnt l p := List.length_drop
 have := cnt_le l p
 rw [curS]
 split
 ·rename_i e; rw [e] at h; simp at h ⊢; omega
 ·rename_i x t e
  rw [e, List.length_cons] at h
  split
  ·simp only; omega
  ·rw [List.length_cons]; omega
theorem cur_facts {l : List S39} (h : srt l) (p : ByteArray) : srt (curS l p).2 ∧ (curS l p).1 = sumS l p ∧ (∃ A, l = A ++ (curS l p).2 ∧ ∀ x ∈ A, ltB x.f0 p = true ∨ x.f0 = p) := by
 obtain ⟨h1, h2⟩ := at_path h p
 have hs : srt (l.drop (cnt l p)) := List.Pairwise.sublist (List.drop_sublist _ _) h
 rcases h2 with ⟨x, t, g1, g2, _⟩ | g
 ·rw [curS, g1]
  simp only [g2, if_true]
  rw [g1] at hs
  refine ⟨List.Pairwise.of_cons hs, (sumS_there h p g1 g2).symm, l.take (cnt l p) ++ [x], ?_, fun y hy => ?_⟩
  ·rw [List.append_assoc, List.singleton_append, ← g1, List.take_append_drop]
  ·rcases List.mem_append.1 hy with hy | hy
   ·exact .inl (h1 y hy)
   ·rw [List.mem_singleton.1 hy]; exact .inr g2
 ·have e : curS l p = (⟨#[]⟩, l.drop (cnt l p)) := by
   rw [curS]
   cases hd : l.drop (cnt l p) with
   | nil => rfl
   | cons x t =>
    simp only
    rw [if_neg (fun e => ltB_ne (g x (by rw [hd]; simp)) e.symm)]
  rw [e]
  exact ⟨hs, (sumS_none h p g).symm, l.take (cnt l p), (List.take_append_drop _ _).symm, fun y hy => .inl (h1 y hy)⟩
/-- one change by the document -/
def stepR (l : List S39) (c : S67) : List S39 := l.take (fnd l c.f0 0 0).1 ++ addC c ++ l.drop ((fnd l c.f0 0 0).1 + if (fnd l c.f0 0 0).2 = true then 1 else 0)
theorem stepR_app {l : List S39} (h : srt l) (c : S67) (out : List S39) (ho : ∀ x ∈ out, ltB x.f0 c.f0 = true) : stepR (out ++ l) c = out ++ l.take (cnt l c.f0) ++ addC c ++ (curS l c.f0).2 := by
 have hc := cnt_le l c.f0
 have e : out ++ l = (out ++ l.take (cnt l c.f0)) ++ l.drop (cnt l c.f0) := by rw [List.append_assoc, List.take_append_drop]
 have hl : (out ++ l.take (cnt l c.f0)).length = out.length + cnt l c.f0 := by rw [List.length_append, List.length_take]; omega
 rw [stepR, fnd_srt h c.f0 out ho]
 simp only
 conv => lhs; rw [e]
 rw [List.take_left' hl, ← List.drop_drop, List.drop_left' hl]
 congr 1
 rw [curS]
 cases l.drop (cnt l c.f0) with
 | nil => simp [hdB]
 | cons x t =>
  by_cases g : x.f0.toList = c.f0.toList
  ·simp [hdB, g]
  ·simp [hdB, g]
theorem apply_same : ∀ (cs : List S67) (l out : List S39), srt l → (∀ x ∈ out, ∀ c ∈ cs, ltB x.f0 c.f0 = true) → (cs.Pairwise fun x y => ltB x.f0 y.f0 = true) →
  applyS cs l out = if (cs.all fun c => (sumS (out ++ l) c.f0).toList == c.f1.toList) = true then some (cs.foldl stepR (out ++ l)) else none := by
 intro cs
 induction cs with
 | nil => intro l out _ _ _; simp [applyS]
 | cons c cs ih =>
  intro l out h ho hp
  have ho1 : ∀ x ∈ out, ltB x.f0 c.f0 = true := fun x hx => ho x hx c (by simp)
  obtain ⟨f1, f2, A, f3, f4⟩ := cur_facts h c.f0
  have hp2 := List.Pairwise.of_cons hp
  have hlt : ∀ d ∈ cs, ltB c.f0 d.f0 = true := fun d hd => List.rel_of_pairwise_cons hp hd
  obtain ⟨t1, _⟩ := at_path h c.f0
  have ho2 : ∀ x ∈ out ++ l.take (cnt l c.f0) ++ addC c, ∀ d ∈ cs, ltB x.f0 d.f0 = true := fun x hx d hd => by
   rcases List.mem_append.1 hx with hx | hx
   ·rcases List.mem_append.1 hx with hx | hx
    ·exact ltB_trans (ho1 x hx) (hlt d hd)
    ·exact ltB_trans (t1 x hx) (hlt d hd)
   ·unfold addC at hx
    split at hx
    ·simp at hx
    ·rw [List.mem_singleton.1 hx]; exact hlt d hd
  have hsum : ∀ d ∈ cs, sumS (out ++ l.take (cnt l c.f0) ++ addC c ++ (curS l c.f0).2) d.f0 = sumS (out ++ l) d.f0 := fun d hd => by
   rw [sumS_app f1 d.f0 _ (fun x hx => ho2 x hx d hd), sumS_app h d.f0 out (fun x hx => ho x hx d (by simp [hd]))]
   conv => rhs; rw [f3]
   rw [sumS_app f1 d.f0 A]
   intro x hx
   rcases f4 x hx with g | g
   ·exact ltB_trans g (hlt d hd)
   ·rw [g]; exact hlt d hd
  rw [applyS, f2, List.all_cons, sumS_app h c.f0 out ho1]
  by_cases hb : (sumS l c.f0).toList = c.f1.toList
  ·rw [if_pos hb, ih _ _ f1 ho2 hp2, beq_iff_eq.2 hb, Bool.true_and, List.foldl_cons, stepR_app h c out ho1]
   have : (cs.all fun d => (sumS (out ++ l.take (cnt l c.f0) ++ addC c ++ (curS l c.f0).2) d.f0).toList == d.f1.toList) = (cs.all fun d => (sumS (out ++ l) d.f0).toList == d.f1.toList) := by
    rw [Bool.eq_iff_iff, List.all_eq_true, List.all_eq_true]
    exact ⟨fun g d hd => by rw [← hsum d hd]; exact g d hd, fun g d hd => by rw [hsum d hd]; exact g d hd⟩
   rw [this]
  ·rw [if_neg hb, beq_eq_false_iff_ne.2 hb, Bool.false_and, if_neg (by simp)]
theorem add_len (c : S67) : (addC c).length ≤ 1 := by unfold addC; split <;> simp
theorem j3_ev (l out : List S39) (old : ByteArray) (C : List S67) (n : Int) (i : Nat) (c : S67) (hi : i < 100000) (ho : out.length < 100000) (r : List S44 × Int)
  (hr : Ev (fun k => merkle_Apply.l1 k (l.map toM) ((out ++ addC c).map toM) (C.map toC) n ((i + 1 : Nat) : Int)) r) :
  Ev (fun k => merkle_Apply.j4 k (l.map toM) (out.map toM) old (C.map toC) n (i : Int) c.f0 c.f1 c.f2) (if old.toList = c.f1.toList then r else ([], 8)) := by
 by_cases h1 : old.toList = c.f1.toList
 ·rw [if_pos h1]
  refine Ev.step (fun k => ?_) hr
  simp only [merkle_Apply.j4]
  rw [if_pos h1, wrap_succ (n := 100000) hi (by omega)]
  by_cases h2 : c.f2.toList = []
  ·rw [if_pos h2, addC, if_pos h2, List.append_nil]
  ·rw [if_neg h2, addC, if_neg h2, if_pos (by rw [List.length_map]; omega), List.map_append]
   rfl
 ·rw [if_neg h1]
  refine Ev.step (f := fun _ => some ([], 8)) (fun k => ?_) (Ev.now _)
  simp only [merkle_Apply.j4]
  rw [if_neg h1]
def resM : Option (List S39) → List S44 × Int
 | some r => (r.map toM, 0)
 | none => ([], 8)
theorem apply_ev (C : List S67) (hC : C.length ≤ 500) : ∀ (cs : List S67) (i : Nat) (l out : List S39), C.drop i = cs → i ≤ C.length → srt l → out.length + l.length + cs.length ≤ 1000 →
  Ev (fun k => merkle_Apply.l1 k (l.map toM) (out.map toM) (C.map toC) (C.length : Int) (i : Int)) (resM (applyS cs l out)) := by
 intro cs
 induction cs with
 | nil =>
  intro i l out hd hi h hb
  refine Ev.step (f := fun _ => some ((out ++ l).map toM, 0)) (fun k => ?_) (Ev.now _)
  have := drop_nil_len hd hi
  simp only [merkle_Apply.l1, Option.bind_some]
  simp only [List.length_nil] at hb
  rw [if_neg (by omega), if_pos (by simp; omega), if_neg (by simp; omega), List.map_append]
 | cons c cs ih =>
  intro i l out hd hi h hb
  obtain ⟨g1, g2, g3⟩ := drop_cons_facts hd
  have hcl := cnt_le l c.f0
  have hcu := cur_len l c.f0
  have hal := add_len c
  obtain ⟨f1, _⟩ := cur_facts h c.f0
  simp only [List.length_cons] at hb
  have htl : (l.take (cnt l c.f0)).length = cnt l c.f0 := by rw [List.length_take]; omega
  have next := ih (i + 1) (curS l c.f0).2 (out ++ l.take (cnt l c.f0) ++ addC c) g2 g3 f1 (by simp only [List.length_append]; omega)
  have hc : rd_T66 (C.map toC) (i : Int) = toC c := by
   rw [rd66_C C i g3]
   have : C[i] = c := by rw [List.getElem?_eq_getElem g3] at g1; exact Option.some.inj g1
   rw [this]
  have hj := j3_ev (curS l c.f0).2 (out ++ l.take (cnt l c.f0)) (curS l c.f0).1 C (C.length : Int) i c (by omega) (by simp only [List.length_append]; omega) _ next
  have hres : resM (applyS (c :: cs) l out) = if (curS l c.f0).1.toList = c.f1.toList then resM (applyS cs (curS l c.f0).2 (out ++ l.take (cnt l c.f0) ++ addC c)) else ([], 8) := by
   rw [applyS]; split <;> rfl
  rw [hres]
  have hdm : (l.map toM).drop (cnt l c.f0) = (l.drop (cnt l c.f0)).map toM := List.map_drop.symm
  have htm : out.map toM ++ (l.map toM).take (cnt l c.f0) = (out ++ l.take (cnt l c.f0)).map toM := by rw [List.map_append, List.map_take]
  have hlt2 : (out.map toM).length + ((l.map toM).take (cnt l c.f0)).length < 4398046511104 := by simp; omega
  cases hdl : l.drop (cnt l c.f0) with
  | nil =>
   have e : curS l c.f0 = (⟨#[]⟩, []) := by rw [curS, hdl]
   rw [e] at hj ⊢
   have hj2 : Ev (fun k => merkle_Apply.j3 k [] ((out ++ l.take (cnt l c.f0)).map toM) ⟨#[]⟩ (C.map toC) (C.length : Int) (i : Int) false c.f0 c.f1 c.f2) _ := Ev.step (fun k => by simp only [merkle_Apply.j3]; rw [if_neg (by simp)]; rfl) hj
   refine Ev.step (fun k => ?_) hj2
   simp only [merkle_Apply.l1, hc, place_of h (by omega), Option.bind_some, Int.toNat_natCast, hdm, hdl, htm, List.map_nil, List.length_nil]
   rw [if_pos (by omega), if_pos (by omega), if_pos (by rw [List.length_map]; omega), if_pos (by omega), if_pos (by rw [List.length_map]; omega), if_pos hlt2, if_neg (by omega)]
  | cons x t =>
   have hj2 : Ev (fun k => merkle_Apply.j3 k ((x :: t).map toM) ((out ++ l.take (cnt l c.f0)).map toM) ⟨#[]⟩ (C.map toC) (C.length : Int) (i : Int) (x.f0.toList == c.f0.toList) c.f0 c.f1 c.f2) (if (curS l c.f0).1.toList = c.f1.toList then resM (applyS cs (curS l c.f0).2 (out ++ l.take (cnt l c.f0) ++ addC c)) else ([], 8)) := by
    by_cases hx : x.f0.toList = c.f0.toList
    ·have e : curS l c.f0 = (x.f1, t) := by rw [curS, hdl]; simp only [if_pos hx]
     rw [e] at hj ⊢
     refine Ev.step (fun k => ?_) hj
     simp only [merkle_Apply.j3, List.map_cons, List.length_cons, List.drop_succ_cons, List.drop_zero]
     rw [if_pos (beq_iff_eq.2 hx), if_pos (by omega), if_pos (by omega)]
     rfl
    ·have e : curS l c.f0 = (⟨#[]⟩, x :: t) := by rw [curS, hdl]; simp only [if_neg hx]
     rw [e] at hj ⊢
     refine Ev.step (fun k => ?_) hj
     simp only [merkle_Apply.j3]
     rw [if_neg (by simpa using hx)]
   refine Ev.step (fun k => ?_) hj2
   simp only [merkle_Apply.l1, hc, place_of h (by omega), Option.bind_some, Int.toNat_natCast, hdm, hdl, htm]
   rw [if_pos (by omega), if_pos (by omega), if_pos (by rw [List.length_map]; omega), if_pos (by omega), if_pos (by rw [List.length_map]; omega), if_pos hlt2, if_pos (by rw [List.length_map, List.length_cons]; omega), if_pos (by rw [List.length_map, List.length_cons]; omega)]
   rfl
theorem find_ev (l : List S39) (p : ByteArray) (hl : l.length < 100000) : Ev (fun k => strongroomref20_Find.f k l p) (((fnd l p 0 0).1 : Nat), (fnd l p 0 0).2) := by
 have loop : ∀ (m : List S39) (i n : Nat), l.drop i = m → i ≤ l.length → n ≤ i → Ev (fun k => strongroomref20_Find.l0 k l p (n : Int) (i : Int)) ((((fnd m p i n).1 : Nat) : Int), (fnd m p i n).2) := by
  intro m
  induction m with
  | nil =>
   intro i n hd hi hn
   have := drop_nil_len hd hi
   refine Ev.step (f := fun _ => some ((n : Int), false)) (fun k => ?_) (Ev.now _)
   simp only [strongroomref20_Find.l0]
   rw [if_neg (by omega)]
  | cons x t ih =>
   intro i n hd hi hn
   obtain ⟨g1, g2, g3⟩ := drop_cons_facts hd
   have hx : rd_T39 l (i : Int) = x := by
    rw [rd39_of l i g3]
    rw [List.getElem?_eq_getElem g3] at g1; exact Option.some.inj g1
   rw [fnd]
   by_cases e : x.f0.toList = p.toList
   ·rw [if_pos e]
    refine Ev.step (f := fun _ => some ((i : Int), true)) (fun k => ?_) (Ev.now _)
    simp only [strongroomref20_Find.l0, hx]
    rw [if_pos (by omega), if_pos (by omega), if_pos e]
   ·rw [if_neg e]
    by_cases g : ltB x.f0 p = true
    ·rw [if_pos g]
     refine Ev.step (fun k => ?_) (ih (i + 1) (n + 1) g2 g3 (by omega))
     rw [ltB] at g
     simp only [strongroomref20_Find.l0, hx]
     rw [if_pos (by omega), if_pos (by omega), if_neg e, if_pos g, wrap_succ g3 (by omega), wrap_succ (n := 100000) (by omega) (by omega)]
    ·rw [if_neg g]
     refine Ev.step (fun k => ?_) (ih (i + 1) n g2 g3 (by omega))
     rw [ltB] at g
     simp only [strongroomref20_Find.l0, hx]
     rw [if_pos (by omega), if_pos (by omega), if_neg e, if_neg g, wrap_succ g3 (by omega)]
 simp only [strongroomref20_Find.f]
 exact loop l 0 0 rfl (by omega) (by omega)
theorem sumOf_ev (l : List S39) (p : ByteArray) (hl : l.length < 100000) : Ev (fun k => strongroomref20_sumOf.f k l p) (sumS l p) := by
 simp only [strongroomref20_sumOf.f]
 refine Ev.bind (find_ev l p hl) ?_
 have hle := fnd_le p l 0 0 (by omega)
 rw [sumS]
 cases h : (fnd l p 0 0).2
 ·exact ifneg (by simp) (by rw [if_neg (by simp)]; exact Ev.now _)
 ·have := hle.2 h
  refine ifpos rfl (ifpos (by omega) (ifpos (by simp only; omega) ?_))
  rw [if_pos rfl]
  exact Ev.now _
theorem rsums_ev (l : List S39) (hl : l.length < 100000) (c : List S67) (hc : c.length < 100000) (r : List S39 × Int) (hr : Ev (fun k => strongroomref20_Apply.l2 k l c 0) r) :
  Ev (fun k => strongroomref20_Apply.l1 k l c 0) (if (c.all fun x => (sumS l x.f0).toList == x.f1.toList) = true then r else ([], 8)) := by
 refine all_loopG c (fun x => (sumS l x.f0).toList == x.f1.toList) r (([] : List S39), (8 : Int)) (fun k i => strongroomref20_Apply.l1 k l c i) (fun i x cs hd hx r hr => ?_) (fun i x cs hd hx => ?_) ?_ c 0 rfl (Nat.zero_le _)
 ·obtain ⟨g1, g2, g3⟩ := drop_cons_facts hd
  have hx2 : rd_T67 c (i : Int) = x := by
   rw [rd67_of c i g3]
   rw [List.getElem?_eq_getElem g3] at g1; exact Option.some.inj g1
  refine Ev.step (fun k => ?_) (Ev.bind (f := fun k t => if t.toList = x.f1.toList then strongroomref20_Apply.l1 k l c ((i + 1 : Nat) : Int) else some ([], 8)) (sumOf_ev l x.f0 hl) (ifpos (beq_iff_eq.1 hx) hr))
  simp only [strongroomref20_Apply.l1, hx2]
  rw [if_pos (by omega), if_pos (by omega), wrap_succ g3 (by omega)]
 ·obtain ⟨g1, g2, g3⟩ := drop_cons_facts hd
  have hx2 : rd_T67 c (i : Int) = x := by
   rw [rd67_of c i g3]
   rw [List.getElem?_eq_getElem g3] at g1; exact Option.some.inj g1
  refine Ev.step (fun k => ?_) (Ev.bind (f := fun k t => if t.toList = x.f1.toList then strongroomref20_Apply.l1 k l c ((i + 1 : Nat) : Int) else some ([], 8)) (sumOf_ev l x.f0 hl) (ifneg (beq_eq_false_iff_ne.1 hx) (Ev.now _)))
  simp only [strongroomref20_Apply.l1, hx2]
  rw [if_pos (by omega), if_pos (by omega), wrap_succ g3 (by omega)]
 ·refine Ev.step (fun k => ?_) hr
  simp only [strongroomref20_Apply.l1]
  rw [if_neg (by omega)]
theorem stepR_len (l : List S39) (c : S67) : (stepR l c).length ≤ l.length + 1 := by
 have := add_len c
 rw [stepR, List.length_append, List.length_append, List.length_take, List.length_drop]
 split <;> omega
theorem fold_len : ∀ (cs : List S67) (l : List S39), (cs.foldl stepR l).length ≤ l.length + cs.length
 | [], l => by simp
 | c :: cs, l => by
  have := fold_len cs (stepR l c)
  have := stepR_len l c
  rw [List.foldl_cons, List.length_cons]; omega
theorem rj4_ev (l M : List S39) (C : List S67) (i K : Nat) (T : Bool) (hl : l.length ≤ 1000) (hM : M.length ≤ 1001) (hi : i < 1000) (hK : K ≤ l.length) (hT : T = true → K < l.length) (r : List S39 × Int)
  (hr : Ev (fun k => strongroomref20_Apply.l2 k (M ++ l.drop (K + if T = true then 1 else 0)) C ((i + 1 : Nat) : Int)) r) : Ev (fun k => strongroomref20_Apply.j4 k l C (i : Int) (K : Int) T M) r := by
 have w : wrap64 ((i : Int) + 1) = ((i + 1 : Nat) : Int) := by unfold wrap64; omega
 have e : wrap64 ((K : Int) + 1) = ((K + 1 : Nat) : Int) := by unfold wrap64; omega
 have hd : ∀ n : Nat, (l.drop n).length ≤ 1000 := fun n => by rw [List.length_drop]; omega
 cases T
 ·rw [if_neg (by simp), Nat.add_zero] at hr
  refine Ev.step (fun k => ?_) hr
  simp only [strongroomref20_Apply.j4, Option.bind_some, e, Int.toNat_natCast, w]
  have := hd K
  rw [if_neg (by simp), if_pos (by omega), if_pos (by omega), if_pos (by omega)]
 ·rw [if_pos rfl] at hr
  have h1 := hT rfl
  refine Ev.step (fun k => ?_) hr
  simp only [strongroomref20_Apply.j4, Option.bind_some, e, Int.toNat_natCast, w]
  have := hd (K + 1)
  rw [if_pos trivial, if_pos (by omega), if_pos (by omega), if_pos (by omega)]
theorem rfold_ev (C : List S67) (hC : C.length ≤ 500) : ∀ (cs : List S67) (i : Nat) (l : List S39), C.drop i = cs → i ≤ C.length → l.length + cs.length ≤ 1000 → Ev (fun k => strongroomref20_Apply.l2 k l C (i : Int)) (cs.foldl stepR l, 0) := by
 intro cs
 induction cs with
 | nil =>
  intro i l hd hi hb
  have := drop_nil_len hd hi
  refine Ev.step (f := fun _ => some (l, 0)) (fun k => ?_) (Ev.now _)
  simp only [strongroomref20_Apply.l2]
  simp only [List.length_nil] at hb
  rw [if_neg (by omega), if_neg (by omega)]
 | cons c cs ih =>
  intro i l hd hi hb
  obtain ⟨g1, g2, g3⟩ := drop_cons_facts hd
  simp only [List.length_cons] at hb
  have hc : rd_T67 C (i : Int) = c := by
   rw [rd67_of C i g3]
   rw [List.getElem?_eq_getElem g3] at g1; exact Option.some.inj g1
  have hsl := stepR_len l c
  have next := ih (i + 1) (stepR l c) g2 g3 (by omega)
  have hle := fnd_le c.f0 l 0 0 (by omega)
  have hfind := find_ev l c.f0 (by omega)
  rw [List.foldl_cons]
  rw [stepR] at next ⊢
  revert hle hfind next
  generalize (fnd l c.f0 0 0).1 = K
  generalize (fnd l c.f0 0 0).2 = T
  intro next hle hfind
  apply Ev.step (fun k => by simp only [strongroomref20_Apply.l2, hc]; rw [if_pos (by omega), if_pos (by omega)])
  refine Ev.bind hfind ?_
  refine ifpos (by simp only; omega) (ifpos (by simp only; omega) ?_)
  simp only [Option.bind_some, List.nil_append, List.length_nil, Nat.zero_add, Int.toNat_natCast]
  have q1 : (l.take K).length ≤ l.length := by rw [List.length_take]; omega
  refine ifpos (by omega) ?_
  by_cases h2 : c.f2.toList = []
  ·rw [addC, if_pos h2, List.append_nil] at next
   exact ifpos h2 (rj4_ev l _ C i K T (by omega) (by omega) (by omega) (by omega) (fun h => by have := hle.2 h; omega) _ (by simpa [addC, h2] using next))
  ·rw [addC, if_neg h2] at next
   exact ifneg h2 (ifpos (by omega) (rj4_ev l _ C i K T (by omega) (by rw [List.length_append]; simp only [List.length_cons, List.length_nil]; omega) (by omega) (by omega) (fun h => by have := hle.2 h; omega) _ (by simpa [addC, h2] using next)))
theorem chg_srt {c : List S67} (h : chgsB c = true) : c.Pairwise fun x y => ltB x.f0 y.f0 = true := by
 have adj : ∀ (i : Nat) (hi : i + 1 < c.length), ltB (c[i]'(by omega)).f0 (c[i + 1]).f0 = true := fun i hi => by
  have := List.all_eq_true.1 h (i + 1) (List.mem_range.2 hi)
  simp only [okC, Bool.and_eq_true, Bool.or_eq_true, decide_eq_true_eq] at this
  have h2 := this.2.1.resolve_left (by omega)
  rw [rd67_of c (i + 1) hi, show i + 1 - 1 = i by omega, rd67_of c i (by omega)] at h2
  exact h2
 have far : ∀ (d i : Nat) (hi : i + d + 1 < c.length), ltB (c[i]'(by omega)).f0 (c[i + d + 1]).f0 = true := by
  intro d
  induction d with
  | zero => intro i hi; exact adj i hi
  | succ d ih => intro i hi; exact ltB_trans (ih i (by omega)) (adj (i + d + 1) (by omega))
 rw [List.pairwise_iff_getElem]
 intro i j hi hj hij
 obtain ⟨d, rfl⟩ : ∃ d, j = i + d + 1 := ⟨j - i - 1, by omega⟩
 exact far d i hj
/-- what changes make of leaves, or why they can't -/
def applyR (l : List S39) (c : List S67) : List S39 × Int := if listB l = true then (if chgsB c = true then (if (c.all fun x => (sumS l x.f0).toList == x.f1.toList) = true then (c.foldl stepR l, 0) else ([], 8)) else ([], 1)) else ([], 1)
theorem papply_ev (l : List S39) (c : List S67) (hl : l.length ≤ 400) (hc : c.length ≤ 400) : Ev (fun k => merkle_Apply.f k (l.map toM) (c.map toC)) ((applyR l c).1.map toM, (applyR l c).2) := by
 simp only [merkle_Apply.f]
 refine Ev.bind (check_ev l (by omega)) ?_
 unfold applyR
 cases hb : listB l
 ·exact ifneg (by simp) (by simp; exact Ev.now _)
 refine ifpos (by simp) ?_
 simp only [if_true, List.length_map]
 have h1 := apply_ev c (by omega) c 0 l [] rfl (by omega) (listB_srt hb) (by simp; omega)
 have h2 := pchg_ev (l.map toM) c (by omega) _ h1
 cases hg : chgsB c
 ·rw [hg] at h2
  simpa using h2
 ·rw [hg, if_pos rfl, apply_same c l [] (listB_srt hb) (by simp) (chg_srt hg), List.nil_append] at h2
  simp only [if_true]
  cases hs : (c.all fun x => (sumS l x.f0).toList == x.f1.toList)
  ·rw [hs] at h2
   simpa [resM] using h2
  ·rw [hs] at h2
   simpa [resM] using h2
theorem rapply_ev (l : List S39) (c : List S67) (hl : l.length ≤ 400) (hc : c.length ≤ 400) : Ev (fun k => strongroomref20_Apply.f k l c) (applyR l c) := by
 simp only [strongroomref20_Apply.f]
 refine Ev.bind (rwhy_ev l (by omega)) ?_
 unfold applyR
 cases hb : listB l
 ·exact ifneg (by simp) (by simp; exact Ev.now _)
 refine ifpos (by simp) ?_
 simp only [if_true]
 exact rchg_ev l c (by omega) _ (rsums_ev l (by omega) c (by omega) _ (rfold_ev c (by omega) c 0 l rfl (by omega) (by omega)))
theorem theirs_ev (l : List S39) (hl : l.length < 100000) : Ev (fun k => strongroomlaw20_theirs.f k (l.map toM)) l := by
 have loop : ∀ (d i : Nat), i + d = l.length → Ev (fun k => strongroomlaw20_theirs.l0 k (l.map toM) (l.take i) (i : Int)) l := by
  intro d
  induction d with
  | zero =>
   intro i hi
   refine Ev.step (f := fun _ => some l) (fun k => ?_) (Ev.now _)
   simp only [strongroomlaw20_theirs.l0]
   rw [if_neg (by rw [List.length_map]; omega), List.take_of_length_le (by omega)]
  | succ d ih =>
   intro i hi
   have hlt : i < l.length := by omega
   refine Ev.step (fun k => ?_) (ih (i + 1) (by omega))
   simp only [strongroomlaw20_theirs.l0, rd_mine l i hlt, rd39_of l i hlt]
   rw [if_pos (by rw [List.length_map]; omega), if_pos (by omega), if_pos (by simp; omega), wrap_succ hlt (by omega), List.take_add_one, List.getElem?_eq_getElem hlt]
   rfl
 exact loop l.length 0 (by omega)
theorem same_ev (l : List S39) (hl : l.length < 100000) : Ev (fun k => strongroomref20_Same.f k l l) true := by
 have loop : ∀ (d i : Nat), i + d = l.length → Ev (fun k => strongroomref20_Same.l0 k l l (i : Int)) true := by
  intro d
  induction d with
  | zero =>
   intro i hi
   refine Ev.step (f := fun _ => some true) (fun k => ?_) (Ev.now _)
   simp only [strongroomref20_Same.l0]
   rw [if_neg (by omega)]
  | succ d ih =>
   intro i hi
   refine Ev.step (fun k => ?_) (ih (i + 1) (by omega))
   simp only [strongroomref20_Same.l0]
   rw [if_pos (by omega), if_pos (by omega), if_pos (by omega), if_neg (by simp), wrap_succ (n := l.length) (by omega) (by omega)]
 simp only [strongroomref20_Same.f]
 exact ifpos trivial (loop l.length 0 (by omega))
/-- does a place cover another one, in plain lists -/
def coverL (a p : List UInt8) : Bool := a == [] || (a ++ [47]).isPrefixOf (p ++ [47])
theorem coverL_iff (a p : List UInt8) : coverL a p = true ↔ a = [] ∨ (a ++ [47]) <+: (p ++ [47]) := by
 simp [coverL]
theorem stroke_prefix (a p : List UInt8) : (a ++ [47]) <+: (p ++ [47]) ↔ p = a ∨ (a ++ [47]) <+: p := by
 constructor
 ·intro h
  have hl := h.length_le
  simp at hl
  by_cases e : a.length = p.length
  ·left
   have := h.eq_of_length (by simp [e])
   exact (List.append_cancel_right this).symm
  ·right
   exact List.prefix_of_prefix_length_le h (List.prefix_append p [47]) (by simp; omega)
 ·rintro (rfl | h)
  ·exact List.prefix_refl _
  ·exact h.trans (List.prefix_append p [47])
/-- a place that covers an empty one is empty -/
theorem coverL_empty {a : List UInt8} (h : coverL a [] = true) : a = [] := by
 rw [coverL_iff] at h
 rcases h with h | h
 ·exact h
 ·have := h.length_le
  simp at this
  exact this
/-- may a text be a place? -/
def placeB (a : ByteArray) : Bool := a.data.toList == [] || goodB a
theorem place_is (a : ByteArray) : path_Place.f a = some (placeB a) := by
 simp only [path_Place.f, path_Good.f, placeB, toList_data]
 by_cases h : a.data.toList = []
 ·rw [if_pos h, h]; rfl
 ·rw [if_neg h, show (a.data.toList == []) = false from beq_eq_false_iff_ne.2 h]; rfl
theorem placeB_le {a : ByteArray} (h : placeB a = true) : a.size ≤ 32 := by
 rcases Bool.or_eq_true_iff.1 h with h | h
 ·have h0 : a.data.toList = [] := beq_iff_eq.1 h
  have : a.size = a.data.toList.length := rfl
  rw [this, h0]; simp
 ·exact goodB_le h
theorem hasPrefix_is (a b : ByteArray) : strings_HasPrefix.f a b = some (b.data.toList.isPrefixOf a.data.toList) := by
 have ha : a.size = a.data.toList.length := rfl
 have hb : b.size = b.data.toList.length := rfl
 simp only [strings_HasPrefix.f, stringslite_HasPrefix.f]
 by_cases h : b.size ≤ a.size
 ·rw [if_pos (by omega), if_pos (by omega), if_pos (by omega)]
  simp only [Option.bind_some, toList_data, Int.toNat_natCast]
  congr 1
  rw [Bool.eq_iff_iff, beq_iff_eq, List.isPrefixOf_iff_prefix]
  have e : (a.extract 0 b.size).data.toList = a.data.toList.take b.size := by
   rw [ByteArray.data_extract, Array.toList_extract]
   simp [List.extract_eq_take_drop]
  rw [e, List.prefix_iff_eq_take, hb]
  exact eq_comm
 ·rw [if_neg (by omega)]
  simp only [Option.bind_some]
  congr 1
  symm
  rw [Bool.eq_false_iff, Ne, List.isPrefixOf_iff_prefix]
  intro hp
  have := hp.length_le
  omega
def coversB (a p : ByteArray) : Bool := placeB a && (placeB p && coverL a.data.toList p.data.toList)
theorem covers_is (a p : ByteArray) : path_Covers.f a p = some (coversB a p) := by
 simp only [path_Covers.f, place_is, Option.bind_some, coversB, coverL]
 cases ha : placeB a
 ·simp
 cases hp : placeB p
 ·simp
 have hs := placeB_le ha
 simp only [if_true, Bool.true_and, toList_data]
 by_cases h0 : a.data.toList = []
 ·rw [if_pos h0, h0]; rfl
 rw [if_neg h0, show (a.data.toList == []) = false from beq_eq_false_iff_ne.2 h0, Bool.false_or]
 by_cases h1 : p.data.toList = a.data.toList
 ·rw [if_pos h1, h1]
  congr 1
  symm
  rw [List.isPrefixOf_iff_prefix]
  exact List.prefix_refl _
 rw [if_neg h1, if_pos (by omega), hasPrefix_is]
 simp only [Option.bind_some]
 congr 1
 rw [Bool.eq_iff_iff, List.isPrefixOf_iff_prefix, List.isPrefixOf_iff_prefix, stroke_prefix]
 rw [show (a ++ (⟨#[47]⟩ : ByteArray)).data.toList = a.data.toList ++ [47] by rw [ByteArray.data_append]; simp]
 constructor
 ·exact Or.inr
 ·rintro (h | h)
  ·exact absurd h h1
  ·exact h
theorem rplace_ev (p : ByteArray) : Ev (fun k => strongroomref05_Place.f k p) (placeB p) := by
 simp only [strongroomref05_Place.f, toList_data, placeB]
 by_cases h : p.data.toList = []
 ·refine ifpos h ?_
  rw [h]
  exact Ev.now _
 ·refine ifneg h ?_
  rw [show (p.data.toList == []) = false from beq_eq_false_iff_ne.2 h, Bool.false_or]
  exact Ev.bind (rgood_ev' p) (Ev.now _)
theorem rparts_ev (p : ByteArray) (h : goodB p = true) : Ev (fun k => strongroomref05_Parts.f k p) ((cutL p.data.toList).map mkB) := by
 have hs := goodB_le h
 have hl : p.data.toList.length = p.size := rfl
 simp only [strongroomref05_Parts.f]
 refine Ev.bind (rgood_ev' p) ?_
 refine ifpos h ?_
 exact Ev.bind (cut_ev p.data.toList (by omega)) (Ev.now _)
theorem rparts_none (p : ByteArray) (h : goodB p = false) : Ev (fun k => strongroomref05_Parts.f k p) [] := by
 simp only [strongroomref05_Parts.f]
 refine Ev.bind (rgood_ev' p) ?_
 refine ifneg (by rw [h]; simp) ?_
 exact Ev.now _
theorem rcovL_ev (A B : List (List UInt8)) (hl : A.length ≤ B.length) (hA : A.length < 1000000) : ∀ (cs : List (List UInt8)) (i : Nat), A.drop i = cs → i ≤ A.length → Ev (fun k => strongroomref05_Covers.l0 k (A.map mkB) (B.map mkB) (i : Int)) (cs.isPrefixOf (B.drop i)) := by
 intro cs
 induction cs with
 | nil =>
  intro i hd hi
  have := drop_nil_len hd hi
  refine Ev.step (f := fun _ => some true) (fun k => ?_) (Ev.now _)
  simp only [strongroomref05_Covers.l0, List.length_map]
  rw [if_neg (by omega)]
 | cons c cs ih =>
  intro i hd hi
  obtain ⟨h1, h2, h3⟩ := drop_cons_facts hd
  have hb : B[i]? = some (B[i]'(by omega)) := List.getElem?_eq_getElem (by omega)
  have eB : B.drop i = B[i]'(by omega) :: B.drop (i + 1) := List.drop_eq_getElem_cons (by omega)
  have hra : rdOf ByteArray.empty (A.map mkB) (i : Int) = mkB c := by simp [rdOf, List.getD_eq_getElem?_getD, h1]
  have hrb : rdOf ByteArray.empty (B.map mkB) (i : Int) = mkB (B[i]'(by omega)) := by simp [rdOf, List.getD_eq_getElem?_getD, hb]
  rw [eB, List.isPrefixOf_cons_cons]
  by_cases he : c = B[i]'(by omega)
  ·rw [show (c == B[i]'(by omega)) = true from beq_iff_eq.2 he, Bool.true_and]
   refine Ev.step (fun k => ?_) (ih (i + 1) h2 h3)
   simp only [strongroomref05_Covers.l0, List.length_map, hra, hrb, toList_data]
   rw [if_pos (by omega), if_pos (by omega), if_pos (by omega), if_pos he, wrap_succ h3 (by omega)]
  ·rw [show (c == B[i]'(by omega)) = false from beq_eq_false_iff_ne.2 he, Bool.false_and]
   refine Ev.step (f := fun _ => some false) (fun k => ?_) (Ev.now _)
   simp only [strongroomref05_Covers.l0, List.length_map, hra, hrb, toList_data]
   rw [if_pos (by omega), if_pos (by omega), if_pos (by omega), if_neg he]
theorem rcovT_ev (a p : ByteArray) : Ev (fun k => strongroomref05_Covers.j0 k a p true) false :=
 Ev.step (f := fun _ => some false) (fun k => by simp only [strongroomref05_Covers.j0]; rw [if_pos trivial]) (Ev.now _)
theorem rcovers_ev (a p : ByteArray) : Ev (fun k => strongroomref05_Covers.f k a p) (coversB a p) := by
 simp only [strongroomref05_Covers.f, coversB]
 refine Ev.bind (rplace_ev a) ?_
 cases ha : placeB a
 ·exact ifneg (by simp) (rcovT_ev a p)
 refine ifpos rfl ?_
 refine Ev.bind (rplace_ev p) ?_
 cases hp : placeB p
 ·exact rcovT_ev a p
 simp only [Bool.true_and]
 by_cases h0 : a.data.toList = []
 ·rw [show coverL a.data.toList p.data.toList = true by rw [h0]; rfl]
  refine Ev.step (f := fun _ => some true) (fun k => ?_) (Ev.now _)
  simp only [strongroomref05_Covers.j0, toList_data]
  rw [if_neg (by simp), if_pos h0]
 have hga : goodB a = true := by
  rw [placeB, show (a.data.toList == []) = false from beq_eq_false_iff_ne.2 h0, Bool.false_or] at ha
  exact ha
 have hsa := goodB_le hga
 have hla : a.data.toList.length = a.size := rfl
 have hca := cutL_len a.data.toList
 refine Ev.step (f := fun k => (strongroomref05_Parts.f k a).bind fun t => (strongroomref05_Parts.f k p).bind fun u => if (t.length : Int) > (u.length : Int) then some false else strongroomref05_Covers.l0 k t u 0) (fun k => ?_) ?_
 ·simp only [strongroomref05_Covers.j0, toList_data]
  rw [if_neg (by simp), if_neg h0]
 refine Ev.bind (rparts_ev a hga) ?_
 by_cases hp0 : p.data.toList = []
 ·have hgp : goodB p = false := by rw [goodB_goodL, hp0]; rfl
  rw [show coverL a.data.toList p.data.toList = false by
   rw [Bool.eq_false_iff, hp0]
   intro h
   exact h0 (coverL_empty h)]
  refine Ev.bind (rparts_none p hgp) ?_
  have := cutL_ne a.data.toList
  have h1 : 0 < (cutL a.data.toList).length := List.length_pos_iff.2 this
  refine ifpos (by simp only [List.length_map, List.length_nil]; omega) ?_
  exact Ev.now _
 have hgp : goodB p = true := by
  rw [placeB, show (p.data.toList == []) = false from beq_eq_false_iff_ne.2 hp0, Bool.false_or] at hp
  exact hp
 have e : coverL a.data.toList p.data.toList = (cutL a.data.toList).isPrefixOf (cutL p.data.toList) := by
  rw [Bool.eq_iff_iff, coverL_iff, List.isPrefixOf_iff_prefix, prefix_cut, ← stroke_prefix]
  constructor
  ·rintro (h | h)
   ·exact absurd h h0
   ·exact h
  ·exact Or.inr
 rw [e]
 refine Ev.bind (rparts_ev p hgp) ?_
 by_cases hlen : (cutL p.data.toList).length < (cutL a.data.toList).length
 ·refine ifpos (by simp only [List.length_map]; omega) ?_
  rw [show (cutL a.data.toList).isPrefixOf (cutL p.data.toList) = false by
   rw [Bool.eq_false_iff, Ne, List.isPrefixOf_iff_prefix]
   intro h
   have := h.length_le
   omega]
  exact Ev.now _
 ·refine ifneg (by simp only [List.length_map]; omega) ?_
  exact rcovL_ev _ _ (by omega) (by omega) (cutL a.data.toList) 0 rfl (Nat.zero_le _)
theorem below_loop (l : List S39) (p : ByteArray) (hl : l.length < 100000) : ∀ (n i : Nat), i + n = l.length → Ev (fun k => merkle_Below.l0 k p (((l.take i).filter fun x => coversB p x.f0).map toM) (l.map toM) (l.length : Int) (i : Int)) ((l.filter fun x => coversB p x.f0).map toM) := by
 intro n
 induction n with
 | zero =>
  intro i hi
  refine Ev.step (f := fun _ => some ((l.filter fun x => coversB p x.f0).map toM)) (fun k => ?_) (Ev.now _)
  simp only [merkle_Below.l0]
  rw [if_neg (by omega), List.take_of_length_le (by omega)]
 | succ n ih =>
  intro i hi
  have hlt : i < l.length := by omega
  have h2 := ih (i + 1) (by omega)
  have hf : ((l.take i).filter fun x => coversB p x.f0).length ≤ (l.take i).length := List.length_filter_le _ _
  have ht : (l.take i).length ≤ l.length := by rw [List.length_take]; omega
  rw [List.take_succ_eq_append_getElem hlt, List.filter_append, List.map_append] at h2
  refine Ev.step (fun k => ?_) h2
  simp only [merkle_Below.l0, rd_mine l i hlt, rd39_of l i hlt, covers_is, Option.bind_some, toM]
  rw [if_pos (by omega), if_pos (by omega), if_pos (by rw [List.length_map]; omega), wrap_succ hlt (by omega)]
  cases hc : coversB p l[i].f0
  ·rw [if_neg (by simp), List.filter_cons_of_neg (by simp [hc])]
   simp
  ·rw [if_pos rfl, if_pos (by rw [List.length_map]; omega), List.filter_cons_of_pos (by simp [hc])]
   simp
theorem below_ev (l : List S39) (p : ByteArray) (hl : l.length ≤ 1024) : Ev (fun k => merkle_Below.f k (l.map toM) p) (if listB l = true then (l.filter fun x => coversB p x.f0).map toM else []) := by
 simp only [merkle_Below.f]
 refine Ev.bind (check_ev l hl) ?_
 cases hb : listB l
 ·exact ifneg (by simp) (by simp; exact Ev.now _)
 refine ifpos (by simp) ?_
 simp only [if_true, List.length_map]
 exact below_loop l p (by omega) l.length 0 (by omega)
theorem rbelow_ev (l : List S39) (p : ByteArray) (hl : l.length ≤ 1024) : Ev (fun k => strongroomref20_Below.f k l p) (l.filter fun x => coversB p x.f0) := by
 have loop : ∀ (n i : Nat), i + n = l.length → Ev (fun k => strongroomref20_Below.l0 k l p ((l.take i).filter fun x => coversB p x.f0) (i : Int)) (l.filter fun x => coversB p x.f0) := by
  intro n
  induction n with
  | zero =>
   intro i hi
   refine Ev.step (f := fun _ => some (l.filter fun x => coversB p x.f0)) (fun k => ?_) (Ev.now _)
   simp only [strongroomref20_Below.l0]
   rw [if_neg (by omega), List.take_of_length_le (by omega)]
  | succ n ih =>
   intro i hi
   have hlt : i < l.length := by omega
   have h2 := ih (i + 1) (by omega)
   have hf : ((l.take i).filter fun x => coversB p x.f0).length ≤ (l.take i).length := List.length_filter_le _ _
   have ht : (l.take i).length ≤ l.length := by rw [List.length_take]; omega
   rw [List.take_succ_eq_append_getElem hlt, List.filter_append] at h2
   apply Ev.step (fun k => by simp only [strongroomref20_Below.l0, rd39_of l i hlt]; rw [if_pos (by omega), if_pos (by omega)])
   refine Ev.bind (rcovers_ev p l[i].f0) ?_
   cases hc : coversB p l[i].f0
   ·refine ifneg (by simp) ?_
    rw [List.filter_cons_of_neg (by simp [hc])] at h2
    simpa [wrap_succ hlt (show l.length < 1000000000000 by omega)] using h2
   ·refine ifpos rfl (ifpos (by omega) ?_)
    rw [List.filter_cons_of_pos (by simp [hc])] at h2
    simpa [wrap_succ hlt (show l.length < 1000000000000 by omega)] using h2
 exact loop l.length 0 (by omega)
theorem applyR_len (l : List S39) (c : List S67) : (applyR l c).1.length ≤ l.length + c.length := by
 have := fold_len c l
 unfold applyR
 split
 ·split
  ·split
   ·exact this
   ·simp
  ·simp
 ·simp
/-- MerkleApplies, of numbers and lists alone. -/
theorem MerkleApplies (l : List S39) (c : List S67) (p : ByteArray) : ∃ k, strongroomlaw20_MerkleApplies.f k l c p = some true := by
 refine Ev.rounds (g := fun k => strongroomlaw20_MerkleApplies.f k l c p) ?_
 simp only [strongroomlaw20_MerkleApplies.f]
 have hT : Ev (fun k => strongroomlaw20_MerkleApplies.j0 k l c p true) true := by
  refine Ev.step (fun k => ?_) lives_ev'
  simp only [strongroomlaw20_MerkleApplies.j0]
  rw [if_pos trivial]
 refine Ev.bind (small_ev l) ?_
 cases hs : smallX l
 ·exact ifneg (by simp) hT
 refine ifpos rfl ?_
 obtain ⟨hl, -⟩ := small_facts hs
 by_cases hc : c.length > 60
 ·exact ifpos (by omega) hT
 refine ifneg (by omega) ?_
 by_cases hp : (p.size : Int) > 200
 ·rw [decide_eq_true hp]; exact hT
 rw [decide_eq_false hp]
 refine Ev.step (f := fun k => strongroomlaw20_MerkleApplies.l0 k l c p ([] : List S66) 0) (fun k => ?_) ?_
 ·simp only [strongroomlaw20_MerkleApplies.j0]
  rw [if_neg (by simp)]
 have hE : Ev (fun k => strongroomlaw20_MerkleApplies.l0 k l c p (c.map toC) (c.length : Int)) true := by
  apply Ev.step (fun k => by simp only [strongroomlaw20_MerkleApplies.l0]; rw [if_neg (by omega)])
  have hn := applyR_len l c
  refine Ev.bind (mine_ev l (by omega)) (Ev.bind (papply_ev l c (by omega) (by omega)) (Ev.bind (rapply_ev l c (by omega) (by omega)) (Ev.bind (theirs_ev _ (by omega)) (Ev.bind (same_ev _ (by omega)) (ifpos rfl ?_)))))
  rw [bne_self_eq_false]
  apply Ev.step (fun k => by simp only [strongroomlaw20_MerkleApplies.j2]; rw [if_neg (by simp)])
  refine Ev.bind (mine_ev l (by omega)) (Ev.bind (below_ev l p (by omega)) (Ev.bind (list_ev l (by omega)) ?_))
  cases hb : listB l
  ·exact ifneg (by simp) (ifpos (by simp) lives_ev')
  refine ifpos rfl ?_
  have hf : (l.filter fun x => coversB p x.f0).length ≤ l.length := List.length_filter_le _ _
  rw [if_pos rfl]
  exact Ev.bind (theirs_ev _ (by omega)) (Ev.bind (rbelow_ev l p (by omega)) (Ev.bind (same_ev _ (by omega)) (ifpos rfl lives_ev')))
 have loop : ∀ (n i : Nat), i + n = c.length → Ev (fun k => strongroomlaw20_MerkleApplies.l0 k l c p ((c.take i).map toC) (i : Int)) true := by
  intro n
  induction n with
  | zero =>
   intro i hi
   rw [show i = c.length by omega, List.take_length]
   exact hE
  | succ n ih =>
   intro i hi
   have hlt : i < c.length := by omega
   have h2 := ih (i + 1) (by omega)
   rw [List.take_succ_eq_append_getElem hlt, List.map_append] at h2
   by_cases hg : (wrap64 ((wrap64 ((c[i].f0.size : Int) + (c[i].f1.size : Int))) + (c[i].f2.size : Int))) > 300
   ·refine Ev.step (fun k => ?_) lives_ev'
    simp only [strongroomlaw20_MerkleApplies.l0, rd67_of c i hlt]
    rw [if_pos (by omega), if_pos (by omega), if_pos hg]
   ·refine Ev.step (fun k => ?_) h2
    simp only [strongroomlaw20_MerkleApplies.l0, rd67_of c i hlt]
    rw [if_pos (by omega), if_pos (by omega), if_neg hg, if_pos (by rw [List.length_map, List.length_take]; omega), wrap_succ hlt (by omega)]
    rfl
 exact loop c.length 0 (by omega)

end Go.Proofs.YtdeggemomajhcaaDoor.Pure
