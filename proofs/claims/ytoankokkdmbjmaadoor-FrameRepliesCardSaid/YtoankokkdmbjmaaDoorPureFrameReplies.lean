/- The plain law of FrameReplies: of numbers and lists alone. -/
import Derived.Test.YtoankokkdmbjmaaDoorHFrameRepliesx19
import Derived.Laws.BitsAllLaws
namespace Go.Proofs.YtoankokkdmbjmaaDoor.Pure
open Go.RowKit Go.Proofs.YtoankokkdmbjmaaDoorH.HFrameReplies Go.Proofs.YtoankokkdmbjmaaDoorW.PrintWords Go.Proofs.YtoankokkdmbjmaaDoorW.PrintLast Go.Proofs.YtoankokkdmbjmaaDoorW.PrintMore

abbrev I (b : UInt8) : Int := (b.toNat : Int)
def putL (n : Nat) : List UInt8 := if n < 128 then [UInt8.ofNat n] else UInt8.ofNat (n % 128 + 128) :: putL (n / 128)
termination_by n
decreasing_by omega
theorem putL_small {n : Nat} (h : n < 128) : putL n = [UInt8.ofNat n] := by rw [putL, if_pos h]
theorem putL_big {n : Nat} (h : ¬ n < 128) : putL n = UInt8.ofNat (n % 128 + 128) :: putL (n / 128) := by rw [putL, if_neg h]
theorem putL_len : ∀ (k n : Nat), n < 128 ^ (k + 1) → (putL n).length ≤ k + 1
 | 0, n, h => by rw [putL_small (by simpa using h)]; simp
 | k + 1, n, h => by
  by_cases hn : n < 128
  ·rw [putL_small hn]; simp
  ·rw [putL_big hn, List.length_cons]
   have := putL_len k (n / 128) (by rw [Nat.div_lt_iff_lt_mul (by decide), ← Nat.pow_succ]; exact h)
   omega
theorem putL_ten {n : Nat} (h : n < 18446744073709551616) : (putL n).length ≤ 10 := putL_len 9 n (Nat.lt_trans h (by decide))
theorem or128 (n : Nat) : Go.bits .or .u8 ((n : Int) % 256) 128 = I (UInt8.ofNat (n % 128 + 128)) := by
 have h : ∀ m, m < 256 → Go.bits .or .u8 ((m : Nat) : Int) 128 = I (UInt8.ofNat (m % 128 + 128)) := by decide +kernel
 have h2 := h (n % 256) (Nat.mod_lt _ (by decide))
 rw [show ((n : Int) % 256) = ((n % 256 : Nat) : Int) by omega, h2, Nat.mod_mod_of_dvd n (by decide)]
theorem I_ofNat {n : Nat} (h : n < 256) : I (UInt8.ofNat n) = (n : Int) := by
 simp only [I, UInt8.toNat_ofNat']; omega
theorem mk_app (a b : List UInt8) : (⟨a.toArray⟩ : ByteArray) ++ ⟨b.toArray⟩ = ⟨(a ++ b).toArray⟩ := by
 apply ByteArray.ext
 simp [ByteArray.data_append]
theorem mk_size (a : List UInt8) : (⟨a.toArray⟩ : ByteArray).size = a.length := by simp [ByteArray.size]
theorem nums_mk (l : List UInt8) : strOfNums (l.map I) = ⟨l.toArray⟩ := by
 simp [strOfNums, I, Function.comp_def]
theorem bytes_mk (l : List UInt8) : bytesOf ⟨l.toArray⟩ = l.map I := by simp [bytesOf]
theorem u64_nat {n : Nat} (h : n < 18446744073709551616) : IntKind.u64.wrap (n : Int) = (n : Int) := by
 simp [IntKind.wrap, IntKind.bits, IntKind.signed]; omega
theorem ifpos {α : Type} {c : Prop} [Decidable c] {f g : Nat → Option α} {r : α} (h : c) (k : Ev f r) : Ev (fun n => if c then f n else g n) r := Ev.congr (fun _ => if_pos h) k
theorem ifneg {α : Type} {c : Prop} [Decidable c] {f g : Nat → Option α} {r : α} (h : ¬ c) (k : Ev g r) : Ev (fun n => if c then f n else g n) r := Ev.congr (fun _ => if_neg h) k
theorem lay_ev : ∀ (n : Nat) (l : List UInt8), l.length + (putL n).length < 140737488355328 → Ev (fun k => num_lay.l0 k (l.map I) (n : Int)) ((l ++ putL n).map I) := by
 intro n
 induction n using Nat.strongRecOn with
 | ind n ih =>
  intro l hl
  by_cases hn : n < 128
  ·rw [putL_small hn] at hl ⊢
   refine Ev.step (f := fun _ => some ((l ++ [UInt8.ofNat n]).map I)) (fun k => ?_) (Ev.now _)
   simp only [num_lay.l0]
   rw [if_neg (by omega), if_pos (by simp at hl ⊢; omega)]
   simp only [List.map_append, List.map_cons, List.map_nil, I_ofNat (show n < 256 by omega)]
   rw [show (n : Int) % 256 = (n : Int) by omega]
  ·rw [putL_big hn] at hl ⊢
   have h2 := ih (n / 128) (by omega) (l ++ [UInt8.ofNat (n % 128 + 128)]) (by simp at hl ⊢; omega)
   rw [show l ++ UInt8.ofNat (n % 128 + 128) :: putL (n / 128) = l ++ [UInt8.ofNat (n % 128 + 128)] ++ putL (n / 128) by simp]
   refine Ev.step (fun k => ?_) h2
   simp only [num_lay.l0]
   rw [if_pos (by omega), if_pos (by simp at hl ⊢; omega), or128, show (n : Int) / 128 = ((n / 128 : Nat) : Int) by omega]
   simp
theorem own_is (l : List Int) (h : l.length < 140737488355328) : num_own.f l = some l := by
 simp [num_own.f, h]
theorem put_ev (l : List UInt8) (n : Nat) (h : l.length + (putL n).length < 140737488355328) : Ev (fun k => num_Put.f k (l.map I) (n : Int)) ((l ++ putL n).map I) := by
 refine Ev.congr (f := fun k => (num_lay.l0 k (l.map I) (n : Int)).bind fun t => some t) (fun k => ?_) (Ev.bind (lay_ev n l h) (Ev.now _))
 simp only [num_Put.f, own_is _ (show (l.map I).length < 140737488355328 by simp; omega), Option.bind_some, num_lay.f]
theorem putText_ev (l s : List UInt8) (h : l.length + s.length + 10 < 140737488355328) (hs : s.length < 18446744073709551616) : Ev (fun k => num_PutText.f k (l.map I) ⟨s.toArray⟩) ((l ++ putL s.length ++ s).map I) := by
 have h10 := putL_ten hs
 refine Ev.congr (f := fun k => (num_lay.l0 k (l.map I) ((s.length : Nat) : Int)).bind fun t => if t.length + s.length < 140737488355328 then some (t ++ s.map I) else none) (fun k => ?_) (Ev.bind (lay_ev s.length l (by omega)) ?_)
 ·simp only [num_PutText.f, own_is _ (show (l.map I).length < 140737488355328 by simp; omega), Option.bind_some, num_lay.f, mk_size, bytes_mk, u64_nat hs]
 ·rw [if_pos (by simp; omega)]
  rw [← List.map_append]
  exact Ev.now _
theorem toList_data (s : ByteArray) : s.toList = s.data.toList := by rw [ByteArray.toList_eq]
theorem bt_mk (s : List UInt8) (i : Nat) (h : i < s.length) : bt ⟨s.toArray⟩ (i : Int) = I (s.getD i 0) := by
 have hs : i < (⟨s.toArray⟩ : ByteArray).size := by rw [mk_size]; exact h
 simp only [bt, Int.toNat_natCast, hs, dite_true, I]
 simp [List.getD_eq_getElem?_getD, h]
 rfl
theorem drop_nil_len {α : Type} {l : List α} {i : Nat} (h : l.drop i = []) (hi : i ≤ l.length) : i = l.length := by
 have := congrArg List.length h
 simp at this; omega
theorem wrap_succ {i n : Nat} (h : i < n) (hn : n < 1000000000000) : wrap64 ((i : Int) + 1) = ((i + 1 : Nat) : Int) := by unfold wrap64; omega
theorem all_loop {α : Type} (l : List α) (P : α → Bool) (F : Nat → Int → Option Bool)
  (ht : ∀ i c cs, l.drop i = c :: cs → P c = true → ∀ r, Ev (fun k => F k ((i + 1 : Nat) : Int)) r → Ev (fun k => F k (i : Int)) r)
  (hf : ∀ i c cs, l.drop i = c :: cs → P c = false → Ev (fun k => F k (i : Int)) false)
  (he : Ev (fun k => F k ((l.length : Nat) : Int)) true) : ∀ (cs : List α) (i : Nat), l.drop i = cs → i ≤ l.length → Ev (fun k => F k (i : Int)) (cs.all P) := by
 intro cs
 induction cs with
 | nil =>
  intro i hd hi
  rw [drop_nil_len hd hi]
  exact he
 | cons c cs ih =>
  intro i hd hi
  have hlt : i < l.length := by
   rcases Nat.lt_or_ge i l.length with g | g
   ·exact g
   ·rw [List.drop_eq_nil_of_le g] at hd; cases hd
  have hd2 : l.drop (i + 1) = cs := by
   have := congrArg List.tail hd
   simpa [List.tail_drop] using this
  cases hc : P c
  ·rw [List.all_cons, hc]; exact hf i c cs hd hc
  ·rw [List.all_cons, hc]; exact ht i c cs hd hc _ (ih (i + 1) hd2 hlt)
theorem goodB_le {a : ByteArray} (h : goodB a = true) : a.size ≤ 32 := by
 simp [goodB] at h; omega
theorem rput_ev : ∀ (n : Nat), n < 18446744073709551616 → Ev (fun k => strongroomref01_Put.f k (n : Int)) ⟨(putL n).toArray⟩ := by
 intro n
 induction n using Nat.strongRecOn with
 | ind n ih =>
  intro hb
  by_cases hn : n < 128
  ·rw [putL_small hn]
   refine Ev.step (f := fun _ => some (⟨[UInt8.ofNat n].toArray⟩ : ByteArray)) (fun k => ?_) (Ev.now _)
   simp only [strongroomref01_Put.f]
   rw [if_pos (by omega), ← nums_mk]
   simp only [List.map_cons, List.map_nil, I_ofNat (show n < 256 by omega)]
   rw [show (n : Int) % 256 = (n : Int) by omega]
  ·have h2 := ih (n / 128) (by omega) (by omega)
   have hl := putL_ten (n := n / 128) (by omega)
   rw [putL_big hn]
   refine Ev.step (f := fun k => (strongroomref01_Put.f k ((n / 128 : Nat) : Int)).bind fun t => if (⟨[UInt8.ofNat (n % 128 + 128)].toArray⟩ : ByteArray).size + t.size ≤ 9223372036854775807 then some (⟨[UInt8.ofNat (n % 128 + 128)].toArray⟩ ++ t) else none) (fun k => ?_) (Ev.bind h2 ?_)
   ·simp only [strongroomref01_Put.f]
    rw [if_neg (by omega), ← nums_mk]
    have e1 : Int.tmod (n : Int) 128 = ((n % 128 : Nat) : Int) := by rw [Int.tmod_eq_emod_of_nonneg (by omega)]; omega
    have e2 : Int.tdiv (n : Int) 128 = ((n / 128 : Nat) : Int) := by rw [Int.tdiv_eq_ediv_of_nonneg (by omega)]; omega
    rw [e1, e2, u64_nat (show n / 128 < 18446744073709551616 by omega), show ((n % 128 : Nat) : Int) + 128 = ((n % 128 + 128 : Nat) : Int) by omega, u64_nat (by omega)]
    simp only [Option.bind_some, List.map_cons, List.map_nil, I_ofNat (show n % 128 + 128 < 256 by omega)]
    rw [show ((n % 128 + 128 : Nat) : Int) % 256 = ((n % 128 + 128 : Nat) : Int) by omega]
   ·rw [if_pos (by rw [mk_size, mk_size]; simp; omega), mk_app]
    exact Ev.now _
theorem rtext_ev (s : List UInt8) (hs : s.length < 140737488355328) : Ev (fun k => strongroomref01_Text.f k ⟨s.toArray⟩) ⟨(putL s.length ++ s).toArray⟩ := by
 have h10 := putL_ten (n := s.length) (by omega)
 refine Ev.congr (f := fun k => (strongroomref01_Put.f k ((s.length : Nat) : Int)).bind fun t => if t.size + (⟨s.toArray⟩ : ByteArray).size ≤ 9223372036854775807 then some (t ++ ⟨s.toArray⟩) else none) (fun k => ?_) (Ev.bind (rput_ev s.length (by omega)) ?_)
 ·simp only [strongroomref01_Text.f, mk_size, u64_nat (show s.length < 18446744073709551616 by omega)]
 ·rw [if_pos (by rw [mk_size, mk_size]; omega), mk_app]
  exact Ev.now _
/-- a text cut at its strokes -/
def cutL : List UInt8 → List (List UInt8)
 | [] => [[]]
 | b :: l => if b = 47 then [] :: cutL l else match cutL l with
  | [] => [[b]]
  | h :: t => (b :: h) :: t
theorem cutL_ne : ∀ l : List UInt8, cutL l ≠ []
 | [] => by simp [cutL]
 | b :: l => by
  unfold cutL
  split
  ·simp
  ·cases h : cutL l <;> simp
theorem splitK_ne (b : UInt8) (l : List UInt8) (h : b ≠ 47) (k : Nat) : Go.Lib.splitK [47] 0 k (b :: l) = match Go.Lib.splitK [47] 0 k l with
  | [] => [[b]]
  | x :: t => (b :: x) :: t := by
 cases k with
 | zero => rfl
 | succ k =>
  have hp : ([47] : List UInt8).isPrefixOf (b :: l) = false := by simp [List.isPrefixOf, Ne.symm h]
  have hix : Go.Lib.index (b :: l) [47] = if Go.Lib.index l [47] == -1 then -1 else Go.Lib.index l [47] + 1 := by rw [Go.Lib.index, hp]; simp
  by_cases hm : Go.Lib.index l [47] = -1
  ·simp only [Go.Lib.splitK, hix, hm]
   rfl
  ·have hge := Go.Lib.index_ge l [47]
   have hm2 : (Go.Lib.index l [47] == -1) = false := beq_eq_false_iff_ne.2 hm
   have hm3 : (Go.Lib.index l [47] + 1 == -1) = false := beq_eq_false_iff_ne.2 (by omega)
   simp only [Go.Lib.splitK, hix, hm2, hm3, Bool.false_eq_true, if_false]
   have e : (Go.Lib.index l [47] + 1).toNat = (Go.Lib.index l [47]).toNat + 1 := by omega
   rw [e]
   simp
theorem splitK_cutL : ∀ l : List UInt8, Go.Lib.splitK [47] 0 (Go.Lib.count l [47]) l = cutL l
 | [] => by rw [Go.Lib.count_miss (by simp [Go.Lib.index])]; rfl
 | b :: l => by
  by_cases h : b = 47
  ·subst h
   have hix : Go.Lib.index (47 :: l) [47] = 0 := by rw [Go.Lib.index]; simp [List.isPrefixOf]
   rw [Go.Lib.count_cons_eq, Nat.add_comm]
   simp only [Go.Lib.splitK, hix]
   rw [if_neg (by decide)]
   simp only [cutL, if_true, ← splitK_cutL l]
   rfl
  ·rw [Go.Lib.count_cons_ne b 47 l h, splitK_ne b l h, splitK_cutL l]
   simp only [cutL, if_neg h]
theorem pieces_data (s : ByteArray) : (pieces s).map (·.data.toList) = cutL s.data.toList := by
 rw [pieces, Go.Lib.splitB_data]
 exact splitK_cutL s.data.toList
/-- is a text a path, in plain lists -/
def goodL (s : List UInt8) : Bool := decide (1 ≤ s.length) && decide (s.length ≤ 32) && (cutL s).all nameB
theorem goodB_goodL (s : ByteArray) : goodB s = goodL s.data.toList := by
 unfold goodB goodL
 rw [← pieces_data, List.all_map]
 rfl
/-- the same cut, with what stands ahead -/
def cutG : List UInt8 → List UInt8 → List (List UInt8)
 | cur, [] => [cur]
 | cur, b :: l => if b = 47 then cur :: cutG [] l else cutG (cur ++ [b]) l
theorem cutG_eq : ∀ (l cur : List UInt8), cutG cur l = match cutL l with | [] => [cur] | h :: t => (cur ++ h) :: t
 | [], cur => by simp [cutG, cutL]
 | b :: l, cur => by
  unfold cutG cutL
  by_cases h : b = 47
  ·rw [if_pos h, if_pos h, cutG_eq l []]
   cases hc : cutL l with
   | nil => exact absurd hc (cutL_ne l)
   | cons x t => simp
  ·rw [if_neg h, if_neg h, cutG_eq l (cur ++ [b])]
   cases hc : cutL l with
   | nil => simp
   | cons x t => simp
theorem cutG_nil (l : List UInt8) : cutG [] l = cutL l := by
 rw [cutG_eq]
 cases hc : cutL l with
 | nil => exact absurd hc (cutL_ne l)
 | cons x t => simp
abbrev mkB (p : List UInt8) : ByteArray := ⟨p.toArray⟩
theorem extract_mk (s : List UInt8) (a b : Nat) : (⟨s.toArray⟩ : ByteArray).extract a b = mkB ((s.drop a).take (b - a)) := by
 apply ByteArray.ext
 rw [ByteArray.data_extract]
 simp [List.extract_eq_take_drop]
theorem drop_cons_facts {α : Type} {l : List α} {i : Nat} {c : α} {cs : List α} (h : l.drop i = c :: cs) : l[i]? = some c ∧ l.drop (i + 1) = cs ∧ i < l.length := by
 have hlt : i < l.length := by
  rcases Nat.lt_or_ge i l.length with g | g
  ·exact g
  ·rw [List.drop_eq_nil_of_le g] at h; cases h
 refine ⟨?_, ?_, hlt⟩
 ·have := congrArg List.head? h
  simpa [List.head?_drop] using this
 ·have := congrArg List.tail h
  simpa [List.tail_drop] using this
theorem getD_of {l : List UInt8} {i : Nat} {c : UInt8} (h : l[i]? = some c) : l.getD i 0 = c := by rw [List.getD_eq_getElem?_getD, h]; rfl
theorem take_piece {s : List UInt8} {f i : Nat} {b : UInt8} (hf : f ≤ i) (hb : s[i]? = some b) : (s.drop f).take (i + 1 - f) = (s.drop f).take (i - f) ++ [b] := by
 rw [show i + 1 - f = (i - f) + 1 by omega, List.take_add_one, List.getElem?_drop, show f + (i - f) = i by omega, hb]; rfl
theorem cut_loop (s : List UInt8) (hs : s.length < 1000000) : ∀ (rest : List UInt8) (i f : Nat) (acc : List ByteArray), s.drop i = rest → f ≤ i → i ≤ s.length → acc.length ≤ i → Ev (fun k => strongroomref05_Cut.l0 k ⟨s.toArray⟩ acc (f : Int) (i : Int)) (acc ++ (cutG ((s.drop f).take (i - f)) rest).map mkB) := by
 intro rest
 induction rest with
 | nil =>
  intro i f acc hd hf hi ha
  have hl := drop_nil_len hd hi
  refine Ev.step (f := fun k => strongroomref05_Cut.l0 k ⟨s.toArray⟩ (acc ++ [mkB ((s.drop f).take (i - f))]) (wrap64 ((i : Int) + 1)) (wrap64 ((i : Int) + 1))) (fun k => ?_) (Ev.step (f := fun _ => some (acc ++ [mkB ((s.drop f).take (i - f))])) (fun k => ?_) (Ev.now _))
  ·simp only [strongroomref05_Cut.l0, mk_size]
   rw [if_pos (by omega), if_pos (by omega), if_pos (by omega), if_pos (by omega), if_pos (by omega), Int.toNat_natCast, Int.toNat_natCast, extract_mk]
  ·simp only [strongroomref05_Cut.l0, mk_size]
   rw [if_neg (by unfold wrap64; omega)]
 | cons b rest ih =>
  intro i f acc hd hf hi ha
  obtain ⟨h1, h2, h3⟩ := drop_cons_facts hd
  have hb : bt ⟨s.toArray⟩ (i : Int) = I b := by rw [bt_mk s i h3, getD_of h1]
  have hw := wrap_succ h3 (by omega)
  by_cases h47 : b = 47
  ·have h := ih (i + 1) (i + 1) (acc ++ [mkB ((s.drop f).take (i - f))]) h2 (Nat.le_refl _) h3 (by simp; omega)
   rw [Nat.sub_self, List.take_zero] at h
   rw [cutG, if_pos h47, List.map_cons]
   rw [List.append_assoc, List.singleton_append] at h
   refine Ev.step (fun k => ?_) h
   simp only [strongroomref05_Cut.l0, mk_size]
   rw [if_pos (by omega), if_neg (by omega), if_pos (by omega), if_pos (by omega), hb, if_pos (by rw [h47]; rfl), if_pos (by omega), if_pos (by omega), if_pos (by omega), Int.toNat_natCast, Int.toNat_natCast, extract_mk, hw]
  ·have h := ih (i + 1) f acc h2 (by omega) h3 (by omega)
   rw [take_piece hf h1] at h
   rw [cutG, if_neg h47]
   refine Ev.step (fun k => ?_) h
   simp only [strongroomref05_Cut.l0, mk_size]
   rw [if_pos (by omega), if_neg (by omega), if_pos (by omega), if_pos (by omega), hb, if_neg (by intro h; exact h47 (UInt8.toNat.inj (show b.toNat = 47 by simp only [I] at h; omega))), hw]
theorem cut_ev (s : List UInt8) (hs : s.length < 1000000) : Ev (fun k => strongroomref05_Cut.f k ⟨s.toArray⟩) ((cutL s).map mkB) := by
 simp only [strongroomref05_Cut.f]
 have h := cut_loop s hs s 0 0 [] rfl (Nat.le_refl _) (Nat.zero_le _) (Nat.zero_le _)
 simp only [Nat.sub_self, List.take_zero, List.nil_append, cutG_nil] at h
 exact h
theorem nameJ_t (s : ByteArray) : Ev (fun k => strongroomref05_Name.j0 k s true) false :=
 Ev.step (f := fun _ => some false) (fun k => by simp only [strongroomref05_Name.j0]; rw [if_pos trivial]) (Ev.now _)
theorem nameLoop_ev (s : List UInt8) (hs : s.length < 1000000) : Ev (fun k => strongroomref05_Name.l0 k ⟨s.toArray⟩ 0) (s.all okB) := by
 refine all_loop s okB (fun k i => strongroomref05_Name.l0 k ⟨s.toArray⟩ i) (fun i c cs hd hc r hr => ?_) (fun i c cs hd hc => ?_) ?_ s 0 rfl (Nat.zero_le _)
 ·obtain ⟨h1, h2, h3⟩ := drop_cons_facts hd
  have hb : bt ⟨s.toArray⟩ (i : Int) = I c := by rw [bt_mk s i h3, getD_of h1]
  rw [okB_okI] at hc
  have hk := okI_true hc
  refine Ev.step (f := fun k => strongroomref05_Name.j2 k ⟨s.toArray⟩ (i : Int) true) (fun k => ?_) (Ev.step (fun k => ?_) hr)
  ·simp only [strongroomref05_Name.l0, mk_size, hb]
   rw [if_pos (by omega), if_pos (by omega)]
   simp only [I]
   repeat' split
   all_goals first | rfl | (exfalso; omega) | (rw [show (((c.toNat : Int)) == 46) = true from by rw [beq_iff_eq]; omega])
  ·simp only [strongroomref05_Name.j2]
   rw [if_pos trivial, wrap_succ h3 (by omega)]
 ·obtain ⟨h1, h2, h3⟩ := drop_cons_facts hd
  have hb : bt ⟨s.toArray⟩ (i : Int) = I c := by rw [bt_mk s i h3, getD_of h1]
  rw [okB_okI] at hc
  have hk := okI_false hc
  refine Ev.step (f := fun k => strongroomref05_Name.j2 k ⟨s.toArray⟩ (i : Int) false) (fun k => ?_) (Ev.step (f := fun _ => some false) (fun k => ?_) (Ev.now _))
  ·simp only [strongroomref05_Name.l0, mk_size, hb]
   rw [if_pos (by omega), if_pos (by omega)]
   simp only [I]
   repeat' split
   all_goals first | rfl | (exfalso; omega) | (rw [show (((c.toNat : Int)) == 46) = false from by rw [beq_eq_false_iff_ne]; omega])
  ·simp only [strongroomref05_Name.j2]
   rw [if_neg (by simp)]
 ·refine Ev.step (f := fun _ => some true) (fun k => ?_) (Ev.now _)
  simp only [strongroomref05_Name.l0, mk_size]
  rw [if_neg (by omega)]
theorem rname_ev (s : List UInt8) (hs : s.length < 1000000) : Ev (fun k => strongroomref05_Name.f k ⟨s.toArray⟩) (nameB s) := by
 simp only [strongroomref05_Name.f, toList_data, mk_size]
 by_cases h0 : s = []
 ·refine ifpos h0 ?_
  subst h0
  exact nameJ_t _
 refine ifneg h0 ?_
 have hl : 1 ≤ s.length := by
  rcases s with _ | ⟨b, s⟩
  ·exact absurd rfl h0
  ·simp
 by_cases h1 : 12 < s.length
 ·refine ifpos (by omega) ?_
  rw [show nameB s = false by rw [nameB, show decide (s.length ≤ 12) = false from decide_eq_false (by omega)]; simp]
  exact nameJ_t _
 refine ifneg (by omega) ?_
 by_cases h2 : s = [46]
 ·refine ifpos h2 ?_
  subst h2
  exact nameJ_t _
 refine ifneg h2 ?_
 by_cases h3 : s = [46, 46]
 ·subst h3
  exact nameJ_t _
 rw [show ((s.toArray).toList == [46, 46]) = false from beq_eq_false_iff_ne.2 h3]
 rw [show nameB s = s.all okB by
  rw [nameB, show decide (1 ≤ s.length) = true from decide_eq_true hl, show decide (s.length ≤ 12) = true from decide_eq_true (by omega), show (s == [46]) = false from beq_eq_false_iff_ne.2 h2, show (s == [46, 46]) = false from beq_eq_false_iff_ne.2 h3]; rfl]
 refine Ev.step (fun k => ?_) (nameLoop_ev s hs)
 simp only [strongroomref05_Name.j0]
 rw [if_neg (by simp)]
theorem cutL_len : ∀ (l : List UInt8), (cutL l).length ≤ l.length + 1
 | [] => by simp [cutL]
 | b :: l => by
  have ih := cutL_len l
  unfold cutL
  split
  ·simp; omega
  ·cases hc : cutL l with
   | nil => simp
   | cons x t => rw [hc] at ih; simp at ih ⊢; omega
theorem cutL_piece : ∀ (l : List UInt8) (x : List UInt8), x ∈ cutL l → x.length ≤ l.length
 | [], x, h => by simp [cutL] at h; simp [h]
 | b :: l, x, h => by
  unfold cutL at h
  split at h
  ·rcases List.mem_cons.1 h with rfl | h
   ·simp
   ·have := cutL_piece l x h; simp; omega
  ·cases hc : cutL l with
   | nil => rw [hc] at h; simp at h; simp [h]
   | cons y t =>
    rw [hc] at h
    rcases List.mem_cons.1 h with rfl | h
    ·have := cutL_piece l y (by rw [hc]; simp); simp; omega
    ·have := cutL_piece l x (by rw [hc]; simp [h]); simp; omega
theorem rgood_ev (s : List UInt8) : Ev (fun k => strongroomref05_Good.f k ⟨s.toArray⟩) (goodB ⟨s.toArray⟩) := by
 rw [goodB_goodL]
 show Ev _ (goodL s)
 simp only [strongroomref05_Good.f, mk_size]
 by_cases h : 32 < s.length
 ·refine ifpos (by omega) ?_
  rw [show goodL s = false by rw [goodL, show decide (s.length ≤ 32) = false from decide_eq_false (by omega)]; simp]
  exact Ev.now _
 refine ifneg (by omega) ?_
 refine Ev.bind (cut_ev s (by omega)) ?_
 have hlen := cutL_len s
 have key : goodL s = (cutL s).all nameB := by
  rw [goodL, show decide (s.length ≤ 32) = true from decide_eq_true (by omega)]
  rcases s with _ | ⟨b, s⟩
  ·rfl
  ·simp
 rw [key]
 refine all_loop (cutL s) nameB (fun k i => strongroomref05_Good.l0 k ((cutL s).map mkB) i) (fun i c cs hd hc r hr => ?_) (fun i c cs hd hc => ?_) ?_ (cutL s) 0 rfl (Nat.zero_le _)
 ·obtain ⟨h1, h2, h3⟩ := drop_cons_facts hd
  have hcl := cutL_piece s c (List.mem_of_getElem? h1)
  have hrd : rdOf ByteArray.empty ((cutL s).map mkB) (i : Int) = mkB c := by simp [rdOf, List.getD_eq_getElem?_getD, h1]
  refine Ev.step (f := fun k => (strongroomref05_Name.f k (mkB c)).bind fun t => if t = true then strongroomref05_Good.l0 k ((cutL s).map mkB) ((i + 1 : Nat) : Int) else some false) (fun k => ?_) ?_
  ·simp only [strongroomref05_Good.l0, List.length_map, hrd]
   rw [if_pos (by omega), if_pos (by omega), wrap_succ h3 (by omega)]
  ·refine Ev.bind (rname_ev c (by omega)) ?_
   exact ifpos hc hr
 ·obtain ⟨h1, h2, h3⟩ := drop_cons_facts hd
  have hcl := cutL_piece s c (List.mem_of_getElem? h1)
  have hrd : rdOf ByteArray.empty ((cutL s).map mkB) (i : Int) = mkB c := by simp [rdOf, List.getD_eq_getElem?_getD, h1]
  refine Ev.step (f := fun k => (strongroomref05_Name.f k (mkB c)).bind fun t => if t = true then strongroomref05_Good.l0 k ((cutL s).map mkB) ((i + 1 : Nat) : Int) else some false) (fun k => ?_) ?_
  ·simp only [strongroomref05_Good.l0, List.length_map, hrd]
   rw [if_pos (by omega), if_pos (by omega), wrap_succ h3 (by omega)]
  ·refine Ev.bind (rname_ev c (by omega)) ?_
   exact ifneg (by rw [hc]; simp) (Ev.now _)
 ·refine Ev.step (f := fun _ => some true) (fun k => ?_) (Ev.now _)
  simp only [strongroomref05_Good.l0, List.length_map]
  rw [if_neg (by omega)]
theorem rgood_ev' (p : ByteArray) : Ev (fun k => strongroomref05_Good.f k p) (goodB p) := rgood_ev p.data.toList
theorem ite_ev {α : Type} {c : Prop} [Decidable c] {f g : Nat → Option α} {r : α} (h1 : c → Ev f r) (h2 : ¬ c → Ev g r) : Ev (fun n => if c then f n else g n) r := by
 by_cases h : c
 ·exact ifpos h (h1 h)
 ·exact ifneg h (h2 h)
theorem ite_now {α : Type} {f : Nat → Option α} {a b : α} {d : Prop} [Decidable d] (h1 : d → Ev f a) (h2 : ¬ d → Ev f b) : Ev f (if d then a else b) := by
 by_cases h : d
 ·rw [if_pos h]; exact h1 h
 ·rw [if_neg h]; exact h2 h
theorem toList_nil (s : ByteArray) : (s.toList = ([] : List UInt8)) ↔ s.size = 0 := by
 rw [toList_data, ← List.length_eq_zero_iff]; exact Iff.rfl
theorem within_is (a b c : Int) : frame_within.f a b c = some (decide (b ≤ a ∧ a ≤ c)) := by
 unfold frame_within.f
 by_cases h : a ≥ b
 ·rw [if_pos h]; congr 1; simp only [decide_eq_decide]; omega
 ·rw [if_neg h, decide_eq_false (by omega)]
theorem either_is (s : ByteArray) (n : Int) : frame_either.f s n = some (decide (s.size = 0 ∨ (s.size : Int) = n)) := by
 simp only [frame_either.f, toList_nil]
 by_cases h : s.size = 0
 ·rw [if_pos h, decide_eq_true (Or.inl h)]
 ·rw [if_neg h]; congr 1
  rw [Bool.eq_iff_iff, decide_eq_true_eq, beq_iff_eq]; omega
/-- may a sign, a span, an entry be -/
def signOk (x : S65) : Bool := decide (x.f1.size = 16)
def spanOk (x : S74) : Bool := decide (0 ≤ x.f0 ∧ x.f0 ≤ 128 ∧ 0 ≤ x.f1 ∧ x.f1 ≤ 128)
def entOk (x : S67) : Bool := decide (1 ≤ x.f0 ∧ x.f0 ≤ 2147483648 ∧ 0 ≤ x.f1 ∧ x.f1 ≤ 1099511627776 ∧ 0 ≤ x.f2 ∧ x.f2 ≤ 100 ∧ x.f3.size ≤ 32 ∧ 0 ≤ x.f4 ∧ x.f4 ≤ 100)
theorem ent_is (x : S67) : frame_entryFits.f x.f0 x.f1 x.f2 x.f3 x.f4 = some (entOk x) := by
 simp only [frame_entryFits.f, within_is, Option.bind_some, decide_eq_true_eq, entOk]
 repeat' split
 all_goals (congr 1; first | (simp only [decide_eq_decide]; omega) | (symm; exact decide_eq_false (by omega)))
theorem rent_ev (x : S67) : Ev (fun k => strongroomref13_Good.f k x.f0 x.f1 x.f2 x.f3 x.f4) (entOk x) := by
 have hj : ∀ b : Bool, (b = true ↔ ¬ (1 ≤ x.f0 ∧ x.f0 ≤ 2147483648 ∧ 0 ≤ x.f1 ∧ x.f1 ≤ 1099511627776)) → Ev (fun k => strongroomref13_Good.j0 k b x.f0 x.f1 x.f2 x.f3 x.f4) (entOk x) := by
  intro b hb
  refine Ev.step (f := fun _ => some (entOk x)) (fun k => ?_) (Ev.now _)
  cases b
  ·have hP := Classical.not_not.1 fun h => Bool.false_ne_true (hb.2 h)
   simp only [strongroomref13_Good.j0, entOk, Bool.false_eq_true, if_false]
   repeat' split
   all_goals (congr 1; first | (simp only [decide_eq_decide]; omega) | (symm; exact decide_eq_false (by omega)))
  ·have hP := hb.1 rfl
   simp only [strongroomref13_Good.j0, entOk, if_true]
   rw [decide_eq_false (by omega)]
 simp only [strongroomref13_Good.f]
 repeat' refine ite_ev (fun _ => ?_) (fun _ => ?_)
 all_goals (refine hj _ ?_; first | (simp only [decide_eq_true_eq]; omega) | (simp only [true_iff]; omega))
theorem all_loopG {α β : Type} (l : List α) (P : α → Bool) (rt rf : β) (F : Nat → Int → Option β)
  (ht : ∀ i c cs, l.drop i = c :: cs → P c = true → ∀ r, Ev (fun k => F k ((i + 1 : Nat) : Int)) r → Ev (fun k => F k (i : Int)) r)
  (hf : ∀ i c cs, l.drop i = c :: cs → P c = false → Ev (fun k => F k (i : Int)) rf)
  (he : Ev (fun k => F k ((l.length : Nat) : Int)) rt) : ∀ (cs : List α) (i : Nat), l.drop i = cs → i ≤ l.length → Ev (fun k => F k (i : Int)) (if cs.all P = true then rt else rf) := by
 intro cs
 induction cs with
 | nil =>
  intro i hd hi
  rw [drop_nil_len hd hi]
  exact he
 | cons c cs ih =>
  intro i hd hi
  obtain ⟨_, hd2, hlt⟩ := drop_cons_facts hd
  cases hc : P c
  ·rw [List.all_cons, hc, Bool.false_and, if_neg (by simp)]; exact hf i c cs hd hc
  ·rw [List.all_cons, hc, Bool.true_and]; exact ht i c cs hd hc _ (ih (i + 1) hd2 hlt)
theorem rd65_at {l : List S65} {i : Nat} {c : S65} {cs : List S65} (h : l.drop i = c :: cs) : rd_T65 l (i : Int) = c := by
 simp [rd_T65, List.getD_eq_getElem?_getD, (drop_cons_facts h).1]
theorem rd74_at {l : List S74} {i : Nat} {c : S74} {cs : List S74} (h : l.drop i = c :: cs) : rd_T74 l (i : Int) = c := by
 simp [rd_T74, List.getD_eq_getElem?_getD, (drop_cons_facts h).1]
theorem rd67_at {l : List S67} {i : Nat} {c : S67} {cs : List S67} (h : l.drop i = c :: cs) : rd_T67 l (i : Int) = c := by
 simp [rd_T67, List.getD_eq_getElem?_getD, (drop_cons_facts h).1]
theorem rdS_at {l : List ByteArray} {i : Nat} {c : ByteArray} {cs : List ByteArray} (h : l.drop i = c :: cs) : rdOf ByteArray.empty l (i : Int) = c := by
 simp [rdOf, List.getD_eq_getElem?_getD, (drop_cons_facts h).1]
/-- may the lists of a reply be -/
def listsB (ps : List ByteArray) (sg : List S65) (sp : List S74) (es : List S67) (r : Bool) : Bool := if ps.all goodB = true then (if sg.all signOk = true then (if sp.all spanOk = true then (if es.all entOk = true then r else false) else false) else false) else false
section
variable (a0 a1 a2 : Int) (ps : List ByteArray) (d s : ByteArray) (sg : List S65) (sp : List S74) (nn : ByteArray) (es : List S67) (u al : Int)
theorem list3_ev (hl : es.length < 1000) : Ev (fun k => frame_listsFit.l3 k es (es.length : Int) 0) (if es.all entOk = true then true else false) := by
 refine all_loopG es entOk true false (fun k i => frame_listsFit.l3 k es (es.length : Int) i) (fun i c cs hd hc r hr => ?_) (fun i c cs hd hc => ?_) ?_ es 0 rfl (Nat.zero_le _)
 ·have hlt := (drop_cons_facts hd).2.2
  refine Ev.step (fun k => ?_) hr
  simp only [frame_listsFit.l3, rd67_at hd, ent_is, Option.bind_some]
  rw [if_pos (by omega), if_pos (by omega), if_pos (by omega), if_pos hc, wrap_succ hlt (by omega)]
 ·have hlt := (drop_cons_facts hd).2.2
  refine Ev.step (f := fun _ => some false) (fun k => ?_) (Ev.now _)
  simp only [frame_listsFit.l3, rd67_at hd, ent_is, Option.bind_some]
  rw [if_pos (by omega), if_pos (by omega), if_pos (by omega), if_neg (by simp [hc])]
 ·refine Ev.step (f := fun _ => some true) (fun k => ?_) (Ev.now _)
  simp only [frame_listsFit.l3]
  rw [if_neg (by omega)]
theorem list2_ev (hp : sp.length < 1000) (hl : es.length < 1000) : Ev (fun k => frame_listsFit.l2 k sp (sp.length : Int) 0 a0 a1 a2 ps d s sg sp nn es u al) (if sp.all spanOk = true then (if es.all entOk = true then true else false) else false) := by
 refine all_loopG sp spanOk _ false (fun k i => frame_listsFit.l2 k sp (sp.length : Int) i a0 a1 a2 ps d s sg sp nn es u al) (fun i c cs hd hc r hr => ?_) (fun i c cs hd hc => ?_) ?_ sp 0 rfl (Nat.zero_le _)
 ·have hlt := (drop_cons_facts hd).2.2
  refine Ev.step (fun k => ?_) hr
  simp only [spanOk, decide_eq_true_eq] at hc
  simp only [frame_listsFit.l2, rd74_at hd, within_is, Option.bind_some, decide_eq_true_eq]
  rw [if_pos (by omega), if_pos (by omega), if_pos (by omega), if_pos (by omega), if_pos (by omega), wrap_succ hlt (by omega)]
 ·have hlt := (drop_cons_facts hd).2.2
  refine Ev.step (f := fun _ => some false) (fun k => ?_) (Ev.now _)
  simp only [spanOk, decide_eq_false_iff_not] at hc
  simp only [frame_listsFit.l2, rd74_at hd, within_is, Option.bind_some, decide_eq_true_eq]
  rw [if_pos (by omega), if_pos (by omega), if_pos (by omega)]
  by_cases h : 0 ≤ c.f0 ∧ c.f0 ≤ 128
  ·rw [if_pos h, if_neg (by omega)]
  ·rw [if_neg h]
 ·refine Ev.step (fun k => ?_) (list3_ev es hl)
  simp only [frame_listsFit.l2]
  rw [if_neg (by omega)]
theorem list1_ev (hg : sg.length < 10000) (hp : sp.length < 1000) (hl : es.length < 1000) : Ev (fun k => frame_listsFit.l1 k sg (sg.length : Int) 0 a0 a1 a2 ps d s sg sp nn es u al) (if sg.all signOk = true then (if sp.all spanOk = true then (if es.all entOk = true then true else false) else false) else false) := by
 refine all_loopG sg signOk _ false (fun k i => frame_listsFit.l1 k sg (sg.length : Int) i a0 a1 a2 ps d s sg sp nn es u al) (fun i c cs hd hc r hr => ?_) (fun i c cs hd hc => ?_) ?_ sg 0 rfl (Nat.zero_le _)
 ·have hlt := (drop_cons_facts hd).2.2
  refine Ev.step (fun k => ?_) hr
  simp only [signOk, decide_eq_true_eq] at hc
  simp only [frame_listsFit.l1, rd65_at hd]
  rw [if_pos (by omega), if_pos (by omega), if_pos (by omega), if_pos (by omega), wrap_succ hlt (by omega)]
 ·have hlt := (drop_cons_facts hd).2.2
  refine Ev.step (f := fun _ => some false) (fun k => ?_) (Ev.now _)
  simp only [signOk, decide_eq_false_iff_not] at hc
  simp only [frame_listsFit.l1, rd65_at hd]
  rw [if_pos (by omega), if_pos (by omega), if_pos (by omega), if_neg (by omega)]
 ·refine Ev.step (fun k => ?_) (list2_ev a0 a1 a2 ps d s sg sp nn es u al hp hl)
  simp only [frame_listsFit.l1]
  rw [if_neg (by omega)]
theorem list0_ev (hs : ps.length < 1000) (hg : sg.length < 10000) (hp : sp.length < 1000) (hl : es.length < 1000) : Ev (fun k => frame_listsFit.l0 k ps (ps.length : Int) 0 a0 a1 a2 ps d s sg sp nn es u al) (listsB ps sg sp es true) := by
 refine all_loopG ps goodB _ false (fun k i => frame_listsFit.l0 k ps (ps.length : Int) i a0 a1 a2 ps d s sg sp nn es u al) (fun i c cs hd hc r hr => ?_) (fun i c cs hd hc => ?_) ?_ ps 0 rfl (Nat.zero_le _)
 ·have hlt := (drop_cons_facts hd).2.2
  refine Ev.step (fun k => ?_) hr
  simp only [frame_listsFit.l0, rdS_at hd, path_Good.f, Option.bind_some]
  rw [if_pos (by omega), if_pos (by omega), if_pos (by omega), if_pos hc, wrap_succ hlt (by omega)]
 ·have hlt := (drop_cons_facts hd).2.2
  refine Ev.step (f := fun _ => some false) (fun k => ?_) (Ev.now _)
  simp only [frame_listsFit.l0, rdS_at hd, path_Good.f, Option.bind_some]
  rw [if_pos (by omega), if_pos (by omega), if_pos (by omega), if_neg (by simp [hc])]
 ·refine Ev.step (fun k => ?_) (list1_ev a0 a1 a2 ps d s sg sp nn es u al hg hp hl)
  simp only [frame_listsFit.l0]
  rw [if_neg (by omega)]
/-- are the numbers, the short texts and the lengths within what they may be -/
def headP : Prop := (0 ≤ a0 ∧ a0 ≤ 3 ∧ 0 ≤ a1 ∧ a1 ≤ 2147483648 ∧ 0 ≤ a2 ∧ a2 ≤ 100) ∧ (ps.length ≤ 64 ∧ d.size ≤ 1024 ∧ (s.size = 0 ∨ s.size = 32) ∧ sg.length ≤ 1024 ∧ sp.length ≤ 4 ∧ (nn.size = 0 ∨ nn.size = 12) ∧ es.length ≤ 8)
def lastP : Prop := 0 ≤ u ∧ u ≤ 2097152 ∧ 0 ≤ al ∧ al ≤ 2097152
instance : Decidable (headP a0 a1 a2 ps d s sg sp nn es) := by unfold headP; infer_instance
instance : Decidable (lastP u al) := by unfold lastP; infer_instance
/-- may a reply be -/
def fitsB : Bool := if headP a0 a1 a2 ps d s sg sp nn es then listsB ps sg sp es (decide (lastP u al)) else false
theorem listsB_false : listsB ps sg sp es false = false := by
 unfold listsB; repeat' split
 all_goals rfl
theorem listsFit_ev (hs : ps.length < 1000) (hg : sg.length < 10000) (hp : sp.length < 1000) (hl : es.length < 1000) : Ev (fun k => frame_listsFit.f k a0 a1 a2 ps d s sg sp nn es u al) (if ps.length ≤ 64 ∧ sg.length ≤ 1024 ∧ sp.length ≤ 4 ∧ es.length ≤ 8 then listsB ps sg sp es true else false) := by
 have hj : ∀ b : Bool, (b = true ↔ ¬ (ps.length ≤ 64 ∧ sg.length ≤ 1024 ∧ sp.length ≤ 4 ∧ es.length ≤ 8)) → Ev (fun k => frame_listsFit.j0 k b a0 a1 a2 ps d s sg sp nn es u al) (if ps.length ≤ 64 ∧ sg.length ≤ 1024 ∧ sp.length ≤ 4 ∧ es.length ≤ 8 then listsB ps sg sp es true else false) := by
  intro b hb
  refine ite_now (fun h => ?_) (fun h => ?_)
  ·refine Ev.step (fun k => ?_) (list0_ev a0 a1 a2 ps d s sg sp nn es u al hs hg hp hl)
   simp only [frame_listsFit.j0]
   rw [if_neg (by rw [hb]; exact fun h' => h' h)]
  ·refine Ev.step (f := fun _ => some false) (fun k => ?_) (Ev.now _)
   simp only [frame_listsFit.j0]
   rw [if_pos (hb.2 h)]
 simp only [frame_listsFit.f]
 repeat' refine ite_ev (fun _ => ?_) (fun _ => ?_)
 all_goals (refine hj _ ?_; first | (simp only [decide_eq_true_eq]; omega) | (simp only [true_iff]; omega))
theorem fits_ev (hs : ps.length < 1000) (hg : sg.length < 10000) (hp : sp.length < 1000) (hl : es.length < 1000) : Ev (fun k => frame_Fits.f k a0 a1 a2 ps d s sg sp nn es u al) (fitsB a0 a1 a2 ps d s sg sp nn es u al) := by
 simp only [frame_Fits.f, within_is, either_is, Option.bind_some, decide_eq_true_eq, fitsB]
 refine ite_now (fun h => ?_) (fun h => ?_)
 ·simp only [headP] at h
  refine ifpos (by omega) (ifpos (by omega) (ifpos (by omega) (ifpos (by omega) (ifpos (by omega) (ifpos (by omega) ?_)))))
  by_cases hla : lastP u al
  ·rw [decide_eq_true hla]
   simp only [lastP] at hla
   refine ifpos (by omega) (ifpos (by omega) (Ev.bind (listsFit_ev a0 a1 a2 ps d s sg sp nn es u al hs hg hp hl) ?_))
   rw [if_pos (by omega)]
   exact Ev.now _
  ·rw [decide_eq_false hla, listsB_false]
   simp only [lastP] at hla
   refine ite_ev (fun _ => ite_ev (fun _ => ?_) (fun _ => Ev.now _)) (fun _ => Ev.now _)
   omega
 ·simp only [headP] at h
  repeat' refine ite_ev (fun _ => ?_) (fun _ => ?_)
  all_goals first | exact Ev.now _ | skip
  refine Ev.bind (listsFit_ev a0 a1 a2 ps d s sg sp nn es u al hs hg hp hl) ?_
  rw [if_neg (by omega)]
  exact Ev.now _
end
section
variable (a0 a1 a2 : Int) (ps : List ByteArray) (d s : ByteArray) (sg : List S65) (sp : List S74) (nn : ByteArray) (es : List S67) (u al : Int)
theorem rlist3_ev (hl : es.length < 1000) : Ev (fun k => strongroomref25_Fits.l3 k 0 a0 a1 a2 ps d s sg sp nn es u al) (if es.all entOk = true then decide (lastP u al) else false) := by
 refine all_loopG es entOk _ false (fun k i => strongroomref25_Fits.l3 k i a0 a1 a2 ps d s sg sp nn es u al) (fun i c cs hd hc r hr => ?_) (fun i c cs hd hc => ?_) ?_ es 0 rfl (Nat.zero_le _)
 ·have hlt := (drop_cons_facts hd).2.2
  refine Ev.step (f := fun k => (strongroomref13_Good.f k c.f0 c.f1 c.f2 c.f3 c.f4).bind fun t => if t = true then strongroomref25_Fits.l3 k ((i + 1 : Nat) : Int) a0 a1 a2 ps d s sg sp nn es u al else some false) (fun k => ?_) (Ev.bind (rent_ev c) (ifpos hc hr))
  simp only [strongroomref25_Fits.l3, rd67_at hd]
  rw [if_pos (by omega), if_pos (by omega), wrap_succ hlt (by omega)]
 ·have hlt := (drop_cons_facts hd).2.2
  refine Ev.step (f := fun k => (strongroomref13_Good.f k c.f0 c.f1 c.f2 c.f3 c.f4).bind fun t => if t = true then strongroomref25_Fits.l3 k ((i + 1 : Nat) : Int) a0 a1 a2 ps d s sg sp nn es u al else some false) (fun k => ?_) (Ev.bind (rent_ev c) (ifneg (by simp [hc]) (Ev.now _)))
  simp only [strongroomref25_Fits.l3, rd67_at hd]
  rw [if_pos (by omega), if_pos (by omega), wrap_succ hlt (by omega)]
 ·refine Ev.step (f := fun _ => some (decide (lastP u al))) (fun k => ?_) (Ev.now _)
  simp only [strongroomref25_Fits.l3]
  rw [if_neg (by omega)]
  by_cases hla : lastP u al
  ·rw [decide_eq_true hla]
   simp only [lastP] at hla
   rw [if_pos (by omega), if_pos (by omega), if_pos (by omega), decide_eq_true (by omega)]
  ·rw [decide_eq_false hla]
   simp only [lastP] at hla
   repeat' split
   all_goals first | rfl | rw [decide_eq_false (by omega)]
theorem rlist2_ev (hp : sp.length < 1000) (hl : es.length < 1000) : Ev (fun k => strongroomref25_Fits.l2 k 0 a0 a1 a2 ps d s sg sp nn es u al) (if sp.all spanOk = true then (if es.all entOk = true then decide (lastP u al) else false) else false) := by
 refine all_loopG sp spanOk _ false (fun k i => strongroomref25_Fits.l2 k i a0 a1 a2 ps d s sg sp nn es u al) (fun i c cs hd hc r hr => ?_) (fun i c cs hd hc => ?_) ?_ sp 0 rfl (Nat.zero_le _)
 ·have hlt := (drop_cons_facts hd).2.2
  simp only [spanOk, decide_eq_true_eq] at hc
  refine Ev.step (f := fun k => strongroomref25_Fits.j5 k (i : Int) false a0 a1 a2 ps d s sg sp nn es u al) (fun k => ?_) (Ev.step (fun k => ?_) hr)
  ·simp only [strongroomref25_Fits.l2, rd74_at hd]
   rw [if_pos (by omega), if_pos (by omega), if_neg (by omega), if_neg (by omega), if_neg (by omega), decide_eq_false (by omega)]
  ·simp only [strongroomref25_Fits.j5]
   rw [if_neg (by simp), wrap_succ hlt (by omega)]
 ·have hlt := (drop_cons_facts hd).2.2
  simp only [spanOk, decide_eq_false_iff_not] at hc
  refine Ev.step (f := fun k => strongroomref25_Fits.j5 k (i : Int) true a0 a1 a2 ps d s sg sp nn es u al) (fun k => ?_) (Ev.step (f := fun _ => some false) (fun k => ?_) (Ev.now _))
  ·simp only [strongroomref25_Fits.l2, rd74_at hd]
   rw [if_pos (by omega), if_pos (by omega)]
   repeat' split
   all_goals first | rfl | rw [decide_eq_true (by omega)]
  ·simp only [strongroomref25_Fits.j5]
   rw [if_pos trivial]
 ·refine Ev.step (fun k => ?_) (rlist3_ev a0 a1 a2 ps d s sg sp nn es u al hl)
  simp only [strongroomref25_Fits.l2]
  rw [if_neg (by omega)]
theorem rlist1_ev (hg : sg.length < 10000) (hp : sp.length < 1000) (hl : es.length < 1000) : Ev (fun k => strongroomref25_Fits.l1 k 0 a0 a1 a2 ps d s sg sp nn es u al) (if sg.all signOk = true then (if sp.all spanOk = true then (if es.all entOk = true then decide (lastP u al) else false) else false) else false) := by
 refine all_loopG sg signOk _ false (fun k i => strongroomref25_Fits.l1 k i a0 a1 a2 ps d s sg sp nn es u al) (fun i c cs hd hc r hr => ?_) (fun i c cs hd hc => ?_) ?_ sg 0 rfl (Nat.zero_le _)
 ·have hlt := (drop_cons_facts hd).2.2
  refine Ev.step (fun k => ?_) hr
  simp only [signOk, decide_eq_true_eq] at hc
  simp only [strongroomref25_Fits.l1, rd65_at hd]
  rw [if_pos (by omega), if_pos (by omega), if_pos (by omega), wrap_succ hlt (by omega)]
 ·have hlt := (drop_cons_facts hd).2.2
  refine Ev.step (f := fun _ => some false) (fun k => ?_) (Ev.now _)
  simp only [signOk, decide_eq_false_iff_not] at hc
  simp only [strongroomref25_Fits.l1, rd65_at hd]
  rw [if_pos (by omega), if_pos (by omega), if_neg (by omega)]
 ·refine Ev.step (fun k => ?_) (rlist2_ev a0 a1 a2 ps d s sg sp nn es u al hp hl)
  simp only [strongroomref25_Fits.l1]
  rw [if_neg (by omega)]
theorem rlist0_ev (hs : ps.length < 1000) (hg : sg.length < 10000) (hp : sp.length < 1000) (hl : es.length < 1000) : Ev (fun k => strongroomref25_Fits.l0 k 0 a0 a1 a2 ps d s sg sp nn es u al) (listsB ps sg sp es (decide (lastP u al))) := by
 refine all_loopG ps goodB _ false (fun k i => strongroomref25_Fits.l0 k i a0 a1 a2 ps d s sg sp nn es u al) (fun i c cs hd hc r hr => ?_) (fun i c cs hd hc => ?_) ?_ ps 0 rfl (Nat.zero_le _)
 ·have hlt := (drop_cons_facts hd).2.2
  refine Ev.step (f := fun k => (strongroomref05_Good.f k c).bind fun t => if t = true then strongroomref25_Fits.l0 k ((i + 1 : Nat) : Int) a0 a1 a2 ps d s sg sp nn es u al else some false) (fun k => ?_) (Ev.bind (rgood_ev' c) (ifpos hc hr))
  simp only [strongroomref25_Fits.l0, rdS_at hd]
  rw [if_pos (by omega), if_pos (by omega), wrap_succ hlt (by omega)]
 ·have hlt := (drop_cons_facts hd).2.2
  refine Ev.step (f := fun k => (strongroomref05_Good.f k c).bind fun t => if t = true then strongroomref25_Fits.l0 k ((i + 1 : Nat) : Int) a0 a1 a2 ps d s sg sp nn es u al else some false) (fun k => ?_) (Ev.bind (rgood_ev' c) (ifneg (by simp [hc]) (Ev.now _)))
  simp only [strongroomref25_Fits.l0, rdS_at hd]
  rw [if_pos (by omega), if_pos (by omega), wrap_succ hlt (by omega)]
 ·refine Ev.step (fun k => ?_) (rlist1_ev a0 a1 a2 ps d s sg sp nn es u al hg hp hl)
  simp only [strongroomref25_Fits.l0]
  rw [if_neg (by omega)]
theorem rfits_ev (hs : ps.length < 1000) (hg : sg.length < 10000) (hp : sp.length < 1000) (hl : es.length < 1000) : Ev (fun k => strongroomref25_Fits.f k a0 a1 a2 ps d s sg sp nn es u al) (fitsB a0 a1 a2 ps d s sg sp nn es u al) := by
 have hfalse : ∀ (f : Nat → Option Bool), (¬ headP a0 a1 a2 ps d s sg sp nn es → Ev f false) → (headP a0 a1 a2 ps d s sg sp nn es → Ev f (listsB ps sg sp es (decide (lastP u al)))) → Ev f (fitsB a0 a1 a2 ps d s sg sp nn es u al) := fun f h1 h2 => ite_now h2 h1
 have hj1t : Ev (fun k => strongroomref25_Fits.j1 k true a0 a1 a2 ps d s sg sp nn es u al) false := by
  refine Ev.step (f := fun _ => some false) (fun k => ?_) (Ev.now _)
  simp only [strongroomref25_Fits.j1]
  rw [if_pos trivial]
 have hj1f : Ev (fun k => strongroomref25_Fits.j1 k false a0 a1 a2 ps d s sg sp nn es u al) (listsB ps sg sp es (decide (lastP u al))) := by
  refine Ev.step (fun k => ?_) (rlist0_ev a0 a1 a2 ps d s sg sp nn es u al hs hg hp hl)
  simp only [strongroomref25_Fits.j1]
  rw [if_neg (by simp)]
 have hj0t : Ev (fun k => strongroomref25_Fits.j0 k true a0 a1 a2 ps d s sg sp nn es u al) false := by
  refine Ev.step (f := fun _ => some false) (fun k => ?_) (Ev.now _)
  simp only [strongroomref25_Fits.j0]
  rw [if_pos trivial]
 have hj0f : (0 ≤ a0 ∧ a0 ≤ 3 ∧ 0 ≤ a1 ∧ a1 ≤ 2147483648 ∧ 0 ≤ a2 ∧ a2 ≤ 100) → Ev (fun k => strongroomref25_Fits.j0 k false a0 a1 a2 ps d s sg sp nn es u al) (fitsB a0 a1 a2 ps d s sg sp nn es u al) := by
  intro h0
  by_cases hh : headP a0 a1 a2 ps d s sg sp nn es
  ·rw [fitsB, if_pos hh]
   refine Ev.step (fun k => ?_) hj1f
   simp only [headP] at hh
   simp only [strongroomref25_Fits.j0, Bool.false_eq_true, if_false, toList_nil]
   rw [if_neg (by omega), if_neg (by omega)]
   repeat' split
   all_goals first | rfl | (exfalso; omega) | rw [decide_eq_false (by omega)]
  ·rw [fitsB, if_neg hh]
   refine Ev.step (fun k => ?_) hj1t
   simp only [headP] at hh
   simp only [strongroomref25_Fits.j0, Bool.false_eq_true, if_false, toList_nil]
   repeat' split
   all_goals first | rfl | (exfalso; omega) | rw [decide_eq_true (by omega)]
 have hno : ¬ (0 ≤ a0 ∧ a0 ≤ 3 ∧ 0 ≤ a1 ∧ a1 ≤ 2147483648 ∧ 0 ≤ a2 ∧ a2 ≤ 100) → fitsB a0 a1 a2 ps d s sg sp nn es u al = false := fun h => by
  rw [fitsB, if_neg (fun hh => h hh.1)]
 simp only [strongroomref25_Fits.f]
 repeat' refine ite_ev (fun _ => ?_) (fun _ => ?_)
 all_goals first | (rw [hno (by omega)]; exact hj0t) | skip
 by_cases h2 : a2 > 100
 ·rw [decide_eq_true h2, hno (by omega)]; exact hj0t
 ·rw [decide_eq_false h2]; exact hj0f (by omega)
end
/-- the bytes of a text, a sign, a span, an entry -/
def textL (s : ByteArray) : List UInt8 := putL s.size ++ s.data.toList
def signL (x : S65) : List UInt8 := putL x.f0.toNat ++ textL x.f1
def spanL (x : S74) : List UInt8 := putL x.f0.toNat ++ putL x.f1.toNat
def entL (x : S67) : List UInt8 := putL x.f0.toNat ++ (putL x.f1.toNat ++ (putL x.f2.toNat ++ (textL x.f3 ++ putL x.f4.toNat)))
def signP (x : S65) : Prop := x.f1.size = 16 ∧ 0 ≤ x.f0 ∧ x.f0 < 4294967296
def spanP (x : S74) : Prop := 0 ≤ x.f0 ∧ x.f0 ≤ 128 ∧ 0 ≤ x.f1 ∧ x.f1 ≤ 128
def entP (x : S67) : Prop := 1 ≤ x.f0 ∧ x.f0 ≤ 2147483648 ∧ 0 ≤ x.f1 ∧ x.f1 ≤ 1099511627776 ∧ 0 ≤ x.f2 ∧ x.f2 ≤ 100 ∧ x.f3.size ≤ 32 ∧ 0 ≤ x.f4 ∧ x.f4 ≤ 100
def pathP (x : ByteArray) : Prop := x.size ≤ 32
theorem dlen (s : ByteArray) : s.data.toList.length = s.size := rfl
theorem putL_one {n : Nat} (h : n < 128) : (putL n).length = 1 := by rw [putL_small h]; rfl
theorem textL_len {s : ByteArray} (h : s.size < 18446744073709551616) : (textL s).length ≤ s.size + 10 := by
 have := putL_ten h
 simp only [textL, List.length_append, dlen]; omega
theorem path_len {x : ByteArray} (h : pathP x) : (textL x).length ≤ 42 := by
 have := textL_len (s := x) (by unfold pathP at h; omega)
 unfold pathP at h; omega
theorem sign_len {x : S65} (h : signP x) : (signL x).length ≤ 22 := by
 obtain ⟨h1, h2, h3⟩ := h
 have e5 : (128 : Nat) ^ (4 + 1) = 34359738368 := by decide
 have h4 := putL_len 4 x.f0.toNat (by omega)
 have h5 := putL_one (n := x.f1.size) (by omega)
 simp only [signL, textL, List.length_append, dlen]; omega
theorem span_len {x : S74} (h : spanP x) : (spanL x).length ≤ 20 := by
 obtain ⟨h1, h2, h3, h4⟩ := h
 have h5 := putL_ten (n := x.f0.toNat) (by omega)
 have h6 := putL_ten (n := x.f1.toNat) (by omega)
 simp only [spanL, List.length_append]; omega
theorem ent_len {x : S67} (h : entP x) : (entL x).length ≤ 82 := by
 obtain ⟨h1, h2, h3, h4, h5, h6, h7, h8, h9⟩ := h
 have g1 := putL_ten (n := x.f0.toNat) (by omega)
 have g2 := putL_ten (n := x.f1.toNat) (by omega)
 have g3 := putL_ten (n := x.f2.toNat) (by omega)
 have g4 := putL_ten (n := x.f4.toNat) (by omega)
 have g5 := textL_len (s := x.f3) (by omega)
 simp only [entL, List.length_append]; omega
theorem flat_len {α : Type} (f : α → List UInt8) (c : Nat) : ∀ l : List α, (∀ x ∈ l, (f x).length ≤ c) → (l.flatMap f).length ≤ c * l.length
 | [], _ => by simp
 | x :: l, h => by
  have h1 := h x (by simp)
  have h2 := flat_len f c l (fun y hy => h y (by simp [hy]))
  rw [List.flatMap_cons, List.length_append, List.length_cons, Nat.mul_add]; omega
theorem app_loop {α β : Type} (l : List α) (f : α → List UInt8) (ok : α → Prop) (M : Nat) (F : Nat → List UInt8 → Int → Option β) (G : List UInt8 → β)
  (hs : ∀ i x cs acc, l.drop i = x :: cs → ok x → acc.length < M → ∀ r, Ev (fun k => F k (acc ++ f x) ((i + 1 : Nat) : Int)) r → Ev (fun k => F k acc (i : Int)) r)
  (he : ∀ acc, acc.length < M → Ev (fun k => F k acc ((l.length : Nat) : Int)) (G acc)) :
  ∀ (cs : List α) (i : Nat) (acc : List UInt8), l.drop i = cs → i ≤ l.length → (∀ x ∈ cs, ok x ∧ (f x).length ≤ 100) → acc.length + 100 * cs.length < M → Ev (fun k => F k acc (i : Int)) (G (acc ++ cs.flatMap f)) := by
 intro cs
 induction cs with
 | nil =>
  intro i acc hd hi hx hl
  rw [drop_nil_len hd hi, List.flatMap_nil, List.append_nil]
  exact he acc (by omega)
 | cons c cs ih =>
  intro i acc hd hi hx hl
  obtain ⟨_, hd2, hlt⟩ := drop_cons_facts hd
  obtain ⟨h1, h2⟩ := hx c (by simp)
  rw [List.length_cons] at hl
  have := ih (i + 1) (acc ++ f c) hd2 hlt (fun x hx' => hx x (by simp [hx'])) (by rw [List.length_append]; omega)
  rw [List.append_assoc] at this
  exact hs i c cs acc hd h1 (by omega) _ this
theorem rdI_at {l : List Int} {i : Nat} {c : Int} {cs : List Int} (h : l.drop i = c :: cs) : rd l (i : Int) = c := by
 simp [rd, List.getD_eq_getElem?_getD, (drop_cons_facts h).1]
theorem u64_int {n : Int} (h0 : 0 ≤ n) (h1 : n < 18446744073709551616) : IntKind.u64.wrap n = ((n.toNat : Nat) : Int) := by
 have := u64_nat (n := n.toNat) (by omega)
 rw [show ((n.toNat : Nat) : Int) = n by omega] at this ⊢
 exact this
theorem fput_ev (ns : List Int) (hl : ns.length < 100) (hn : ∀ n ∈ ns, 0 ≤ n ∧ n < 18446744073709551616) (acc : List UInt8) (h : acc.length < 100000000) : Ev (fun k => frame_put.f k (acc.map I) ns) ((acc ++ ns.flatMap fun n => putL n.toNat).map I) := by
 refine app_loop ns (fun n => putL n.toNat) (fun n => 0 ≤ n ∧ n < 18446744073709551616) 1000000000 (fun k acc i => frame_put.l0 k (acc.map I) ns (ns.length : Int) i) (fun acc => acc.map I) (fun i x cs acc hd hx ha r hr => ?_) (fun acc ha => ?_) ns 0 acc rfl (Nat.zero_le _) (fun n hm => ⟨hn n hm, ?_⟩) (by omega)
 ·have hlt := (drop_cons_facts hd).2.2
  have h10 := putL_ten (n := x.toNat) (by omega)
  refine Ev.step (f := fun k => (num_Put.f k (acc.map I) ((x.toNat : Nat) : Int)).bind fun t => frame_put.l0 k t ns (ns.length : Int) ((i + 1 : Nat) : Int)) (fun k => ?_) (Ev.bind (put_ev acc x.toNat (by omega)) hr)
  simp only [frame_put.l0, rdI_at hd]
  rw [if_pos (by omega), if_pos (by omega), if_pos (by omega), u64_int hx.1 hx.2, wrap_succ hlt (by omega)]
 ·refine Ev.step (f := fun _ => some (acc.map I)) (fun k => ?_) (Ev.now _)
  simp only [frame_put.l0]
  rw [if_neg (by omega)]
 ·have := hn n hm
  have h10 := putL_ten (n := n.toNat) (by omega)
  show (putL n.toNat).length ≤ 100
  omega
theorem ptext_ev (s : ByteArray) (acc : List UInt8) (h : acc.length < 100000000) (hs : s.size < 100000000) : Ev (fun k => num_PutText.f k (acc.map I) s) ((acc ++ textL s).map I) := by
 have := putText_ev acc s.data.toList (by rw [dlen]; omega) (by rw [dlen]; omega)
 rw [List.append_assoc] at this
 exact this
theorem plist_ev (ps : List ByteArray) (hp : ∀ p ∈ ps, pathP p) (hl : ps.length < 1000) (acc : List UInt8) (h : acc.length < 1000000) : Ev (fun k => num_PutList.f k (acc.map I) ps) ((acc ++ (putL ps.length ++ ps.flatMap textL)).map I) := by
 have h10 := putL_ten (n := ps.length) (by omega)
 simp only [num_PutList.f, own_is _ (show (acc.map I).length < 140737488355328 by simp; omega), Option.bind_some, num_lay.f]
 rw [show IntKind.u64.wrap (ps.length : Int) = ((ps.length : Nat) : Int) from u64_nat (by omega)]
 refine Ev.bind (lay_ev ps.length acc (by omega)) ?_
 rw [← List.append_assoc]
 refine app_loop ps textL pathP 10000000 (fun k acc i => num_PutList.l0 k (acc.map I) ps (ps.length : Int) i) (fun acc => acc.map I) (fun i x cs acc hd hx ha r hr => ?_) (fun acc ha => ?_) ps 0 (acc ++ putL ps.length) rfl (Nat.zero_le _) (fun x hx => ⟨hp x hx, Nat.le_trans (path_len (hp x hx)) (by decide)⟩) (by rw [List.length_append]; omega)
 ·have hlt := (drop_cons_facts hd).2.2
  have hx' := hx
  unfold pathP at hx'
  have h11 := putL_ten (n := x.size) (by omega)
  refine Ev.step (f := fun k => (num_lay.l0 k (acc.map I) ((x.size : Nat) : Int)).bind fun t => if t.length + x.size < 140737488355328 then num_PutList.l0 k (t ++ bytesOf x) ps (ps.length : Int) ((i + 1 : Nat) : Int) else none) (fun k => ?_) (Ev.bind (lay_ev x.size acc (by omega)) ?_)
  ·simp only [num_PutList.l0, rdS_at hd, num_lay.f]
   rw [if_pos (by omega), if_pos (by omega), if_pos (by omega), show IntKind.u64.wrap (x.size : Int) = ((x.size : Nat) : Int) from u64_nat (by omega), wrap_succ hlt (by omega)]
  ·refine ifpos (by rw [List.length_map, List.length_append]; omega) ?_
   rw [show (acc ++ putL x.size).map I ++ bytesOf x = (acc ++ textL x).map I by
    rw [textL, show bytesOf x = x.data.toList.map I from bytes_mk x.data.toList, ← List.map_append, List.append_assoc]]
   exact hr
 ·refine Ev.step (f := fun _ => some (acc.map I)) (fun k => ?_) (Ev.now _)
  simp only [num_PutList.l0]
  rw [if_neg (by omega)]
section
variable (a0 a1 a2 : Int) (ps : List ByteArray) (d s : ByteArray) (sg : List S65) (sp : List S74) (nn : ByteArray) (es : List S67) (u al : Int)
/-- the bytes behind the entries, the spans, the signs -/
def tail2 (u al : Int) : List UInt8 := putL u.toNat ++ putL al.toNat
def tail1 : List UInt8 := textL nn ++ (putL es.length ++ (es.flatMap entL ++ tail2 u al))
def tail0 : List UInt8 := putL sp.length ++ (sp.flatMap spanL ++ tail1 nn es u al)
/-- a reply's bytes -/
def replyL : List UInt8 := 2 :: (putL a0.toNat ++ (putL a1.toNat ++ (putL a2.toNat ++ (putL ps.length ++ (ps.flatMap textL ++ (textL d ++ (textL s ++ (putL sg.length ++ (sg.flatMap signL ++ tail0 sp nn es u al)))))))))
/-- what a reply that may be has -/
structure FitP : Prop where
 h0 : 0 ≤ a0 ∧ a0 ≤ 3
 h1 : 0 ≤ a1 ∧ a1 ≤ 2147483648
 h2 : 0 ≤ a2 ∧ a2 ≤ 100
 p : ps.length ≤ 64 ∧ ∀ x ∈ ps, pathP x
 d : d.size ≤ 1024
 s : s.size = 0 ∨ s.size = 32
 g : sg.length ≤ 1024 ∧ ∀ x ∈ sg, signP x
 n : sp.length ≤ 4 ∧ ∀ x ∈ sp, spanP x
 o : nn.size = 0 ∨ nn.size = 12
 e : es.length ≤ 8 ∧ ∀ x ∈ es, entP x
 u : 0 ≤ u ∧ u ≤ 2097152
 a : 0 ≤ al ∧ al ≤ 2097152
theorem reply2_ev (H : FitP a0 a1 a2 ps d s sg sp nn es u al) (acc : List UInt8) (h : acc.length < 4000000) : Ev (fun k => frame_Reply.l2 k (acc.map I) es (es.length : Int) 0 a0 a1 a2 ps d s sg sp nn es u al) ((acc ++ (es.flatMap entL ++ tail2 u al)).map I, 0) := by
 have he := H.e
 rw [← List.append_assoc]
 refine app_loop es entL entP 5000000 (fun k acc i => frame_Reply.l2 k (acc.map I) es (es.length : Int) i a0 a1 a2 ps d s sg sp nn es u al) (fun acc => ((acc ++ tail2 u al).map I, 0)) (fun i x cs acc hd hx ha r hr => ?_) (fun acc ha => ?_) es 0 acc rfl (Nat.zero_le _) (fun x hx => ⟨he.2 x hx, Nat.le_trans (ent_len (he.2 x hx)) (by decide)⟩) (by omega)
 ·have hlt := (drop_cons_facts hd).2.2
  have g5 := textL_len (s := x.f3) (by have := hx.2.2.2.2.2.2.1; omega)
  obtain ⟨h1, h2, h3, h4, h5, h6, h7, h8, h9⟩ := hx
  have g1 := putL_ten (n := x.f0.toNat) (by omega)
  have g2 := putL_ten (n := x.f1.toNat) (by omega)
  have g3 := putL_ten (n := x.f2.toNat) (by omega)
  have e1 := fput_ev [x.f0, x.f1, x.f2] (by simp) (by simp; omega) acc (by omega)
  have e2 := ptext_ev x.f3 (acc ++ [x.f0, x.f1, x.f2].flatMap fun n => putL n.toNat) (by simp [List.flatMap_cons]; omega) (by omega)
  have e3 := fput_ev [x.f4] (by simp) (by simp; omega) (acc ++ ([x.f0, x.f1, x.f2].flatMap fun n => putL n.toNat) ++ textL x.f3) (by simp [List.flatMap_cons]; omega)
  have ee : acc ++ ([x.f0, x.f1, x.f2].flatMap fun n => putL n.toNat) ++ textL x.f3 ++ ([x.f4].flatMap fun n => putL n.toNat) = acc ++ entL x := by simp [List.flatMap_cons, entL]
  rw [ee] at e3
  refine Ev.step (f := fun k => (frame_put.f k (acc.map I) [x.f0, x.f1, x.f2]).bind fun t => (num_PutText.f k t x.f3).bind fun t2 => (frame_put.f k t2 [x.f4]).bind fun t3 => frame_Reply.l2 k t3 es (es.length : Int) ((i + 1 : Nat) : Int) a0 a1 a2 ps d s sg sp nn es u al) (fun k => ?_) (Ev.bind e1 (Ev.bind e2 (Ev.bind e3 hr)))
  simp only [frame_Reply.l2, rd67_at hd]
  rw [if_pos (by omega), if_pos (by omega), if_pos (by omega), wrap_succ hlt (by omega)]
 ·have hu := H.u
  have ha2 := H.a
  have e1 := fput_ev [u, al] (by simp) (by simp; omega) acc (by omega)
  refine Ev.step (f := fun k => (frame_put.f k (acc.map I) [u, al]).bind fun t => some (t, 0)) (fun k => ?_) (Ev.bind e1 ?_)
  ·simp only [frame_Reply.l2]
   rw [if_neg (by omega)]
  ·rw [show (acc ++ [u, al].flatMap fun n => putL n.toNat) = acc ++ tail2 u al by simp [List.flatMap_cons, tail2]]
   exact Ev.now _
theorem reply1_ev (H : FitP a0 a1 a2 ps d s sg sp nn es u al) (acc : List UInt8) (h : acc.length < 3000000) : Ev (fun k => frame_Reply.l1 k (acc.map I) sp (sp.length : Int) 0 a0 a1 a2 ps d s sg sp nn es u al) ((acc ++ (sp.flatMap spanL ++ tail1 nn es u al)).map I, 0) := by
 have he := H.n
 rw [← List.append_assoc]
 refine app_loop sp spanL spanP 3900000 (fun k acc i => frame_Reply.l1 k (acc.map I) sp (sp.length : Int) i a0 a1 a2 ps d s sg sp nn es u al) (fun acc => ((acc ++ tail1 nn es u al).map I, 0)) (fun i x cs acc hd hx ha r hr => ?_) (fun acc ha => ?_) sp 0 acc rfl (Nat.zero_le _) (fun x hx => ⟨he.2 x hx, Nat.le_trans (span_len (he.2 x hx)) (by decide)⟩) (by omega)
 ·have hlt := (drop_cons_facts hd).2.2
  obtain ⟨h1, h2, h3, h4⟩ := hx
  have e1 := fput_ev [x.f0, x.f1] (by simp) (by simp; omega) acc (by omega)
  rw [show (acc ++ [x.f0, x.f1].flatMap fun n => putL n.toNat) = acc ++ spanL x by simp [List.flatMap_cons, spanL]] at e1
  refine Ev.step (f := fun k => (frame_put.f k (acc.map I) [x.f0, x.f1]).bind fun t => frame_Reply.l1 k t sp (sp.length : Int) ((i + 1 : Nat) : Int) a0 a1 a2 ps d s sg sp nn es u al) (fun k => ?_) (Ev.bind e1 hr)
  simp only [frame_Reply.l1, rd74_at hd]
  rw [if_pos (by omega), if_pos (by omega), if_pos (by omega), wrap_succ hlt (by omega)]
 ·have ho := H.o
  have hh := H.e
  have g1 := textL_len (s := nn) (by omega)
  have g2 := putL_ten (n := es.length) (by omega)
  have e1 := ptext_ev nn acc (by omega) (by omega)
  have e2 := fput_ev [(es.length : Int)] (by simp) (by simp; omega) (acc ++ textL nn) (by rw [List.length_append]; omega)
  rw [show (acc ++ textL nn ++ [(es.length : Int)].flatMap fun n => putL n.toNat) = acc ++ textL nn ++ putL es.length by simp [List.flatMap_cons]] at e2
  have e3 := reply2_ev a0 a1 a2 ps d s sg sp nn es u al H (acc ++ textL nn ++ putL es.length) (by simp; omega)
  rw [show acc ++ textL nn ++ putL es.length ++ (es.flatMap entL ++ tail2 u al) = acc ++ tail1 nn es u al by simp [tail1]] at e3
  refine Ev.step (f := fun k => (num_PutText.f k (acc.map I) nn).bind fun t => (frame_put.f k t [(es.length : Int)]).bind fun t2 => frame_Reply.l2 k t2 es (es.length : Int) 0 a0 a1 a2 ps d s sg sp nn es u al) (fun k => ?_) (Ev.bind e1 (Ev.bind e2 e3))
  simp only [frame_Reply.l1]
  rw [if_neg (by omega)]
theorem reply0_ev (H : FitP a0 a1 a2 ps d s sg sp nn es u al) (acc : List UInt8) (h : acc.length < 2000000) : Ev (fun k => frame_Reply.l0 k (acc.map I) sg (sg.length : Int) 0 a0 a1 a2 ps d s sg sp nn es u al) ((acc ++ (sg.flatMap signL ++ tail0 sp nn es u al)).map I, 0) := by
 have he := H.g
 rw [← List.append_assoc]
 refine app_loop sg signL signP 2900000 (fun k acc i => frame_Reply.l0 k (acc.map I) sg (sg.length : Int) i a0 a1 a2 ps d s sg sp nn es u al) (fun acc => ((acc ++ tail0 sp nn es u al).map I, 0)) (fun i x cs acc hd hx ha r hr => ?_) (fun acc ha => ?_) sg 0 acc rfl (Nat.zero_le _) (fun x hx => ⟨he.2 x hx, Nat.le_trans (sign_len (he.2 x hx)) (by decide)⟩) (by omega)
 ·have hlt := (drop_cons_facts hd).2.2
  obtain ⟨h1, h2, h3⟩ := hx
  have g1 := putL_ten (n := x.f0.toNat) (by omega)
  have e1 := put_ev acc x.f0.toNat (by omega)
  have e2 := ptext_ev x.f1 (acc ++ putL x.f0.toNat) (by rw [List.length_append]; omega) (by omega)
  rw [show acc ++ putL x.f0.toNat ++ textL x.f1 = acc ++ signL x by simp [signL]] at e2
  refine Ev.step (f := fun k => (num_Put.f k (acc.map I) ((x.f0.toNat : Nat) : Int)).bind fun t => (num_PutText.f k t x.f1).bind fun t2 => frame_Reply.l0 k t2 sg (sg.length : Int) ((i + 1 : Nat) : Int) a0 a1 a2 ps d s sg sp nn es u al) (fun k => ?_) (Ev.bind e1 (Ev.bind e2 hr))
  simp only [frame_Reply.l0, rd65_at hd]
  rw [if_pos (by omega), if_pos (by omega), if_pos (by omega), u64_int h2 (by omega), wrap_succ hlt (by omega)]
 ·have hh := H.n
  have g2 := putL_ten (n := sp.length) (by omega)
  have e2 := fput_ev [(sp.length : Int)] (by simp) (by simp; omega) acc (by omega)
  rw [show (acc ++ [(sp.length : Int)].flatMap fun n => putL n.toNat) = acc ++ putL sp.length by simp [List.flatMap_cons]] at e2
  have e3 := reply1_ev a0 a1 a2 ps d s sg sp nn es u al H (acc ++ putL sp.length) (by simp; omega)
  rw [show acc ++ putL sp.length ++ (sp.flatMap spanL ++ tail1 nn es u al) = acc ++ tail0 sp nn es u al by simp [tail0]] at e3
  refine Ev.step (f := fun k => (frame_put.f k (acc.map I) [(sp.length : Int)]).bind fun t => frame_Reply.l1 k t sp (sp.length : Int) 0 a0 a1 a2 ps d s sg sp nn es u al) (fun k => ?_) (Ev.bind e2 e3)
  simp only [frame_Reply.l0]
  rw [if_neg (by omega)]
theorem paths_len (H : FitP a0 a1 a2 ps d s sg sp nn es u al) : (ps.flatMap textL).length ≤ 42 * 64 := by
 have h1 := flat_len textL 42 ps (fun x hx => path_len (H.p.2 x hx))
 have := H.p.1
 omega
theorem reply_ev (H : FitP a0 a1 a2 ps d s sg sp nn es u al) (hf : Ev (fun k => frame_Fits.f k a0 a1 a2 ps d s sg sp nn es u al) true) : Ev (fun k => frame_Reply.f k a0 a1 a2 ps d s sg sp nn es u al) ((replyL a0 a1 a2 ps d s sg sp nn es u al).map I, 0) := by
 have h0 := H.h0
 have h1 := H.h1
 have h2 := H.h2
 have hd := H.d
 have hs := H.s
 have hg := H.g.1
 have hp := H.p.1
 have gp := paths_len a0 a1 a2 ps d s sg sp nn es u al H
 have g0 := putL_ten (n := a0.toNat) (by omega)
 have g1 := putL_ten (n := a1.toNat) (by omega)
 have g2 := putL_ten (n := a2.toNat) (by omega)
 have g3 := putL_ten (n := ps.length) (by omega)
 have g4 := textL_len (s := d) (by omega)
 have g5 := textL_len (s := s) (by omega)
 have g6 := putL_ten (n := sg.length) (by omega)
 have e1 := fput_ev [a0, a1, a2] (by simp) (by simp; omega) [2] (by simp)
 rw [show ([2] ++ [a0, a1, a2].flatMap fun n => putL n.toNat) = [2] ++ (putL a0.toNat ++ (putL a1.toNat ++ putL a2.toNat)) by simp [List.flatMap_cons]] at e1
 have e2 := plist_ev ps H.p.2 (by omega) ([2] ++ (putL a0.toNat ++ (putL a1.toNat ++ putL a2.toNat))) (by simp; omega)
 generalize hA : [2] ++ (putL a0.toNat ++ (putL a1.toNat ++ putL a2.toNat)) = A at e1 e2
 have hAl : A.length < 100 := by rw [← hA]; simp; omega
 have e3 := ptext_ev d (A ++ (putL ps.length ++ ps.flatMap textL)) (by simp only [List.length_append]; omega) (by omega)
 have e4 := ptext_ev s (A ++ (putL ps.length ++ ps.flatMap textL) ++ textL d) (by simp only [List.length_append]; omega) (by omega)
 have e5 := fput_ev [(sg.length : Int)] (by simp) (by simp; omega) (A ++ (putL ps.length ++ ps.flatMap textL) ++ textL d ++ textL s) (by simp only [List.length_append]; omega)
 rw [show ([(sg.length : Int)].flatMap fun n => putL n.toNat) = putL sg.length by simp [List.flatMap_cons]] at e5
 have e6 := reply0_ev a0 a1 a2 ps d s sg sp nn es u al H (A ++ (putL ps.length ++ ps.flatMap textL) ++ textL d ++ textL s ++ putL sg.length) (by simp only [List.length_append]; omega)
 rw [show A ++ (putL ps.length ++ ps.flatMap textL) ++ textL d ++ textL s ++ putL sg.length ++ (sg.flatMap signL ++ tail0 sp nn es u al) = replyL a0 a1 a2 ps d s sg sp nn es u al by rw [← hA]; simp [replyL]] at e6
 simp only [frame_Reply.f]
 exact Ev.bind hf (ifpos rfl (Ev.bind e1 (Ev.bind e2 (Ev.bind e3 (Ev.bind e4 (Ev.bind e5 e6))))))
end
theorem rnum_ev {n : Int} (h0 : 0 ≤ n) (h1 : n < 18446744073709551616) : Ev (fun k => strongroomref25_num.f k n) (mkB (putL n.toNat)) := by
 simp only [strongroomref25_num.f, u64_int h0 h1]
 exact Ev.bind (rput_ev n.toNat (by omega)) (Ev.now _)
theorem rput_int {n : Int} (h0 : 0 ≤ n) (h1 : n < 18446744073709551616) : Ev (fun k => strongroomref01_Put.f k (IntKind.u64.wrap n)) (mkB (putL n.toNat)) := by
 rw [u64_int h0 h1]
 exact rput_ev n.toNat (by omega)
theorem rtx_ev (s : ByteArray) (hs : s.size < 100000000) : Ev (fun k => strongroomref01_Text.f k s) (mkB (textL s)) := by
 exact rtext_ev s.data.toList (by rw [dlen]; omega)
theorem add_ev {β : Type} (a b : List UInt8) (f : ByteArray → Nat → Option β) (r : β) (h : a.length + b.length < 100000000) (hf : Ev (fun k => f (mkB (a ++ b)) k) r) : Ev (fun k => if (mkB a).size + (mkB b).size ≤ 9223372036854775807 then f (mkB a ++ mkB b) k else none) r := by
 refine ifpos (by rw [mk_size, mk_size]; omega) ?_
 rw [mk_app]
 exact hf
theorem rent_bytes (x : S67) (h : entP x) : Ev (fun k => strongroomref13_Bytes.f k x.f0 x.f1 x.f2 x.f3 x.f4) (mkB (entL x)) := by
 obtain ⟨h1, h2, h3, h4, h5, h6, h7, h8, h9⟩ := h
 have g1 := putL_ten (n := x.f0.toNat) (by omega)
 have g2 := putL_ten (n := x.f1.toNat) (by omega)
 have g3 := putL_ten (n := x.f2.toNat) (by omega)
 have g4 := putL_ten (n := x.f4.toNat) (by omega)
 have g5 := textL_len (s := x.f3) (by omega)
 simp only [strongroomref13_Bytes.f]
 refine Ev.bind (rput_int (n := x.f0) (by omega) (by omega)) (Ev.bind (rput_int (n := x.f1) (by omega) (by omega)) (ifpos (by rw [mk_size, mk_size]; omega) ?_))
 rw [mk_app]
 refine Ev.bind (rput_int (n := x.f2) (by omega) (by omega)) (ifpos (by rw [mk_size, mk_size]; simp only [List.length_append, List.length_cons, List.length_nil, Int.toNat_natCast]; omega) ?_)
 rw [mk_app]
 refine Ev.bind (rtx_ev x.f3 (by omega)) (ifpos (by rw [mk_size, mk_size]; simp only [List.length_append, List.length_cons, List.length_nil, Int.toNat_natCast]; omega) ?_)
 rw [mk_app]
 refine Ev.bind (rput_int (n := x.f4) (by omega) (by omega)) (ifpos (by rw [mk_size, mk_size]; simp only [List.length_append, List.length_cons, List.length_nil, Int.toNat_natCast]; omega) ?_)
 rw [mk_app]
 simp only [entL, List.append_assoc]
 exact Ev.now _
theorem rlist_ev (ps : List ByteArray) (hp : ∀ p ∈ ps, pathP p) (hl : ps.length < 1000) : Ev (fun k => strongroomref01_List.f k ps) (mkB (putL ps.length ++ ps.flatMap textL)) := by
 have h10 := putL_ten (n := ps.length) (by omega)
 simp only [strongroomref01_List.f]
 rw [show IntKind.u64.wrap (ps.length : Int) = ((ps.length : Nat) : Int) from u64_nat (by omega)]
 refine Ev.bind (rput_ev ps.length (by omega)) ?_
 refine app_loop ps textL pathP 10000000 (fun k acc i => strongroomref01_List.l0 k ps (mkB acc) i) (fun acc => mkB acc) (fun i x cs acc hd hx ha r hr => ?_) (fun acc ha => ?_) ps 0 (putL ps.length) rfl (Nat.zero_le _) (fun x hx => ⟨hp x hx, Nat.le_trans (path_len (hp x hx)) (by decide)⟩) (by omega)
 ·have hlt := (drop_cons_facts hd).2.2
  have g := path_len hx
  unfold pathP at hx
  refine Ev.step (f := fun k => (strongroomref01_Text.f k x).bind fun t => if (mkB acc).size + t.size ≤ 9223372036854775807 then strongroomref01_List.l0 k ps (mkB acc ++ t) ((i + 1 : Nat) : Int) else none) (fun k => ?_) (Ev.bind (rtx_ev x (by omega)) (add_ev acc (textL x) (fun z k => strongroomref01_List.l0 k ps z ((i + 1 : Nat) : Int)) r (by omega) hr))
  simp only [strongroomref01_List.l0, rdS_at hd]
  rw [if_pos (by omega), if_pos (by omega), wrap_succ hlt (by omega)]
 ·refine Ev.step (f := fun _ => some (mkB acc)) (fun k => ?_) (Ev.now _)
  simp only [strongroomref01_List.l0]
  rw [if_neg (by omega)]
section
variable (a0 a1 a2 : Int) (ps : List ByteArray) (d s : ByteArray) (sg : List S65) (sp : List S74) (nn : ByteArray) (es : List S67) (u al : Int)
theorem rreply2_ev (H : FitP a0 a1 a2 ps d s sg sp nn es u al) (acc : List UInt8) (h : acc.length < 4000000) : Ev (fun k => strongroomref25_Reply.l2 k (mkB acc) 0 a0 a1 a2 ps d s sg sp nn es u al) (mkB (acc ++ (es.flatMap entL ++ tail2 u al))) := by
 have he := H.e
 rw [← List.append_assoc]
 refine app_loop es entL entP 5000000 (fun k acc i => strongroomref25_Reply.l2 k (mkB acc) i a0 a1 a2 ps d s sg sp nn es u al) (fun acc => mkB (acc ++ tail2 u al)) (fun i x cs acc hd hx ha r hr => ?_) (fun acc ha => ?_) es 0 acc rfl (Nat.zero_le _) (fun x hx => ⟨he.2 x hx, Nat.le_trans (ent_len (he.2 x hx)) (by decide)⟩) (by omega)
 ·have hlt := (drop_cons_facts hd).2.2
  have g := ent_len hx
  refine Ev.step (f := fun k => (strongroomref13_Bytes.f k x.f0 x.f1 x.f2 x.f3 x.f4).bind fun t => if (mkB acc).size + t.size ≤ 9223372036854775807 then strongroomref25_Reply.l2 k (mkB acc ++ t) ((i + 1 : Nat) : Int) a0 a1 a2 ps d s sg sp nn es u al else none) (fun k => ?_) (Ev.bind (rent_bytes x hx) (add_ev acc (entL x) (fun z k => strongroomref25_Reply.l2 k z ((i + 1 : Nat) : Int) a0 a1 a2 ps d s sg sp nn es u al) r (by omega) hr))
  simp only [strongroomref25_Reply.l2, rd67_at hd]
  rw [if_pos (by omega), if_pos (by omega), wrap_succ hlt (by omega)]
 ·have hu := H.u
  have ha2 := H.a
  have g1 := putL_ten (n := u.toNat) (by omega)
  have g2 := putL_ten (n := al.toNat) (by omega)
  refine Ev.step (f := fun k => (strongroomref25_num.f k u).bind fun t => if (mkB acc).size + t.size ≤ 9223372036854775807 then (strongroomref25_num.f k al).bind fun t2 => if (mkB acc ++ t).size + t2.size ≤ 9223372036854775807 then some (mkB acc ++ t ++ t2) else none else none) (fun k => ?_) ?_
  ·simp only [strongroomref25_Reply.l2]
   rw [if_neg (by omega)]
  ·refine Ev.bind (rnum_ev (by omega) (by omega)) (add_ev _ _ (fun z k => (strongroomref25_num.f k al).bind fun t2 => if z.size + t2.size ≤ 9223372036854775807 then some (z ++ t2) else none) _ (by omega) ?_)
   refine Ev.bind (rnum_ev (by omega) (by omega)) (add_ev _ _ (fun z k => some z) _ (by simp only [List.length_append]; omega) ?_)
   simp only [tail2, List.append_assoc]
   exact Ev.now _
theorem rreply1_ev (H : FitP a0 a1 a2 ps d s sg sp nn es u al) (acc : List UInt8) (h : acc.length < 3000000) : Ev (fun k => strongroomref25_Reply.l1 k (mkB acc) 0 a0 a1 a2 ps d s sg sp nn es u al) (mkB (acc ++ (sp.flatMap spanL ++ tail1 nn es u al))) := by
 have he := H.n
 rw [← List.append_assoc]
 refine app_loop sp spanL spanP 3900000 (fun k acc i => strongroomref25_Reply.l1 k (mkB acc) i a0 a1 a2 ps d s sg sp nn es u al) (fun acc => mkB (acc ++ tail1 nn es u al)) (fun i x cs acc hd hx ha r hr => ?_) (fun acc ha => ?_) sp 0 acc rfl (Nat.zero_le _) (fun x hx => ⟨he.2 x hx, Nat.le_trans (span_len (he.2 x hx)) (by decide)⟩) (by omega)
 ·have hlt := (drop_cons_facts hd).2.2
  obtain ⟨h1, h2, h3, h4⟩ := hx
  have g1 := putL_ten (n := x.f0.toNat) (by omega)
  have g2 := putL_ten (n := x.f1.toNat) (by omega)
  refine Ev.step (f := fun k => (strongroomref25_num.f k x.f0).bind fun t => if (mkB acc).size + t.size ≤ 9223372036854775807 then (strongroomref25_num.f k x.f1).bind fun t2 => if (mkB acc ++ t).size + t2.size ≤ 9223372036854775807 then strongroomref25_Reply.l1 k (mkB acc ++ t ++ t2) ((i + 1 : Nat) : Int) a0 a1 a2 ps d s sg sp nn es u al else none else none) (fun k => ?_) ?_
  ·simp only [strongroomref25_Reply.l1, rd74_at hd]
   rw [if_pos (by omega), if_pos (by omega), wrap_succ hlt (by omega)]
  ·refine Ev.bind (rnum_ev (by omega) (by omega)) (add_ev _ _ (fun z k => (strongroomref25_num.f k x.f1).bind fun t2 => if z.size + t2.size ≤ 9223372036854775807 then strongroomref25_Reply.l1 k (z ++ t2) ((i + 1 : Nat) : Int) a0 a1 a2 ps d s sg sp nn es u al else none) _ (by omega) ?_)
   refine Ev.bind (rnum_ev (by omega) (by omega)) (add_ev _ _ (fun z k => strongroomref25_Reply.l1 k z ((i + 1 : Nat) : Int) a0 a1 a2 ps d s sg sp nn es u al) _ (by simp only [List.length_append]; omega) ?_)
   rw [List.append_assoc]
   exact hr
 ·have ho := H.o
  have hh := H.e
  have g1 := textL_len (s := nn) (by omega)
  have g2 := putL_ten (n := es.length) (by omega)
  have e3 := rreply2_ev a0 a1 a2 ps d s sg sp nn es u al H (acc ++ textL nn ++ putL es.length) (by simp; omega)
  rw [show acc ++ textL nn ++ putL es.length ++ (es.flatMap entL ++ tail2 u al) = acc ++ tail1 nn es u al by simp [tail1]] at e3
  refine Ev.step (f := fun k => (strongroomref01_Text.f k nn).bind fun t => if (mkB acc).size + t.size ≤ 9223372036854775807 then (strongroomref25_num.f k (es.length : Int)).bind fun t2 => if (mkB acc ++ t).size + t2.size ≤ 9223372036854775807 then strongroomref25_Reply.l2 k (mkB acc ++ t ++ t2) 0 a0 a1 a2 ps d s sg sp nn es u al else none else none) (fun k => ?_) ?_
  ·simp only [strongroomref25_Reply.l1]
   rw [if_neg (by omega)]
  ·refine Ev.bind (rtx_ev nn (by omega)) (add_ev _ _ (fun z k => (strongroomref25_num.f k (es.length : Int)).bind fun t2 => if z.size + t2.size ≤ 9223372036854775807 then strongroomref25_Reply.l2 k (z ++ t2) 0 a0 a1 a2 ps d s sg sp nn es u al else none) _ (by omega) ?_)
   refine Ev.bind (rnum_ev (n := (es.length : Int)) (by omega) (by omega)) (add_ev _ _ (fun z k => strongroomref25_Reply.l2 k z 0 a0 a1 a2 ps d s sg sp nn es u al) _ (by rw [Int.toNat_natCast]; simp only [List.length_append]; omega) ?_)
   rw [Int.toNat_natCast]
   exact e3
theorem rreply0_ev (H : FitP a0 a1 a2 ps d s sg sp nn es u al) (acc : List UInt8) (h : acc.length < 2000000) : Ev (fun k => strongroomref25_Reply.l0 k (mkB acc) 0 a0 a1 a2 ps d s sg sp nn es u al) (mkB (acc ++ (sg.flatMap signL ++ tail0 sp nn es u al))) := by
 have he := H.g
 rw [← List.append_assoc]
 refine app_loop sg signL signP 2900000 (fun k acc i => strongroomref25_Reply.l0 k (mkB acc) i a0 a1 a2 ps d s sg sp nn es u al) (fun acc => mkB (acc ++ tail0 sp nn es u al)) (fun i x cs acc hd hx ha r hr => ?_) (fun acc ha => ?_) sg 0 acc rfl (Nat.zero_le _) (fun x hx => ⟨he.2 x hx, Nat.le_trans (sign_len (he.2 x hx)) (by decide)⟩) (by omega)
 ·have hlt := (drop_cons_facts hd).2.2
  obtain ⟨h1, h2, h3⟩ := hx
  have g1 := putL_ten (n := x.f0.toNat) (by omega)
  have g2 := textL_len (s := x.f1) (by omega)
  refine Ev.step (f := fun k => (strongroomref25_num.f k x.f0).bind fun t => if (mkB acc).size + t.size ≤ 9223372036854775807 then (strongroomref01_Text.f k x.f1).bind fun t2 => if (mkB acc ++ t).size + t2.size ≤ 9223372036854775807 then strongroomref25_Reply.l0 k (mkB acc ++ t ++ t2) ((i + 1 : Nat) : Int) a0 a1 a2 ps d s sg sp nn es u al else none else none) (fun k => ?_) ?_
  ·simp only [strongroomref25_Reply.l0, rd65_at hd]
   rw [if_pos (by omega), if_pos (by omega), wrap_succ hlt (by omega), show wrap64 x.f0 = x.f0 by unfold wrap64; omega]
  ·refine Ev.bind (rnum_ev (by omega) (by omega)) (add_ev _ _ (fun z k => (strongroomref01_Text.f k x.f1).bind fun t2 => if z.size + t2.size ≤ 9223372036854775807 then strongroomref25_Reply.l0 k (z ++ t2) ((i + 1 : Nat) : Int) a0 a1 a2 ps d s sg sp nn es u al else none) _ (by omega) ?_)
   refine Ev.bind (rtx_ev x.f1 (by omega)) (add_ev _ _ (fun z k => strongroomref25_Reply.l0 k z ((i + 1 : Nat) : Int) a0 a1 a2 ps d s sg sp nn es u al) _ (by simp only [List.length_append]; omega) ?_)
   rw [List.append_assoc]
   exact hr
 ·have hh := H.n
  have g2 := putL_ten (n := sp.length) (by omega)
  have e3 := rreply1_ev a0 a1 a2 ps d s sg sp nn es u al H (acc ++ putL sp.length) (by simp; omega)
  rw [show acc ++ putL sp.length ++ (sp.flatMap spanL ++ tail1 nn es u al) = acc ++ tail0 sp nn es u al by simp [tail0]] at e3
  refine Ev.step (f := fun k => (strongroomref25_num.f k (sp.length : Int)).bind fun t => if (mkB acc).size + t.size ≤ 9223372036854775807 then strongroomref25_Reply.l1 k (mkB acc ++ t) 0 a0 a1 a2 ps d s sg sp nn es u al else none) (fun k => ?_) ?_
  ·simp only [strongroomref25_Reply.l0]
   rw [if_neg (by omega)]
  ·refine Ev.bind (rnum_ev (n := (sp.length : Int)) (by omega) (by omega)) (add_ev _ _ (fun z k => strongroomref25_Reply.l1 k z 0 a0 a1 a2 ps d s sg sp nn es u al) _ (by rw [Int.toNat_natCast]; omega) ?_)
   rw [Int.toNat_natCast]
   exact e3
theorem rreply_ev (H : FitP a0 a1 a2 ps d s sg sp nn es u al) : Ev (fun k => strongroomref25_Reply.f k a0 a1 a2 ps d s sg sp nn es u al) (mkB (replyL a0 a1 a2 ps d s sg sp nn es u al)) := by
 have h0 := H.h0
 have h1 := H.h1
 have h2 := H.h2
 have hd := H.d
 have hs := H.s
 have hg := H.g.1
 have hp := H.p.1
 have gp := paths_len a0 a1 a2 ps d s sg sp nn es u al H
 have g0 := putL_ten (n := a0.toNat) (by omega)
 have g1 := putL_ten (n := a1.toNat) (by omega)
 have g2 := putL_ten (n := a2.toNat) (by omega)
 have g3 := putL_ten (n := ps.length) (by omega)
 have g4 := textL_len (s := d) (by omega)
 have g5 := textL_len (s := s) (by omega)
 have g6 := putL_ten (n := sg.length) (by omega)
 have e6 := rreply0_ev a0 a1 a2 ps d s sg sp nn es u al H ([2] ++ putL a0.toNat ++ putL a1.toNat ++ putL a2.toNat ++ (putL ps.length ++ ps.flatMap textL) ++ textL d ++ textL s ++ putL sg.length) (by simp only [List.length_append, List.length_cons, List.length_nil]; omega)
 rw [show [2] ++ putL a0.toNat ++ putL a1.toNat ++ putL a2.toNat ++ (putL ps.length ++ ps.flatMap textL) ++ textL d ++ textL s ++ putL sg.length ++ (sg.flatMap signL ++ tail0 sp nn es u al) = replyL a0 a1 a2 ps d s sg sp nn es u al by simp [replyL]] at e6
 simp only [strongroomref25_Reply.f]
 refine Ev.bind (rnum_ev (by omega) (by omega)) (ifpos (by rw [mk_size]; omega) ?_)
 rw [show (⟨#[2]⟩ : ByteArray) = mkB [2] from rfl, mk_app]
 refine Ev.bind (rnum_ev (by omega) (by omega)) (ifpos (by rw [mk_size, mk_size]; simp only [List.length_append, List.length_cons, List.length_nil, Int.toNat_natCast]; omega) ?_)
 rw [mk_app]
 refine Ev.bind (rnum_ev (by omega) (by omega)) (ifpos (by rw [mk_size, mk_size]; simp only [List.length_append, List.length_cons, List.length_nil, Int.toNat_natCast]; omega) ?_)
 rw [mk_app]
 refine Ev.bind (rlist_ev ps H.p.2 (by omega)) (ifpos (by rw [mk_size, mk_size]; simp only [List.length_append, List.length_cons, List.length_nil, Int.toNat_natCast]; omega) ?_)
 rw [mk_app]
 refine Ev.bind (rtx_ev d (by omega)) (ifpos (by rw [mk_size, mk_size]; simp only [List.length_append, List.length_cons, List.length_nil, Int.toNat_natCast]; omega) ?_)
 rw [mk_app]
 refine Ev.bind (rtx_ev s (by omega)) (ifpos (by rw [mk_size, mk_size]; simp only [List.length_append, List.length_cons, List.length_nil, Int.toNat_natCast]; omega) ?_)
 rw [mk_app]
 refine Ev.bind (rnum_ev (n := (sg.length : Int)) (by omega) (by omega)) (ifpos (by rw [mk_size, mk_size]; simp only [List.length_append, List.length_cons, List.length_nil, Int.toNat_natCast]; omega) ?_)
 rw [mk_app]
 rw [Int.toNat_natCast]
 exact e6
end
/-- a number at a place: what it is and what place is behind it, or what is amiss -/
def getR (pl : Nat) : Nat → Nat → Nat → List UInt8 → Int × Int × Int
 | 0, _, _, _ => (0, 0, 4)
 | _ + 1, _, _, [] => (0, 0, 3)
 | f + 1, acc, i, x :: t => if x.toNat < 128 then (if (x.toNat = 0 ∧ 0 < i) ∨ (i = 9 ∧ 1 < x.toNat) then (0, 0, 4) else (((acc + x.toNat * 128 ^ i : Nat) : Int), ((pl + i + 1 : Nat) : Int), 0)) else getR pl f (acc + x.toNat % 128 * 128 ^ i) (i + 1) t
def getB (b : List UInt8) (pl : Int) : Int × Int × Int := if pl < 0 ∨ pl > (b.length : Int) then (0, 0, 9) else getR pl.toNat 10 0 0 (b.drop pl.toNat)
theorem pow_le9 {i : Nat} (h : i ≤ 9) : 128 ^ i ≤ 9223372036854775808 := Nat.le_trans (Nat.pow_le_pow_right (by decide) h) (by decide)
theorem mul_le9 {i x : Nat} (hi : i ≤ 9) (hx : x < 128) (h9 : i = 9 → x ≤ 1) : x * 128 ^ i ≤ 9223372036854775808 := by
 by_cases h : i = 9
 ·have := h9 h
  subst h
  exact Nat.le_trans (Nat.mul_le_mul_right _ this) (by decide)
 ·have h1 : 128 ^ i ≤ 128 ^ 8 := Nat.pow_le_pow_right (by decide) (by omega)
  exact Nat.le_trans (Nat.mul_le_mul (show x ≤ 128 by omega) h1) (by decide)
theorem acc_next {acc i x : Nat} (ha : acc < 128 ^ i) (hx : x < 128) : acc + x * 128 ^ i < 128 ^ (i + 1) := by
 have : x * 128 ^ i ≤ 127 * 128 ^ i := Nat.mul_le_mul_right _ (by omega)
 rw [Nat.pow_succ]
 omega
theorem w7 {i : Nat} (hi : i ≤ 9) : wrap64 (7 * (i : Int)) = ((7 * i : Nat) : Int) := by unfold wrap64; omega
theorem shl_get {i x : Nat} (hi : i ≤ 9) (hx : x < 128) (h9 : i = 9 → x ≤ 1) : shl .u64 (x : Int) (wrap64 (7 * (i : Int))) = ((x * 128 ^ i : Nat) : Int) := by
 have hw : wrap64 (7 * (i : Int)) = ((7 * i : Nat) : Int) := by unfold wrap64; omega
 have hm := mul_le9 hi hx h9
 have hp : (128 : Nat) ^ i = 2 ^ (7 * i) := by rw [Nat.pow_mul]
 rw [hw]
 unfold shl
 rw [show min ((7 * i : Nat) : Int).toNat IntKind.u64.bits = 7 * i from by simp only [Int.toNat_natCast, show IntKind.u64.bits = 64 from rfl]; omega, ← u64_nat (show x * 128 ^ i < 18446744073709551616 by omega), hp]
 congr 1
theorem or_get {acc i x : Nat} (hi : i ≤ 9) (ha : acc < 128 ^ i) (hx : x < 128) (h9 : i = 9 → x ≤ 1) : Go.bits .or .u64 (acc : Int) (shl .u64 (x : Int) (wrap64 (7 * (i : Int)))) = ((acc + x * 128 ^ i : Nat) : Int) := by
 have hm := mul_le9 hi hx h9
 have hl := pow_le9 hi
 rw [shl_get hi hx h9, Go.u64_or_nat _ _ (by omega) (by omega), Nat.or_comm]
 have hp : (128 : Nat) ^ i = 2 ^ (7 * i) := by rw [Nat.pow_mul]
 rw [hp] at ha ⊢
 rw [Go.nat_join (7 * i) _ _ (Nat.mul_mod_left _ _) ha, Nat.add_comm]
theorem and127 {x : Nat} (h : x < 256) : Go.bits .and .u8 (x : Int) 127 = ((x % 128 : Nat) : Int) := by
 have h2 : ∀ m, m < 256 → Go.bits .and .u8 ((m : Nat) : Int) 127 = ((m % 128 : Nat) : Int) := by decide +kernel
 exact h2 x h
theorem rd_I {b : List UInt8} {j : Nat} {x : UInt8} (h : b[j]? = some x) : rd (b.map I) (j : Int) = ((x.toNat : Nat) : Int) := by
 simp [rd, List.getD_eq_getElem?_getD, h]
set_option maxHeartbeats 4000000 in
theorem getP_ev (b : List UInt8) (pl : Nat) (hb : b.length < 1000000000000) : ∀ (f i acc : Nat), i + f = 10 → pl + i ≤ b.length → acc < 128 ^ i → Ev (fun k => num_Get.l0 k (b.map I) (pl : Int) (acc : Int) (i : Int)) (getR pl f acc i (b.drop (pl + i))) := by
 intro f
 induction f with
 | zero =>
  intro i acc hi hp ha
  refine Ev.step (f := fun _ => some (0, 0, 4)) (fun k => ?_) (Ev.now _)
  simp only [num_Get.l0]
  rw [if_neg (by omega)]
 | succ f ih =>
  intro i acc hi hp ha
  have hw : Aside0 (wrap64 ((pl : Int) + (i : Int)) = ((pl + i : Nat) : Int)) := ⟨by unfold wrap64; omega⟩
  have h7 : Aside0 ((0 : Int) ≤ wrap64 (7 * (i : Int))) := ⟨by rw [w7 (by omega)]; omega⟩
  cases hd : b.drop (pl + i) with
  | nil =>
   have := drop_nil_len hd hp
   refine Ev.step (f := fun _ => some (0, 0, 3)) (fun k => ?_) (Ev.now _)
   simp only [num_Get.l0, hw.out, List.length_map]
   rw [if_pos (by omega), if_pos (by omega)]
  | cons x t =>
   obtain ⟨g1, g2, g3⟩ := drop_cons_facts hd
   have hx := x.toNat_lt
   have hr := Aside0.mk (rd_I g1)
   have hu : Aside0 (IntKind.u64.wrap ((x.toNat : Nat) : Int) = ((x.toNat : Nat) : Int)) := ⟨u64_nat (by omega)⟩
   have hk : Aside0 (wrap64 (((pl + i : Nat) : Int) + 1) = ((pl + i + 1 : Nat) : Int)) := ⟨by unfold wrap64; omega⟩
   rw [getR]
   by_cases h1 : x.toNat < 128
   ·rw [if_pos h1]
    by_cases h2 : (x.toNat = 0 ∧ 0 < i) ∨ (i = 9 ∧ 1 < x.toNat)
    ·rw [if_pos h2]
     refine Ev.step (f := fun k => num_Get.j2 k (pl : Int) (acc : Int) (i : Int) ((x.toNat : Nat) : Int) true) (fun k => ?_) (Ev.step (f := fun _ => some (0, 0, 4)) (fun k => ?_) (Ev.now _))
     ·simp only [num_Get.l0, hw.out, List.length_map, hr.out]
      rw [if_pos (by omega), if_neg (by omega), if_pos (by omega), if_pos (by omega), if_pos (by omega)]
      by_cases h0 : x.toNat = 0
      ·rw [if_pos (by omega), if_pos (by omega)]
      ·rw [if_neg (by omega), if_pos (by omega), decide_eq_true (by omega)]
     ·simp only [num_Get.j2]
      rw [if_pos trivial]
    ·rw [if_neg h2]
     have ho := Aside0.mk (or_get (acc := acc) (x := x.toNat) (show i ≤ 9 by omega) ha h1 (by omega))
     refine Ev.step (f := fun k => num_Get.j2 k (pl : Int) (acc : Int) (i : Int) ((x.toNat : Nat) : Int) false) (fun k => ?_) (Ev.step (f := fun _ => some (((acc + x.toNat * 128 ^ i : Nat) : Int), ((pl + i + 1 : Nat) : Int), 0)) (fun k => ?_) (Ev.now _))
     ·simp only [num_Get.l0, hw.out, List.length_map, hr.out]
      rw [if_pos (by omega), if_neg (by omega), if_pos (by omega), if_pos (by omega), if_pos (by omega)]
      by_cases h0 : x.toNat = 0
      ·rw [if_pos (by omega), if_neg (by omega), if_neg (by omega)]
      ·rw [if_neg (by omega)]
       by_cases h9 : i = 9
       ·rw [if_pos (by omega), decide_eq_false (by omega)]
       ·rw [if_neg (by omega)]
     ·simp only [num_Get.j2, hw.out, hu.out, ho.out, hk.out]
      rw [if_neg (by simp), if_pos h7.out]
   ·rw [if_neg h1]
    have hwi : Aside0 (wrap64 ((i : Int) + 1) = ((i + 1 : Nat) : Int)) := ⟨by unfold wrap64; omega⟩
    have hm : x.toNat % 128 < 128 := Nat.mod_lt _ (by decide)
    have hum : Aside0 (IntKind.u64.wrap ((x.toNat % 128 : Nat) : Int) = ((x.toNat % 128 : Nat) : Int)) := ⟨u64_nat (by omega)⟩
    by_cases h9 : i = 9
    ·obtain rfl : f = 0 := by omega
     rw [getR]
     refine Ev.step (fun k => ?_) (Ev.step (g := fun k => num_Get.l0 k (b.map I) (pl : Int) (Go.bits .or .u64 (acc : Int) (shl .u64 ((x.toNat % 128 : Nat) : Int) (wrap64 (7 * (i : Int))))) ((i + 1 : Nat) : Int)) (f := fun _ => some (0, 0, 4)) (fun k => ?_) (Ev.now _))
     ·simp only [num_Get.l0, hw.out, List.length_map, hr.out, and127 hx, hum.out, hwi.out]
      rw [if_pos (by omega), if_neg (by omega), if_pos (by omega), if_pos (by omega), if_neg (by omega), if_pos h7.out]
     ·simp only [num_Get.l0]
      rw [if_neg (by omega)]
    ·have ho.out := or_get (acc := acc) (x := x.toNat % 128) (show i ≤ 9 by omega) ha hm (by omega)
     have next := ih (i + 1) (acc + x.toNat % 128 * 128 ^ i) (by omega) (by omega) (acc_next ha hm)
     rw [show pl + (i + 1) = pl + i + 1 by omega, g2] at next
     refine Ev.step (fun k => ?_) next
     simp only [num_Get.l0, hw.out, List.length_map, hr.out, and127 hx, hum.out, hwi.out, ho.out]
     rw [if_pos (by omega), if_neg (by omega), if_pos (by omega), if_pos (by omega), if_neg (by omega), if_pos h7.out]
theorem get_ev (b : List UInt8) (pl : Int) (hb : b.length < 1000000000000) : Ev (fun k => num_Get.f k (b.map I) pl) (getB b pl) := by
 have hT : Ev (fun k => num_Get.j0 k (b.map I) pl true) (0, 0, 9) := by
  refine Ev.step (f := fun _ => some (0, 0, 9)) (fun k => ?_) (Ev.now _)
  simp only [num_Get.j0]
  rw [if_pos trivial]
 simp only [num_Get.f, getB, List.length_map]
 by_cases h0 : pl < 0
 ·rw [if_pos (Or.inl h0)]
  exact ifpos h0 hT
 refine ifneg h0 ?_
 by_cases h1 : pl > (b.length : Int)
 ·rw [if_pos (Or.inr h1), decide_eq_true h1]
  exact hT
 rw [if_neg (by omega), decide_eq_false h1]
 obtain ⟨n, rfl⟩ := Int.eq_ofNat_of_zero_le (show 0 ≤ pl by omega)
 refine Ev.step (fun k => ?_) (getP_ev b n hb 10 0 0 rfl (by omega) (by simp))
 simp only [num_Get.j0]
 rw [if_neg (by simp)]
 rfl
/-- a text at a place: what it is and what place is behind it, or what is amiss -/
def textB (b : List UInt8) (pl : Int) (most : Nat) : ByteArray × Int × Int :=
 if (getB b pl).2.2 = 0 then (if (getB b pl).1 > (most : Int) then (⟨#[]⟩, 0, 2) else if (getB b pl).1 > (b.length : Int) - (getB b pl).2.1 then (⟨#[]⟩, 0, 3) else (⟨((b.drop (getB b pl).2.1.toNat).take (getB b pl).1.toNat).toArray⟩, (getB b pl).2.1 + (getB b pl).1, 0)) else (⟨#[]⟩, 0, (getB b pl).2.2)
theorem getR_facts (pl : Nat) : ∀ (f acc i : Nat) (l : List UInt8), i + f = 10 → acc < 128 ^ i → 0 ≤ (getR pl f acc i l).1 ∧ (getR pl f acc i l).1 < 18446744073709551616 ∧ 0 ≤ (getR pl f acc i l).2.1 ∧ (getR pl f acc i l).2.1 ≤ ((pl + i + l.length : Nat) : Int)
 | 0, _, _, _, _, _ => by simp [getR]; omega
 | f + 1, _, _, [], _, _ => by simp [getR]; omega
 | f + 1, acc, i, x :: t, hi, ha => by
  rw [getR]
  by_cases h1 : x.toNat < 128
  ·rw [if_pos h1]
   by_cases h2 : (x.toNat = 0 ∧ 0 < i) ∨ (i = 9 ∧ 1 < x.toNat)
   ·rw [if_pos h2]; simp; omega
   ·rw [if_neg h2]
    have hm := mul_le9 (show i ≤ 9 by omega) h1 (by omega)
    have hl := pow_le9 (show i ≤ 9 by omega)
    refine ⟨by simp only; omega, by simp only; omega, by simp only; omega, ?_⟩
    simp only [List.length_cons]; omega
  ·rw [if_neg h1]
   have hm : x.toNat % 128 < 128 := Nat.mod_lt _ (by decide)
   have := getR_facts pl f (acc + x.toNat % 128 * 128 ^ i) (i + 1) t (by omega) (acc_next ha hm)
   rw [List.length_cons, show pl + i + (t.length + 1) = pl + (i + 1) + t.length by omega]
   exact this
theorem getB_facts (b : List UInt8) (pl : Int) : 0 ≤ (getB b pl).1 ∧ (getB b pl).1 < 18446744073709551616 ∧ 0 ≤ (getB b pl).2.1 ∧ (getB b pl).2.1 ≤ (b.length : Int) := by
 unfold getB
 by_cases h : pl < 0 ∨ pl > (b.length : Int)
 ·rw [if_pos h]; simp
 ·rw [if_neg h]
  have := getR_facts pl.toNat 10 0 0 (b.drop pl.toNat) rfl (by simp)
  rw [List.length_drop] at this
  refine ⟨this.1, this.2.1, this.2.2.1, ?_⟩
  have h4 := this.2.2.2
  omega
theorem text_ev (b : List UInt8) (pl : Int) (most : Nat) (hb : b.length < 1000000000000) (hm : most < 1000000) : Ev (fun k => num_GetText.f k (b.map I) pl (most : Int)) (textB b pl most) := by
 obtain ⟨g1, g2, g3, g4⟩ := getB_facts b pl
 have hg := get_ev b pl hb
 simp only [num_GetText.f, List.length_map]
 refine Ev.bind hg ?_
 unfold textB
 revert g1 g2 g3 g4
 generalize (getB b pl).1 = n
 generalize (getB b pl).2.1 = k
 generalize (getB b pl).2.2 = e
 intro g1 g2 g3 g4
 by_cases he : e = 0
 ·rw [if_pos he, if_pos he]
  have hmx : IntKind.u64.wrap (mx (most : Int) 0) = (most : Int) := by
   rw [show mx (most : Int) 0 = (most : Int) by unfold mx; split <;> omega]
   exact u64_nat (by omega)
  have hs : IntKind.u64.wrap (wrap64 ((b.length : Int) - k)) = (b.length : Int) - k := by
   rw [show wrap64 ((b.length : Int) - k) = (b.length : Int) - k by unfold wrap64; omega]
   obtain ⟨m, hm⟩ := Int.eq_ofNat_of_zero_le (show 0 ≤ (b.length : Int) - k by omega)
   rw [hm]
   exact u64_nat (by omega)
  simp only [hmx, hs]
  by_cases h1 : n > (most : Int)
  ·rw [if_pos h1, if_pos h1]
   exact Ev.now _
  rw [if_neg h1, if_neg h1]
  by_cases h2 : n > (b.length : Int) - k
  ·rw [if_pos h2, if_pos h2]
   exact Ev.now _
  rw [if_neg h2, if_neg h2]
  have hw : wrap64 (k + wrap64 n) = k + n := by
   rw [show wrap64 n = n by unfold wrap64; omega]
   unfold wrap64; omega
  simp only [hw]
  rw [if_pos (by omega), if_pos (by omega), if_pos (by omega)]
  have hl : strOfNums (((b.map I).take (k + n).toNat).drop k.toNat) = ⟨((b.drop k.toNat).take n.toNat).toArray⟩ := by
   rw [← List.map_take, ← List.map_drop, nums_mk, List.drop_take]
   congr 3
   omega
  rw [hl]
  exact Ev.now _
 ·rw [if_neg he, if_neg he]
  exact Ev.now _
theorem getR_put (pl : Nat) : ∀ (f i acc n : Nat) (post : List UInt8), i + f = 10 → n * 128 ^ i < 18446744073709551616 → (0 < i → 0 < n) → getR pl f acc i (putL n ++ post) = (((acc + n * 128 ^ i : Nat) : Int), ((pl + i + (putL n).length : Nat) : Int), 0)
 | 0, i, acc, n, post, hi, hn, h0 => by
  obtain rfl : i = 10 := by omega
  have h1 : 128 ^ 10 ≤ n * 128 ^ 10 := Nat.le_mul_of_pos_left _ (h0 (by omega))
  have h2 : (18446744073709551616 : Nat) ≤ 128 ^ 10 := by decide
  omega
 | f + 1, i, acc, n, post, hi, hn, h0 => by
  by_cases h : n < 128
  ·rw [putL_small h, List.cons_append, getR]
   have hx : (UInt8.ofNat n).toNat = n := by rw [UInt8.toNat_ofNat']; omega
   rw [hx, if_pos h, if_neg]
   ·rfl
   ·rintro (⟨h1, h2⟩ | ⟨h1, h2⟩)
    ·have := h0 h2; omega
    ·subst h1
     have h3 : 2 * 128 ^ 9 ≤ n * 128 ^ 9 := Nat.mul_le_mul_right _ h2
     have h4 : (18446744073709551616 : Nat) ≤ 2 * 128 ^ 9 := by decide
     omega
  ·have hx : (UInt8.ofNat (n % 128 + 128)).toNat = n % 128 + 128 := by rw [UInt8.toNat_ofNat']; omega
   have e : n * 128 ^ i = n % 128 * 128 ^ i + n / 128 * 128 ^ (i + 1) := by
    rw [Nat.pow_succ, Nat.mul_comm (128 ^ i) 128, ← Nat.mul_assoc, ← Nat.add_mul]
    congr 1
    omega
   have ih := getR_put pl f (i + 1) (acc + n % 128 * 128 ^ i) (n / 128) post (by omega) (by omega) (fun _ => by omega)
   rw [putL_big h, List.cons_append, getR, hx, if_neg (by omega), show (n % 128 + 128) % 128 = n % 128 by omega, ih, e, List.length_cons]
   rw [show acc + n % 128 * 128 ^ i + n / 128 * 128 ^ (i + 1) = acc + (n % 128 * 128 ^ i + n / 128 * 128 ^ (i + 1)) by omega, show pl + (i + 1) + (putL (n / 128)).length = pl + i + ((putL (n / 128)).length + 1) by omega]
theorem getB_put (pre post : List UInt8) (n : Nat) (hn : n < 18446744073709551616) : getB (pre ++ (putL n ++ post)) (pre.length : Int) = ((n : Int), ((pre.length + (putL n).length : Nat) : Int), 0) := by
 unfold getB
 rw [if_neg (by rw [List.length_append]; omega), Int.toNat_natCast, List.drop_left, getR_put pre.length 10 0 0 n post rfl (by simpa using hn) (by omega)]
 simp
theorem textB_put (pre post s : List UInt8) (most : Nat) (hs : s.length ≤ most) (hm : most < 1000000) : textB (pre ++ ((putL s.length ++ s) ++ post)) (pre.length : Int) most = (⟨s.toArray⟩, ((pre.length + (putL s.length ++ s).length : Nat) : Int), 0) := by
 unfold textB
 rw [List.append_assoc, getB_put pre (s ++ post) s.length (by omega)]
 simp only
 rw [if_pos trivial, if_neg (by omega), if_neg (by simp only [List.length_append]; omega), Int.toNat_natCast, Int.toNat_natCast]
 rw [show pre ++ (putL s.length ++ (s ++ post)) = (pre ++ putL s.length) ++ (s ++ post) by simp, show pre.length + (putL s.length).length = (pre ++ putL s.length).length by simp, List.drop_left, List.take_left]
 simp only [List.length_append]
 congr 2
 omega
/-- what stands at a place of bytes, up to their end -/
def At (b : List UInt8) (pl : Nat) (rest : List UInt8) : Prop := ∃ pre, b = pre ++ rest ∧ pl = pre.length
theorem At.next {b : List UInt8} {pl : Nat} {x rest : List UInt8} (h : At b pl (x ++ rest)) : At b (pl + x.length) rest := by
 obtain ⟨pre, rfl, rfl⟩ := h
 exact ⟨pre ++ x, by simp, by simp⟩
theorem At.last {b : List UInt8} {pl : Nat} (h : At b pl []) : pl = b.length := by
 obtain ⟨pre, rfl, rfl⟩ := h
 simp
theorem At.asc {b : List UInt8} {pl : Nat} {x y rest : List UInt8} (h : At b pl ((x ++ y) ++ rest)) : At b pl (x ++ (y ++ rest)) := by
 rw [List.append_assoc] at h; exact h
section
variable {b : List UInt8} (hb : b.length < 100000000)
theorem num_read (hb : b.length < 100000000) {pl : Nat} {n : Int} {rest : List UInt8} (h : At b pl (putL n.toNat ++ rest)) (h0 : 0 ≤ n) (hn : n ≤ 4611686018427387904) : Ev (fun k => frame_reader_number.f k (b.map I) (pl : Int) false) (n, ((pl + (putL n.toNat).length : Nat) : Int), false) := by
 obtain ⟨pre, rfl, rfl⟩ := h
 have hg := get_ev (pre ++ (putL n.toNat ++ rest)) (pre.length : Int) (by omega)
 rw [getB_put pre rest n.toNat (by omega)] at hg
 simp only [frame_reader_number.f, Bool.false_eq_true, if_false]
 refine Ev.bind hg (ifpos rfl ?_)
 rw [show wrap64 (mn ((n.toNat : Nat) : Int) 4611686018427387904) = n by
  rw [show ((n.toNat : Nat) : Int) = n by omega, show mn n 4611686018427387904 = n by unfold mn; split <;> omega]
  unfold wrap64; omega]
 exact Ev.now _
theorem text_read (hb : b.length < 100000000) {pl : Nat} {s : ByteArray} {rest : List UInt8} (most : Nat) (h : At b pl (textL s ++ rest)) (hs : s.size ≤ most) (hm : most < 1000000) : Ev (fun k => frame_reader_text.f k (b.map I) (pl : Int) false (most : Int)) (s, ((pl + (textL s).length : Nat) : Int), false) := by
 obtain ⟨pre, rfl, rfl⟩ := h
 have hg := text_ev (pre ++ (textL s ++ rest)) (pre.length : Int) most (by omega) hm
 rw [show textB (pre ++ (textL s ++ rest)) (pre.length : Int) most = (s, ((pre.length + (textL s).length : Nat) : Int), 0) from textB_put pre rest s.data.toList most (by rw [dlen]; exact hs) hm] at hg
 simp only [frame_reader_text.f, Bool.false_eq_true, if_false]
 exact Ev.bind hg (ifpos rfl (Ev.now _))
theorem many_read (hb : b.length < 100000000) {pl : Nat} {n : Nat} {rest : List UInt8} (most : Int) (h : At b pl (putL n ++ rest)) (hn : (n : Int) ≤ most) (hm : most ≤ 1000000) : Ev (fun k => frame_reader_many.f k (b.map I) (pl : Int) false most) ((n : Int), ((pl + (putL n).length : Nat) : Int), false) := by
 have := num_read (n := (n : Int)) hb (by rw [Int.toNat_natCast]; exact h) (by omega) (by omega)
 rw [Int.toNat_natCast] at this
 simp only [frame_reader_many.f]
 exact Ev.bind this (ifneg (by omega) (Ev.now _))
end
theorem read_loop {α β : Type} (b : List UInt8) (f : α → List UInt8) (ok : α → Prop) (n : Nat) (F : Nat → Int → Int → List α → Option β) (r : β) (rest : List UInt8)
  (hs : ∀ i pl x acc tail, i < n → ok x → acc.length = i → At b pl (f x ++ tail) → ∀ r, Ev (fun k => F k ((i + 1 : Nat) : Int) ((pl + (f x).length : Nat) : Int) (acc ++ [x])) r → Ev (fun k => F k (i : Int) (pl : Int) acc) r) :
  ∀ (cs : List α) (i pl : Nat) (acc : List α), i + cs.length = n → acc.length = i → (∀ x ∈ cs, ok x) → At b pl (cs.flatMap f ++ rest) → (∀ pl', At b pl' rest → Ev (fun k => F k (n : Int) (pl' : Int) (acc ++ cs)) r) → Ev (fun k => F k (i : Int) (pl : Int) acc) r := by
 intro cs
 induction cs with
 | nil =>
  intro i pl acc hi ha hx hp he
  rw [List.length_nil, Nat.add_zero] at hi
  have := he pl hp
  rw [List.append_nil] at this
  rw [hi]; exact this
 | cons c cs ih =>
  intro i pl acc hi ha hx hp he
  rw [List.length_cons] at hi
  rw [List.flatMap_cons] at hp
  have hp2 := hp.asc
  refine hs i pl c acc (cs.flatMap f ++ rest) (by omega) (hx c (by simp)) ha hp2 r ?_
  refine ih (i + 1) (pl + (f c).length) (acc ++ [c]) (by omega) (by simp [ha]) (fun x hx' => hx x (by simp [hx'])) hp2.next (fun pl' h => ?_)
  rw [List.append_assoc]
  exact he pl' h
section
variable (a0 a1 a2 : Int) (ps : List ByteArray) (d s : ByteArray) (sg : List S65) (sp : List S74) (nn : ByteArray) (es : List S67) (u al : Int)
variable (b : List UInt8)
theorem read3_ev (H : FitP a0 a1 a2 ps d s sg sp nn es u al) (hb : b.length < 100000000) (hf : Ev (fun k => frame_Fits.f k a0 a1 a2 ps d s sg sp nn es u al) true) (y1 y2 : Int) (pl : Nat) (hp : At b pl (es.flatMap entL ++ tail2 u al)) :
  Ev (fun k => frame_ReadReply.l3 k (b.map I) (es.length : Int) 0 (b.map I) (pl : Int) false a0 a1 a2 ps d s sg sp nn [] y1 y2) (a0, a1, a2, ps, d, s, sg, sp, nn, es, u, al, 0) := by
 have he := H.e
 refine read_loop b entL entP es.length (fun k i at_ acc => frame_ReadReply.l3 k (b.map I) (es.length : Int) i (b.map I) at_ false a0 a1 a2 ps d s sg sp nn acc y1 y2) _ (tail2 u al) (fun i pl x acc tl hi hx ha hp r hr => ?_) es 0 pl [] (by simp) rfl he.2 hp (fun pl hp => ?_)
 ·simp only [entL] at hp
  have p0 := hp.asc
  have p1 := p0.next.asc
  have p2 := p1.next.asc
  have p3 := p2.next.asc
  have p4 := p3.next
  obtain ⟨h1, h2, h3, h4, h5, h6, h7, h8, h9⟩ := hx
  have e0 := num_read hb p0 (by omega) (by omega)
  have e1 := num_read hb p1 (by omega) (by omega)
  have e2 := num_read hb p2 (by omega) (by omega)
  have e3 := text_read hb 32 p3 h7 (by omega)
  have e4 := num_read hb p4 (by omega) (by omega)
  rw [show pl + (entL x).length = pl + (putL x.f0.toNat).length + (putL x.f1.toNat).length + (putL x.f2.toNat).length + (textL x.f3).length + (putL x.f4.toNat).length by simp only [entL, List.length_append]; omega] at hr
  refine Ev.step (f := fun k => (frame_reader_number.f k (b.map I) (pl : Int) false).bind fun t0 => (frame_reader_number.f k (b.map I) t0.2.1 t0.2.2).bind fun t1 => (frame_reader_number.f k (b.map I) t1.2.1 t1.2.2).bind fun t2 => (frame_reader_text.f k (b.map I) t2.2.1 t2.2.2 32).bind fun t3 => (frame_reader_number.f k (b.map I) t3.2.1 t3.2.2).bind fun t4 => frame_ReadReply.l3 k (b.map I) (es.length : Int) ((i + 1 : Nat) : Int) (b.map I) t4.2.1 t4.2.2 a0 a1 a2 ps d s sg sp nn (acc ++ [⟨t0.1, t1.1, t2.1, t3.1, t4.1⟩]) y1 y2) (fun k => ?_) (Ev.bind e0 (Ev.bind e1 (Ev.bind e2 (Ev.bind e3 (Ev.bind e4 hr)))))
  simp only [frame_ReadReply.l3]
  rw [if_pos (by omega), wrap_succ hi (by omega)]
  simp only [if_pos (show acc.length < 2932031007402 by omega)]
 ·have hu := H.u
  have ha := H.a
  simp only [tail2] at hp
  have hp' : At b pl (putL u.toNat ++ (putL al.toNat ++ [])) := by rw [List.append_nil]; exact hp
  have p1 := hp'.next
  have p2 := p1.next.last
  have e0 := num_read hb hp' (by omega) (by omega)
  have e1 := num_read hb p1 (by omega) (by omega)
  simp only [List.nil_append]
  refine Ev.step (f := fun k => (frame_reader_number.f k (b.map I) (pl : Int) false).bind fun t0 => (frame_reader_number.f k (b.map I) t0.2.1 t0.2.2).bind fun t1 => if t1.2.2 = true then frame_ReadReply.j4 k true a0 a1 a2 ps d s sg sp nn es t0.1 t1.1 else (if t1.2.1 = ((b.map I).length : Int) then ((frame_Fits.f k a0 a1 a2 ps d s sg sp nn es t0.1 t1.1).bind fun t => frame_ReadReply.j4 k (!t) a0 a1 a2 ps d s sg sp nn es t0.1 t1.1) else frame_ReadReply.j4 k true a0 a1 a2 ps d s sg sp nn es t0.1 t1.1)) (fun k => ?_) ?_
  ·simp only [frame_ReadReply.l3]
   rw [if_neg (by omega)]
  ·refine Ev.bind e0 ?_
   refine Ev.bind e1 ?_
   refine ifneg (by simp) ?_
   refine ifpos (by rw [List.length_map]; show ((pl + (putL u.toNat).length + (putL al.toNat).length : Nat) : Int) = _; omega) ?_
   refine Ev.bind hf ?_
   refine Ev.step (f := fun _ => some (a0, a1, a2, ps, d, s, sg, sp, nn, es, u, al, 0)) (fun k => ?_) (Ev.now _)
   simp only [frame_ReadReply.j4]
   rfl
theorem read2_ev (H : FitP a0 a1 a2 ps d s sg sp nn es u al) (hb : b.length < 100000000) (hf : Ev (fun k => frame_Fits.f k a0 a1 a2 ps d s sg sp nn es u al) true) (y0 : ByteArray) (y1 y2 : Int) (pl : Nat) (hp : At b pl (sp.flatMap spanL ++ tail1 nn es u al)) :
  Ev (fun k => frame_ReadReply.l2 k (b.map I) (sp.length : Int) 0 (b.map I) (pl : Int) false a0 a1 a2 ps d s sg [] y0 y1 y2) (a0, a1, a2, ps, d, s, sg, sp, nn, es, u, al, 0) := by
 have he := H.n
 refine read_loop b spanL spanP sp.length (fun k i at_ acc => frame_ReadReply.l2 k (b.map I) (sp.length : Int) i (b.map I) at_ false a0 a1 a2 ps d s sg acc y0 y1 y2) _ (tail1 nn es u al) (fun i pl x acc tl hi hx ha hp r hr => ?_) sp 0 pl [] (by simp) rfl he.2 hp (fun pl hp => ?_)
 ·simp only [spanL] at hp
  have p0 := hp.asc
  have p1 := p0.next
  obtain ⟨h1, h2, h3, h4⟩ := hx
  have e0 := num_read hb p0 (by omega) (by omega)
  have e1 := num_read hb p1 (by omega) (by omega)
  rw [show pl + (spanL x).length = pl + (putL x.f0.toNat).length + (putL x.f1.toNat).length by simp only [spanL, List.length_append]; omega] at hr
  refine Ev.step (f := fun k => (frame_reader_number.f k (b.map I) (pl : Int) false).bind fun t0 => (frame_reader_number.f k (b.map I) t0.2.1 t0.2.2).bind fun t1 => frame_ReadReply.l2 k (b.map I) (sp.length : Int) ((i + 1 : Nat) : Int) (b.map I) t1.2.1 t1.2.2 a0 a1 a2 ps d s sg (acc ++ [⟨t0.1, t1.1⟩]) y0 y1 y2) (fun k => ?_) (Ev.bind e0 (Ev.bind e1 hr))
  simp only [frame_ReadReply.l2]
  rw [if_pos (by omega), wrap_succ hi (by omega)]
  simp only [if_pos (show acc.length < 8796093022208 by omega)]
 ·have ho := H.o
  have hh := H.e.1
  simp only [tail1] at hp
  have p1 := hp.next
  have p2 := p1.next
  have e0 := text_read hb 12 hp (by omega) (by omega)
  have e1 := many_read hb 8 p1 (by omega) (by omega)
  have e2 := read3_ev a0 a1 a2 ps d s sg sp nn es u al b H hb hf y1 y2 _ p2
  refine Ev.step (f := fun k => (frame_reader_text.f k (b.map I) (pl : Int) false 12).bind fun t0 => (frame_reader_many.f k (b.map I) t0.2.1 t0.2.2 8).bind fun t1 => frame_ReadReply.l3 k (b.map I) t1.1 0 (b.map I) t1.2.1 t1.2.2 a0 a1 a2 ps d s sg ([] ++ sp) t0.1 [] y1 y2) (fun k => ?_) (Ev.bind e0 (Ev.bind e1 e2))
  simp only [frame_ReadReply.l2]
  rw [if_neg (by omega)]
theorem read1_ev (H : FitP a0 a1 a2 ps d s sg sp nn es u al) (hb : b.length < 100000000) (hf : Ev (fun k => frame_Fits.f k a0 a1 a2 ps d s sg sp nn es u al) true) (y0 : ByteArray) (y1 y2 : Int) (pl : Nat) (hp : At b pl (sg.flatMap signL ++ tail0 sp nn es u al)) :
  Ev (fun k => frame_ReadReply.l1 k (b.map I) (sg.length : Int) 0 (b.map I) (pl : Int) false a0 a1 a2 ps d s [] y0 y1 y2) (a0, a1, a2, ps, d, s, sg, sp, nn, es, u, al, 0) := by
 have he := H.g
 refine read_loop b signL signP sg.length (fun k i at_ acc => frame_ReadReply.l1 k (b.map I) (sg.length : Int) i (b.map I) at_ false a0 a1 a2 ps d s acc y0 y1 y2) _ (tail0 sp nn es u al) (fun i pl x acc tl hi hx ha hp r hr => ?_) sg 0 pl [] (by simp) rfl he.2 hp (fun pl hp => ?_)
 ·simp only [signL] at hp
  have p0 := hp.asc
  have p1 := p0.next
  obtain ⟨h1, h2, h3⟩ := hx
  have e0 := num_read hb p0 (by omega) (by omega)
  have e1 := text_read hb 16 p1 (by omega) (by omega)
  rw [show pl + (signL x).length = pl + (putL x.f0.toNat).length + (textL x.f1).length by simp only [signL, List.length_append]; omega] at hr
  refine Ev.step (f := fun k => (frame_reader_number.f k (b.map I) (pl : Int) false).bind fun t0 => if t0.2.2 = true then ((frame_reader_text.f k (b.map I) t0.2.1 true 16).bind fun t1 => frame_ReadReply.l1 k (b.map I) (sg.length : Int) ((i + 1 : Nat) : Int) (b.map I) t1.2.1 t1.2.2 a0 a1 a2 ps d s (acc ++ [⟨t0.1 % 4294967296, t1.1⟩]) y0 y1 y2) else ((frame_reader_text.f k (b.map I) t0.2.1 (decide (t0.1 ≥ 4294967296)) 16).bind fun t1 => frame_ReadReply.l1 k (b.map I) (sg.length : Int) ((i + 1 : Nat) : Int) (b.map I) t1.2.1 t1.2.2 a0 a1 a2 ps d s (acc ++ [⟨t0.1 % 4294967296, t1.1⟩]) y0 y1 y2)) (fun k => ?_) (Ev.bind e0 (ifneg (by simp) ?_))
  ·simp only [frame_ReadReply.l1]
   rw [if_pos (by omega), wrap_succ hi (by omega)]
   simp only [if_pos (show acc.length < 5864062014805 by omega)]
  ·simp only [decide_eq_false (show ¬ x.f0 ≥ 4294967296 by omega)]
   refine Ev.bind e1 ?_
   rw [show x.f0 % 4294967296 = x.f0 by omega]
   exact hr
 ·have ho := H.n.1
  simp only [tail0] at hp
  have p1 := hp.next
  have e1 := many_read hb 4 hp (by omega) (by omega)
  have e2 := read2_ev a0 a1 a2 ps d s sg sp nn es u al b H hb hf y0 y1 y2 _ p1
  refine Ev.step (f := fun k => (frame_reader_many.f k (b.map I) (pl : Int) false 4).bind fun t1 => frame_ReadReply.l2 k (b.map I) t1.1 0 (b.map I) t1.2.1 t1.2.2 a0 a1 a2 ps d s ([] ++ sg) [] y0 y1 y2) (fun k => ?_) (Ev.bind e1 e2)
  simp only [frame_ReadReply.l1]
  rw [if_neg (by omega)]
theorem read0_ev (H : FitP a0 a1 a2 ps d s sg sp nn es u al) (hb : b.length < 100000000) (hf : Ev (fun k => frame_Fits.f k a0 a1 a2 ps d s sg sp nn es u al) true) (y4 y5 y0 : ByteArray) (y1 y2 : Int) (pl : Nat) (hp : At b pl (ps.flatMap textL ++ (textL d ++ (textL s ++ (putL sg.length ++ (sg.flatMap signL ++ tail0 sp nn es u al)))))) :
  Ev (fun k => frame_ReadReply.l0 k (b.map I) (ps.length : Int) 0 (b.map I) (pl : Int) false a0 a1 a2 [] y4 y5 y0 y1 y2) (a0, a1, a2, ps, d, s, sg, sp, nn, es, u, al, 0) := by
 have he := H.p
 refine read_loop b textL pathP ps.length (fun k i at_ acc => frame_ReadReply.l0 k (b.map I) (ps.length : Int) i (b.map I) at_ false a0 a1 a2 acc y4 y5 y0 y1 y2) _ (textL d ++ (textL s ++ (putL sg.length ++ (sg.flatMap signL ++ tail0 sp nn es u al)))) (fun i pl x acc tl hi hx ha hp r hr => ?_) ps 0 pl [] (by simp) rfl he.2 hp (fun pl hp => ?_)
 ·have e1 := text_read hb 32 hp hx (by omega)
  refine Ev.step (f := fun k => (frame_reader_text.f k (b.map I) (pl : Int) false 32).bind fun t1 => frame_ReadReply.l0 k (b.map I) (ps.length : Int) ((i + 1 : Nat) : Int) (b.map I) t1.2.1 t1.2.2 a0 a1 a2 (acc ++ [t1.1]) y4 y5 y0 y1 y2) (fun k => ?_) (Ev.bind e1 hr)
  simp only [frame_ReadReply.l0]
  rw [if_pos (by omega), wrap_succ hi (by omega)]
  simp only [if_pos (show acc.length < 8796093022208 by omega)]
 ·have hd := H.d
  have hs := H.s
  have hg := H.g.1
  have p1 := hp.next
  have p2 := p1.next
  have p3 := p2.next
  have e0 := text_read hb 1024 hp (by omega) (by omega)
  have e1 := text_read hb 32 p1 (by omega) (by omega)
  have e2 := many_read hb 1024 p2 (by omega) (by omega)
  have e3 := read1_ev a0 a1 a2 ps d s sg sp nn es u al b H hb hf y0 y1 y2 _ p3
  refine Ev.step (f := fun k => (frame_reader_text.f k (b.map I) (pl : Int) false 1024).bind fun t0 => (frame_reader_text.f k (b.map I) t0.2.1 t0.2.2 32).bind fun t1 => (frame_reader_many.f k (b.map I) t1.2.1 t1.2.2 1024).bind fun t2 => frame_ReadReply.l1 k (b.map I) t2.1 0 (b.map I) t2.2.1 t2.2.2 a0 a1 a2 ([] ++ ps) t0.1 t1.1 [] y0 y1 y2) (fun k => ?_) (Ev.bind e0 (Ev.bind e1 (Ev.bind e2 e3)))
  simp only [frame_ReadReply.l0]
  rw [if_neg (by omega)]
theorem reply_len (H : FitP a0 a1 a2 ps d s sg sp nn es u al) : (replyL a0 a1 a2 ps d s sg sp nn es u al).length ≤ 65536 := by
 have h0 := H.h0
 have h1 := H.h1
 have h2 := H.h2
 have hd := H.d
 have hs := H.s
 have ho := H.o
 have hu := H.u
 have ha := H.a
 have hg := H.g.1
 have hp := H.p.1
 have hn := H.n.1
 have he := H.e.1
 have gp := paths_len a0 a1 a2 ps d s sg sp nn es u al H
 have gs := flat_len signL 22 sg (fun x hx => sign_len (H.g.2 x hx))
 have gn := flat_len spanL 20 sp (fun x hx => span_len (H.n.2 x hx))
 have ge := flat_len entL 82 es (fun x hx => ent_len (H.e.2 x hx))
 have g0 := putL_ten (n := a0.toNat) (by omega)
 have g1 := putL_ten (n := a1.toNat) (by omega)
 have g2 := putL_ten (n := a2.toNat) (by omega)
 have g3 := putL_ten (n := ps.length) (by omega)
 have g4 := textL_len (s := d) (by omega)
 have g5 := textL_len (s := s) (by omega)
 have g6 := putL_ten (n := sg.length) (by omega)
 have g7 := putL_ten (n := sp.length) (by omega)
 have g8 := putL_ten (n := es.length) (by omega)
 have g9 := putL_ten (n := u.toNat) (by omega)
 have g10 := putL_ten (n := al.toNat) (by omega)
 have g11 := textL_len (s := nn) (by omega)
 simp only [replyL, tail0, tail1, tail2, List.length_append, List.length_cons]
 omega
theorem read_ev (H : FitP a0 a1 a2 ps d s sg sp nn es u al) (hf : Ev (fun k => frame_Fits.f k a0 a1 a2 ps d s sg sp nn es u al) true) :
  Ev (fun k => frame_ReadReply.f k ((replyL a0 a1 a2 ps d s sg sp nn es u al).map I)) (a0, a1, a2, ps, d, s, sg, sp, nn, es, u, al, 0) := by
 have hl := reply_len a0 a1 a2 ps d s sg sp nn es u al H
 generalize hB : replyL a0 a1 a2 ps d s sg sp nn es u al = b at hl ⊢
 have hb : b.length < 100000000 := by omega
 have h0 := H.h0
 have h1 := H.h1
 have h2 := H.h2
 have hp := H.p.1
 have p0 : At b 1 (putL a0.toNat ++ (putL a1.toNat ++ (putL a2.toNat ++ (putL ps.length ++ (ps.flatMap textL ++ (textL d ++ (textL s ++ (putL sg.length ++ (sg.flatMap signL ++ tail0 sp nn es u al))))))))) := ⟨[2], by rw [← hB]; rfl, rfl⟩
 have p1 := p0.next
 have p2 := p1.next
 have p3 := p2.next
 have p4 := p3.next
 have e0 := num_read hb p0 (by omega) (by omega)
 have e1 := num_read hb p1 (by omega) (by omega)
 have e2 := num_read hb p2 (by omega) (by omega)
 have e3 := many_read hb 64 p3 (by omega) (by omega)
 have e4 := read0_ev a0 a1 a2 ps d s sg sp nn es u al b H hb hf ⟨#[]⟩ ⟨#[]⟩ ⟨#[]⟩ 0 0 _ p4
 have hbeg : frame_begun.f (b.map I) 2 = some (b.map I, 1, false) := by
  have hlen : 0 < b.length := by rw [← hB]; simp [replyL]
  have hrd : rd (b.map I) 0 = 2 := by rw [← hB]; rfl
  simp only [frame_begun.f, List.length_map, hrd]
  rw [if_neg (by omega), if_pos (by omega)]
  rfl
 simp only [frame_ReadReply.f, hbeg, Option.bind_some, List.length_map]
 exact ifneg (by omega) (Ev.bind e0 (Ev.bind e1 (Ev.bind e2 (Ev.bind e3 e4))))
end
theorem all_ev {α : Type} (l : List α) (F : Nat → Int → Option Bool)
  (ht : ∀ i c cs, l.drop i = c :: cs → ∀ r, Ev (fun k => F k ((i + 1 : Nat) : Int)) r → Ev (fun k => F k (i : Int)) r)
  (r : Bool) (he : Ev (fun k => F k ((l.length : Nat) : Int)) r) : Ev (fun k => F k 0) r := by
 have := all_loopG l (fun _ => true) r false F (fun i c cs hd _ r hr => ht i c cs hd r hr) (fun i c cs hd hc => by cases hc) he l 0 rfl (Nat.zero_le _)
 rw [if_pos (by simp)] at this
 exact this
theorem sameS_ev (ps : List ByteArray) (hs : ps.length < 1000) : Ev (fun k => strongroomref05_Same.f k ps ps) true := by
 simp only [strongroomref05_Same.f]
 refine ifpos trivial (all_ev ps (fun k i => strongroomref05_Same.l0 k ps ps i) (fun i c cs hd r hr => ?_) true ?_)
 ·have hlt := (drop_cons_facts hd).2.2
  refine Ev.step (fun k => ?_) hr
  simp only [strongroomref05_Same.l0, rdS_at hd]
  rw [if_pos (by omega), if_pos (by omega), if_pos (by omega), if_pos trivial, wrap_succ hlt (by omega)]
 ·refine Ev.step (f := fun _ => some true) (fun k => ?_) (Ev.now _)
  simp only [strongroomref05_Same.l0]
  rw [if_neg (by omega)]
section
variable (a0 a1 a2 : Int) (ps : List ByteArray) (d s : ByteArray) (sg : List S65) (sp : List S74) (nn : ByteArray) (es : List S67) (u al : Int)
theorem sames2_ev (hl : es.length < 1000) : Ev (fun k => strongroomref25_SameReplies.l2 k 0 a0 a1 a2 ps d s sg sp nn es u al a0 a1 a2 ps d s sg sp nn es u al) true := by
 refine all_ev es (fun k i => strongroomref25_SameReplies.l2 k i a0 a1 a2 ps d s sg sp nn es u al a0 a1 a2 ps d s sg sp nn es u al) (fun i c cs hd r hr => ?_) true ?_
 ·have hlt := (drop_cons_facts hd).2.2
  refine Ev.step (fun k => ?_) hr
  simp only [strongroomref25_SameReplies.l2, rd67_at hd]
  rw [if_pos (by omega), if_pos (by omega), if_pos (by omega), if_neg (by simp), wrap_succ hlt (by omega)]
 ·refine Ev.step (f := fun _ => some true) (fun k => ?_) (Ev.now _)
  simp only [strongroomref25_SameReplies.l2]
  rw [if_neg (by omega)]
theorem sames1_ev (hp : sp.length < 1000) (hl : es.length < 1000) : Ev (fun k => strongroomref25_SameReplies.l1 k 0 a0 a1 a2 ps d s sg sp nn es u al a0 a1 a2 ps d s sg sp nn es u al) true := by
 refine all_ev sp (fun k i => strongroomref25_SameReplies.l1 k i a0 a1 a2 ps d s sg sp nn es u al a0 a1 a2 ps d s sg sp nn es u al) (fun i c cs hd r hr => ?_) true ?_
 ·have hlt := (drop_cons_facts hd).2.2
  refine Ev.step (fun k => ?_) hr
  simp only [strongroomref25_SameReplies.l1, rd74_at hd]
  rw [if_pos (by omega), if_pos (by omega), if_pos (by omega), if_neg (by simp), wrap_succ hlt (by omega)]
 ·refine Ev.step (fun k => ?_) (sames2_ev a0 a1 a2 ps d s sg sp nn es u al hl)
  simp only [strongroomref25_SameReplies.l1]
  rw [if_neg (by omega)]
theorem sames0_ev (hg : sg.length < 10000) (hp : sp.length < 1000) (hl : es.length < 1000) : Ev (fun k => strongroomref25_SameReplies.l0 k 0 a0 a1 a2 ps d s sg sp nn es u al a0 a1 a2 ps d s sg sp nn es u al) true := by
 refine all_ev sg (fun k i => strongroomref25_SameReplies.l0 k i a0 a1 a2 ps d s sg sp nn es u al a0 a1 a2 ps d s sg sp nn es u al) (fun i c cs hd r hr => ?_) true ?_
 ·have hlt := (drop_cons_facts hd).2.2
  refine Ev.step (fun k => ?_) hr
  simp only [strongroomref25_SameReplies.l0, rd65_at hd]
  rw [if_pos (by omega), if_pos (by omega), if_pos (by omega), if_neg (by simp), wrap_succ hlt (by omega)]
 ·refine Ev.step (fun k => ?_) (sames1_ev a0 a1 a2 ps d s sg sp nn es u al hp hl)
  simp only [strongroomref25_SameReplies.l0]
  rw [if_neg (by omega)]
theorem sames_ev (hs : ps.length < 1000) (hg : sg.length < 10000) (hp : sp.length < 1000) (hl : es.length < 1000) : Ev (fun k => strongroomref25_SameReplies.f k a0 a1 a2 ps d s sg sp nn es u al a0 a1 a2 ps d s sg sp nn es u al) true := by
 have hj : Ev (fun k => strongroomref25_SameReplies.j0 k (!true) a0 a1 a2 ps d s sg sp nn es u al a0 a1 a2 ps d s sg sp nn es u al) true := by
  refine Ev.step (f := fun k => strongroomref25_SameReplies.j1 k ((es.length : Int) != (es.length : Int)) a0 a1 a2 ps d s sg sp nn es u al a0 a1 a2 ps d s sg sp nn es u al) (fun k => ?_) (Ev.step (fun k => ?_) (sames0_ev a0 a1 a2 ps d s sg sp nn es u al hg hp hl))
  ·simp only [strongroomref25_SameReplies.j0]
   rw [if_neg (by simp), if_pos trivial, if_pos trivial]
  ·simp only [strongroomref25_SameReplies.j1]
   rw [if_neg (by simp)]
 simp only [strongroomref25_SameReplies.f]
 exact ifpos trivial (ifpos trivial (ifpos trivial (ifpos trivial (ifpos trivial (ifpos trivial (ifpos trivial (ifpos trivial (Ev.bind (sameS_ev ps hs) hj))))))))
theorem lit2_ev (hl : es.length < 1000) : Ev (fun k => strongroomlaw25_little.l2 k 0 a0 a1 a2 ps d s sg sp nn es u al) (if (es.all fun x => decide (x.f3.size ≤ 200)) = true then true else false) := by
 refine all_loopG es (fun x => decide (x.f3.size ≤ 200)) true false (fun k i => strongroomlaw25_little.l2 k i a0 a1 a2 ps d s sg sp nn es u al) (fun i c cs hd hc r hr => ?_) (fun i c cs hd hc => ?_) ?_ es 0 rfl (Nat.zero_le _)
 ·have hlt := (drop_cons_facts hd).2.2
  simp only [decide_eq_true_eq] at hc
  refine Ev.step (fun k => ?_) hr
  simp only [strongroomlaw25_little.l2, rd67_at hd]
  rw [if_pos (by omega), if_pos (by omega), if_neg (by omega), wrap_succ hlt (by omega)]
 ·have hlt := (drop_cons_facts hd).2.2
  simp only [decide_eq_false_iff_not] at hc
  refine Ev.step (f := fun _ => some false) (fun k => ?_) (Ev.now _)
  simp only [strongroomlaw25_little.l2, rd67_at hd]
  rw [if_pos (by omega), if_pos (by omega), if_pos (by omega)]
 ·refine Ev.step (f := fun _ => some true) (fun k => ?_) (Ev.now _)
  simp only [strongroomlaw25_little.l2]
  rw [if_neg (by omega)]
theorem lit1_ev (hg : sg.length < 10000) (hl : es.length < 1000) : ∃ v, Ev (fun k => strongroomlaw25_little.l1 k 0 a0 a1 a2 ps d s sg sp nn es u al) v := by
 refine ⟨_, all_loopG sg (fun x => decide (x.f1.size ≤ 100)) (if (es.all fun x => decide (x.f3.size ≤ 200)) = true then true else false) false (fun k i => strongroomlaw25_little.l1 k i a0 a1 a2 ps d s sg sp nn es u al) (fun i c cs hd hc r hr => ?_) (fun i c cs hd hc => ?_) ?_ sg 0 rfl (Nat.zero_le _)⟩
 ·have hlt := (drop_cons_facts hd).2.2
  simp only [decide_eq_true_eq] at hc
  refine Ev.step (fun k => ?_) hr
  simp only [strongroomlaw25_little.l1, rd65_at hd]
  rw [if_pos (by omega), if_pos (by omega), if_neg (by omega), wrap_succ hlt (by omega)]
 ·have hlt := (drop_cons_facts hd).2.2
  simp only [decide_eq_false_iff_not] at hc
  refine Ev.step (f := fun _ => some false) (fun k => ?_) (Ev.now _)
  simp only [strongroomlaw25_little.l1, rd65_at hd]
  rw [if_pos (by omega), if_pos (by omega), if_pos (by omega)]
 ·refine Ev.step (fun k => ?_) (lit2_ev a0 a1 a2 ps d s sg sp nn es u al hl)
  simp only [strongroomlaw25_little.l1]
  rw [if_neg (by omega)]
theorem lit0_ev (hs : ps.length < 1000) (hg : sg.length < 10000) (hl : es.length < 1000) : ∃ v, Ev (fun k => strongroomlaw25_little.l0 k 0 a0 a1 a2 ps d s sg sp nn es u al) v := by
 obtain ⟨v, hv⟩ := lit1_ev a0 a1 a2 ps d s sg sp nn es u al hg hl
 refine ⟨_, all_loopG ps (fun x => decide (x.size ≤ 200)) v false (fun k i => strongroomlaw25_little.l0 k i a0 a1 a2 ps d s sg sp nn es u al) (fun i c cs hd hc r hr => ?_) (fun i c cs hd hc => ?_) ?_ ps 0 rfl (Nat.zero_le _)⟩
 ·have hlt := (drop_cons_facts hd).2.2
  simp only [decide_eq_true_eq] at hc
  refine Ev.step (fun k => ?_) hr
  simp only [strongroomlaw25_little.l0, rdS_at hd]
  rw [if_pos (by omega), if_pos (by omega), if_neg (by omega), wrap_succ hlt (by omega)]
 ·have hlt := (drop_cons_facts hd).2.2
  simp only [decide_eq_false_iff_not] at hc
  refine Ev.step (f := fun _ => some false) (fun k => ?_) (Ev.now _)
  simp only [strongroomlaw25_little.l0, rdS_at hd]
  rw [if_pos (by omega), if_pos (by omega), if_pos (by omega)]
 ·refine Ev.step (fun k => ?_) hv
  simp only [strongroomlaw25_little.l0]
  rw [if_neg (by omega)]
theorem little_ev : ∃ v, Ev (fun k => strongroomlaw25_little.f k a0 a1 a2 ps d s sg sp nn es u al) v ∧ (v = true → ps.length < 1000 ∧ sg.length < 10000 ∧ sp.length < 1000 ∧ es.length < 1000) := by
 have hjt : Ev (fun k => strongroomlaw25_little.j0 k true a0 a1 a2 ps d s sg sp nn es u al) false := by
  refine Ev.step (f := fun _ => some false) (fun k => ?_) (Ev.now _)
  simp only [strongroomlaw25_little.j0]
  rw [if_pos trivial]
 by_cases hb : ps.length ≤ 100 ∧ d.size ≤ 2000 ∧ s.size ≤ 200 ∧ sg.length ≤ 1100 ∧ sp.length ≤ 40 ∧ nn.size ≤ 200 ∧ es.length ≤ 40
 ·obtain ⟨v, hv⟩ := lit0_ev a0 a1 a2 ps d s sg sp nn es u al (by omega) (by omega) (by omega)
  refine ⟨v, ?_, fun _ => by omega⟩
  simp only [strongroomlaw25_little.f]
  refine ifneg (by omega) (ifneg (by omega) (ifneg (by omega) (ifneg (by omega) (ifneg (by omega) (ifneg (by omega) ?_)))))
  rw [decide_eq_false (by omega)]
  refine Ev.step (fun k => ?_) hv
  simp only [strongroomlaw25_little.j0]
  rw [if_neg (by simp)]
 ·refine ⟨false, ?_, fun h => by cases h⟩
  simp only [strongroomlaw25_little.f]
  repeat' refine ite_ev (fun _ => ?_) (fun _ => ?_)
  all_goals first | exact hjt | (rw [decide_eq_true (by omega)]; exact hjt)
theorem fitP_of (hw : ∀ x ∈ sg, 0 ≤ x.f0 ∧ x.f0 < 4294967296) (h : fitsB a0 a1 a2 ps d s sg sp nn es u al = true) : FitP a0 a1 a2 ps d s sg sp nn es u al := by
 unfold fitsB at h
 by_cases hh : headP a0 a1 a2 ps d s sg sp nn es
 ·rw [if_pos hh] at h
  unfold listsB at h
  by_cases h1 : ps.all goodB = true
  ·by_cases h2 : sg.all signOk = true
   ·by_cases h3 : sp.all spanOk = true
    ·by_cases h4 : es.all entOk = true
     ·rw [if_pos h1, if_pos h2, if_pos h3, if_pos h4, decide_eq_true_eq] at h
      simp only [headP] at hh
      simp only [lastP] at h
      rw [List.all_eq_true] at h1 h2 h3 h4
      exact ⟨by omega, by omega, by omega, ⟨by omega, fun x hx => goodB_le (h1 x hx)⟩, by omega, by omega, ⟨by omega, fun x hx => ⟨by have := h2 x hx; simp only [signOk, decide_eq_true_eq] at this; exact this, hw x hx⟩⟩, ⟨by omega, fun x hx => by have := h3 x hx; simp only [spanOk, decide_eq_true_eq] at this; exact this⟩, by omega, ⟨by omega, fun x hx => by have := h4 x hx; simp only [entOk, decide_eq_true_eq] at this; exact this⟩, by omega, by omega⟩
     ·rw [if_pos h1, if_pos h2, if_pos h3, if_neg h4] at h; cases h
    ·rw [if_pos h1, if_pos h2, if_neg h3] at h; cases h
   ·rw [if_pos h1, if_neg h2] at h; cases h
  ·rw [if_neg h1] at h; cases h
 ·rw [if_neg hh] at h; cases h
end
theorem lives_ev : Ev (fun k => strongroomlaw25_lives.f k) true := by
 have hz : (⟨#[]⟩ : ByteArray).size = 0 := rfl
 have hb : fitsB 1 2 0 [] ⟨#[]⟩ ⟨#[]⟩ [] [] ⟨#[]⟩ [] 0 0 = true := by
  unfold fitsB
  rw [if_pos (by simp [headP, hz]), decide_eq_true (by simp [lastP])]
  rfl
 have hf := fits_ev 1 2 0 [] ⟨#[]⟩ ⟨#[]⟩ [] [] ⟨#[]⟩ [] 0 0 (by simp) (by simp) (by simp) (by simp)
 rw [hb] at hf
 have H := fitP_of 1 2 0 [] ⟨#[]⟩ ⟨#[]⟩ [] [] ⟨#[]⟩ [] 0 0 (by simp) hb
 have hr := reply_ev 1 2 0 [] ⟨#[]⟩ ⟨#[]⟩ [] [] ⟨#[]⟩ [] 0 0 H hf
 have h0 : putL 0 = [0] := putL_small (by omega)
 have hl : replyL 1 2 0 [] ⟨#[]⟩ ⟨#[]⟩ [] [] ⟨#[]⟩ [] 0 0 = [2, 1, 2, 0, 0, 0, 0, 0, 0, 0, 0, 0, 0] := by
  have h1 : putL 1 = [1] := putL_small (by omega)
  have h2 : putL 2 = [2] := putL_small (by omega)
  have ht : textL ⟨#[]⟩ = [0] := by rw [textL, hz, h0]; rfl
  simp [replyL, tail0, tail1, tail2, h0, h1, h2, ht]
 rw [hl] at hr
 simp only [strongroomlaw25_lives.f]
 refine Ev.bind hr (ifpos rfl (ifpos (by omega) ?_))
 simp only [Option.bind_some]
 rw [show strOfNums (List.replicate 10 0) = mkB (List.replicate 10 0) from nums_mk (List.replicate 10 0), nums_mk, show (⟨#[2, 1, 2]⟩ : ByteArray) = mkB [2, 1, 2] from rfl, mk_app]
 refine ifpos (by rw [mk_size]; simp) ?_
 simp only [toList_data]
 exact Ev.now _
theorem lives_ev' : Ev (fun k => (strongroomlaw25_lives.f k).bind fun t => some t) true := Ev.bind lives_ev (Ev.now _)
theorem FrameReplies (a0 a1 a2 : Int) (ps : List ByteArray) (d s : ByteArray) (sg : List S65) (sp : List S74) (nn : ByteArray) (es : List S67) (u al : Int) (hw : ∀ x ∈ sg, 0 ≤ x.f0 ∧ x.f0 < 4294967296) : ∃ k, strongroomlaw25_FrameReplies.f k a0 a1 a2 ps d s sg sp nn es u al = some true := by
 suffices h : Ev (fun k => strongroomlaw25_FrameReplies.f k a0 a1 a2 ps d s sg sp nn es u al) true by
  obtain ⟨K, h⟩ := h
  exact ⟨K, h K (Nat.le_refl _)⟩
 simp only [strongroomlaw25_FrameReplies.f]
 obtain ⟨v, hv, hb⟩ := little_ev a0 a1 a2 ps d s sg sp nn es u al
 refine Ev.bind hv ?_
 cases v
 ·exact ifneg (by simp) lives_ev'
 refine ifpos rfl ?_
 obtain ⟨b1, b2, b3, b4⟩ := hb rfl
 have hf := fits_ev a0 a1 a2 ps d s sg sp nn es u al b1 b2 b3 b4
 have hr := rfits_ev a0 a1 a2 ps d s sg sp nn es u al b1 b2 b3 b4
 cases hB : fitsB a0 a1 a2 ps d s sg sp nn es u al
 ·rw [hB] at hf hr
  have hrep : Ev (fun k => frame_Reply.f k a0 a1 a2 ps d s sg sp nn es u al) ([], 1) := by
   simp only [frame_Reply.f]
   exact Ev.bind hf (ifneg (by simp) (Ev.now _))
  refine Ev.bind hrep (Ev.bind hr (Ev.bind hf ?_))
  exact ifneg (by simp) (ifneg (by simp) (ifpos rfl (ifpos rfl lives_ev')))
 ·have H := fitP_of a0 a1 a2 ps d s sg sp nn es u al hw hB
  rw [hB] at hf hr
  refine Ev.bind (reply_ev a0 a1 a2 ps d s sg sp nn es u al H hf) (Ev.bind hr (Ev.bind hf ?_))
  refine ifneg (by simp) (ifpos rfl (Ev.bind (read_ev a0 a1 a2 ps d s sg sp nn es u al H hf) (ifpos rfl (Ev.bind (rreply_ev a0 a1 a2 ps d s sg sp nn es u al H) ?_))))
  refine ifpos (by rw [nums_mk]) (ifpos rfl (Ev.bind (sames_ev a0 a1 a2 ps d s sg sp nn es u al b1 b2 b3 b4) (ifpos rfl lives_ev')))

end Go.Proofs.YtoankokkdmbjmaaDoor.Pure
