/- The plain law of FrameWraps: any text wrapped, and any text unwrapped, are the document's; there and back. -/
import Derived.Test.YtoankokkdmbjmaaDoorHFrameWrapsx5
namespace Go.Proofs.YtoankokkdmbjmaaDoor.Pure
open Go.RowKit Go.Proofs.YtoankokkdmbjmaaDoorH.HFrameWraps Go.Proofs.YtoankokkdmbjmaaDoorW.PrintWords Go.Proofs.YtoankokkdmbjmaaDoorW.PrintLast

theorem toList_mk (s : List UInt8) : (⟨s.toArray⟩ : ByteArray).toList = s := by
  rw [ByteArray.toList_eq]
theorem empty_list : (⟨#[]⟩ : ByteArray).toList = [] := toList_mk []
theorem either_nil (n : Int) : frame_either.f ⟨#[]⟩ n = some true := by
  rw [frame_either.f, if_pos empty_list]
theorem lists_nil : frame_listsFit.f 30 1 2 0 ([] : List ByteArray) (⟨#[]⟩ : ByteArray) (⟨#[]⟩ : ByteArray) ([] : List (S65)) ([] : List (S74)) (⟨#[]⟩ : ByteArray) ([] : List (S67)) 0 0 = some true := by
  decide +kernel
theorem fits_nil : frame_Fits.f 30 1 2 0 ([] : List ByteArray) (⟨#[]⟩ : ByteArray) (⟨#[]⟩ : ByteArray) ([] : List (S65)) ([] : List (S74)) (⟨#[]⟩ : ByteArray) ([] : List (S67)) 0 0 = some true := by
  rw [frame_Fits.f, lists_nil, either_nil, either_nil]
  decide +kernel
theorem reply_nil : frame_Reply.f 30 1 2 0 ([] : List ByteArray) (⟨#[]⟩ : ByteArray) (⟨#[]⟩ : ByteArray) ([] : List (S65)) ([] : List (S74)) (⟨#[]⟩ : ByteArray) ([] : List (S67)) 0 0 = some ([2, 1, 2, 0, 0, 0, 0, 0, 0, 0, 0, 0, 0], 0) := by
  rw [frame_Reply.f, fits_nil]
  decide +kernel
theorem lives_yes : strongroomlaw25_lives.f 30 = some true := by
  rw [strongroomlaw25_lives.f, reply_nil]
  have e : strOfNums [2, 1, 2, 0, 0, 0, 0, 0, 0, 0, 0, 0, 0] = (⟨#[2, 1, 2]⟩ : ByteArray) ++ strOfNums (List.replicate 10 0) := by decide +kernel
  simp only [Option.bind_some, e, beq_self_eq_true]
  decide +kernel
theorem lives_more : strongroomlaw25_lives.f 31 = some true := strongroomlaw25_lives.mono 30 true lives_yes
theorem mk_data (a : ByteArray) : (⟨a.data.toList.toArray⟩ : ByteArray) = a := by cases a; simp
theorem FrameWraps (a : ByteArray) (b c d : Int) (e : ByteArray) : ∃ k, strongroomlaw25_FrameWraps.f k a b c d e = some true := by
  refine ⟨32, ?_⟩
  have hT : strongroomlaw25_FrameWraps.j0 32 true a b c d e = some true := by
    simp only [strongroomlaw25_FrameWraps.j0, lives_more, Option.bind_some, if_true]
  rw [strongroomlaw25_FrameWraps.f]
  by_cases h1 : (a.size : Int) > 1000
  · rw [if_pos h1]; exact hT
  rw [if_neg h1]
  by_cases h2 : (e.size : Int) > 2000
  · rw [decide_eq_true h2]; exact hT
  rw [decide_eq_false h2]
  simp only [strongroomlaw25_FrameWraps.j0, frame_Wrap.f, strongroomref25_Wrap.f, frame_Unwrap.f, strongroomref25_Unwrap.f]
  rw [if_neg (by simp)]
  by_cases hk : (1 ≤ b ∧ b ≤ 8) ∧ (0 ≤ c ∧ c ≤ 1) ∧ (0 ≤ d ∧ d ≤ 4611686018427387904)
  · obtain ⟨S, hS⟩ : ∃ S, S = sealP a.data.toList (nonB c b d) frLab e.data.toList := ⟨_, rfl⟩
    have hSl : S.length = e.size + 16 := by rw [hS, sealP_length]; rfl
    have e1 : wrapF a b c d e = some (⟨S.toArray⟩, 0) := by rw [wrapF, if_pos ⟨by omega, by omega⟩, if_pos hk, ← hS]
    obtain ⟨u1, u2, e2⟩ : ∃ u1 u2, unwrapF a b c d e = some (u1, u2) := ⟨_, _, by rw [unwrapF, if_pos ⟨by omega, by omega⟩, if_pos hk]⟩
    have hz : (⟨S.toArray⟩ : ByteArray).size = S.length := by simp [ByteArray.size]
    have e3 : unwrapF a b c d ⟨S.toArray⟩ = some (e, 0) := by
      rw [unwrapF, if_pos ⟨by omega, by omega⟩, if_pos hk]
      have : unP a.data.toList (nonB c b d) S = (e.data.toList, 0) := by rw [hS]; exact open_own _ _ _ _ _
      simp only [this, mk_data]
    simp only [e1, e2, Option.bind_some, if_true, bne_self_eq_false, strongroomlaw25_FrameWraps.j1]
    rw [if_neg (by simp)]
    simp only [frame_Unwrap.f, e3, Option.bind_some, if_true, lives_yes]
  · have e1 : wrapF a b c d e = some (⟨#[]⟩, 1) := by rw [wrapF, if_pos ⟨by omega, by omega⟩, if_neg hk]
    have e2 : unwrapF a b c d e = some (⟨#[]⟩, 1) := by rw [unwrapF, if_pos ⟨by omega, by omega⟩, if_neg hk]
    simp only [e1, e2, Option.bind_some, if_true, bne_self_eq_false, strongroomlaw25_FrameWraps.j1]
    rw [if_neg (by simp), if_neg (by decide)]
    simp only [lives_yes, Option.bind_some]

end Go.Proofs.YtoankokkdmbjmaaDoor.Pure
