/- The plain law of FrameNeeds: the right that any kind of request needs is the document's; and the bytes of the chapter's reply. -/
import Derived.Test.YtoankokkdmbjmaaDoorHFrameNeedsx5
namespace Go.Proofs.YtoankokkdmbjmaaDoor.Pure
open Go.RowKit Go.Proofs.YtoankokkdmbjmaaDoorH.HFrameNeeds Go.Proofs.YtoankokkdmbjmaaDoorW.PrintWords Go.Proofs.YtoankokkdmbjmaaDoorW.PrintLast

theorem needs_same (a : Int) : ∃ v, frame_Needs.f 30 a = some v ∧ strongroomref25_Needs.f a = some v := by
  by_cases h : 0 ≤ a ∧ a ≤ 14
  · have hc : a = 0 ∨ a = 1 ∨ a = 2 ∨ a = 3 ∨ a = 4 ∨ a = 5 ∨ a = 6 ∨ a = 7 ∨ a = 8 ∨ a = 9 ∨ a = 10 ∨ a = 11 ∨ a = 12 ∨ a = 13 ∨ a = 14 := by omega
    rcases hc with rfl | rfl | rfl | rfl | rfl | rfl | rfl | rfl | rfl | rfl | rfl | rfl | rfl | rfl | rfl <;> exact ⟨_, rfl, rfl⟩
  · refine ⟨0, ?_, ?_⟩
    · have h1 : ∀ c : Int, 0 ≤ c → c ≤ 14 → ¬ a = c := fun c h0 h1 e => h ⟨by omega, by omega⟩
      simp [frame_Needs.f, frame_Needs.j0, frame_Needs.j1, h1]
    · simp only [strongroomref25_Needs.f, Option.bind_some]
      by_cases h2 : a < 0
      · rw [if_pos h2]
      · rw [if_neg h2, if_pos (by omega)]
theorem toList_mk (s : List UInt8) : (⟨s.toArray⟩ : ByteArray).toList = s := by
  rw [ByteArray.toList_eq]
theorem empty_list : (⟨#[]⟩ : ByteArray).toList = [] := toList_mk []
theorem either_nil (n : Int) : frame_either.f ⟨#[]⟩ n = some true := by
  rw [frame_either.f, if_pos empty_list]
theorem lists_nil : frame_listsFit.f 30 1 2 0 ([] : List ByteArray) (⟨#[]⟩ : ByteArray) (⟨#[]⟩ : ByteArray) ([] : List (S65)) ([] : List (S74)) (⟨#[]⟩ : ByteArray) ([] : List (S67)) 0 0 = some true := by
  decide +kernel
theorem fits_nil : frame_Fits.f 30 1 2 0 ([] : List ByteArray) (⟨#[]⟩ : ByteArray) (⟨#[]⟩ : ByteArray) ([] : List (S65)) ([] : List (S74)) (⟨#[]⟩ : ByteArray) ([] : List (S67)) 0 0 = some true := by
  rw [frame_Fits.f, lists_nil, either_nil, either_nil]
  decide +kernel
theorem reply_nil : frame_Reply.f 30 1 2 0 ([] : List ByteArray) (⟨#[]⟩ : ByteArray) (⟨#[]⟩ : ByteArray) ([] : List (S65)) ([] : List (S74)) (⟨#[]⟩ : ByteArray) ([] : List (S67)) 0 0 = some ([2, 1, 2, 0, 0, 0, 0, 0, 0, 0, 0, 0, 0], 0) := by
  rw [frame_Reply.f, fits_nil]
  decide +kernel
theorem lives_yes : strongroomlaw25_lives.f 30 = some true := by
  rw [strongroomlaw25_lives.f, reply_nil]
  have e : strOfNums [2, 1, 2, 0, 0, 0, 0, 0, 0, 0, 0, 0, 0] = (⟨#[2, 1, 2]⟩ : ByteArray) ++ strOfNums (List.replicate 10 0) := by decide +kernel
  simp only [Option.bind_some, e, beq_self_eq_true]
  decide +kernel
theorem FrameNeeds (a : Int) : ∃ k, strongroomlaw25_FrameNeeds.f k a = some true := by
  obtain ⟨v, h1, h2⟩ := needs_same a
  refine ⟨30, ?_⟩
  simp only [strongroomlaw25_FrameNeeds.f, h1, h2, lives_yes, Option.bind_some]
  rw [if_pos trivial]

end Go.Proofs.YtoankokkdmbjmaaDoor.Pure
