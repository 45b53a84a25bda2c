/- BorderRound: for every input the call returns true, and the arguments read as before. -/
import Derived.Test.YthlolelbmhfdbaaBqorderRound
import Derived.Test.YthlolelbmhfdbaaRows
namespace Go.Proofs.Ythlolelbmhfdbaa.borderRound
open Go Go.AE Go.Proofs Go.ChangeShapes Go.RowKit
set_option maxRecDepth 100000 in
theorem lifted (os : Os) (started : os.Started) (H : Type) (enc : TypeId × Value → H) :
    ReturnsInHanded {} Try.checked os 13 .any (Rows.borderRoundSpec.pre6 enc Try.prog Try.f13 Rows.borderRoundRow.domain false) (Rows.borderRoundSpec.post enc Try.prog Try.f13 false true false false) :=
  handed (C := Try.checked) (fn := Try.f13) (tb := 4) (by kernel_rfl) started (by kernel_rfl) Try.func13
    (ChangeSpec.witness6 (enc := enc) (C := Try.checked) false ⟨#[], #[.agg #[.int .i64 0, .int .i64 0, .slice none 0 0], .int .u8 0, .int .u8 0], []⟩ 8 (by kernel_rfl) (by kernel_rfl) (by kernel_rfl) (by kernel_rfl))
    rfl (fun ds h => by
      have hn : Try.f13.params.size = 3 := by kernel_rfl
      rw [hn] at h
      match ds, h with
      | [_, _, _], _ => rfl)
    (by kernel_rfl) (by kernel_rfl) (by kernel_rfl) Try.underlying4
    (Bs := [_, _, _]) (⟨inp24, inp5, inp5, rfl⟩) fun vs h => by
      obtain ⟨_, _, rfl, ⟨s, hs, rfl⟩, _, _, rfl, ⟨a, ha, rfl⟩, _, _, rfl, ⟨b, hb, rfl⟩, rfl⟩ := h
      exact borderRound_p s none a b ha hb
theorem borderRound_holds : Rows.BorderRoundSaid :=
  OpenClaim.holds_of_wide 13 Try.f13 rfl rfl rfl rfl rfl rfl rfl ⟨rfl, rfl, rfl, rfl, rfl⟩ rfl rfl rfl rfl rfl (by kernel_rfl) Try.func13 (by kernel_rfl)
    (of_decide_eq_true (by kernel_rfl)) (by unfold Func.isWrapper; first | (rw [if_pos (by decide +kernel)]; kernel_rfl) | (rw [if_neg (by decide +kernel)]; exact ⟨rfl, rfl⟩))
    (fun os started H enc _ => lifted os started H enc)
end Go.Proofs.Ythlolelbmhfdbaa.borderRound
