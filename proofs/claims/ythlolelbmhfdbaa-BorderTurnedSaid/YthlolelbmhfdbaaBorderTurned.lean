/- BorderTurned: for every input the call returns true, and the arguments read as before. -/
import Derived.Test.YthlolelbmhfdbaaBqorderTurned
import Derived.Test.YthlolelbmhfdbaaRows
namespace Go.Proofs.Ythlolelbmhfdbaa.borderTurned
open Go Go.AE Go.Proofs Go.ChangeShapes Go.RowKit
set_option maxRecDepth 100000 in
theorem lifted (os : Os) (started : os.Started) (H : Type) (enc : TypeId × Value → H) :
    ReturnsInHanded {} Try.checked os 8 .any (Rows.borderTurnedSpec.pre6 enc Try.prog Try.f8 Rows.borderTurnedRow.domain false) (Rows.borderTurnedSpec.post enc Try.prog Try.f8 false true false false) :=
  handed (C := Try.checked) (fn := Try.f8) (tb := 4) (by kernel_rfl) started (by kernel_rfl) Try.func8
    (ChangeSpec.witness6 (enc := enc) (C := Try.checked) false ⟨#[], #[.agg #[.int .i64 0, .int .i64 0, .slice none 0 0], .int .u8 0, .bool false, .bool false, .int .u8 0, .int .u8 0], []⟩ 8 (by kernel_rfl) (by kernel_rfl) (by kernel_rfl) (by kernel_rfl))
    rfl (fun ds h => by
      have hn : Try.f8.params.size = 6 := by kernel_rfl
      rw [hn] at h
      match ds, h with
      | [_, _, _, _, _, _], _ => rfl)
    (by kernel_rfl) (by kernel_rfl) (by kernel_rfl) Try.underlying4
    (Bs := [_, _, _, _, _, _]) (⟨inp24, inp5, inp4, inp4, inp5, inp5, rfl⟩) fun vs h => by
      obtain ⟨_, _, rfl, ⟨s, hs, rfl⟩, _, _, rfl, ⟨m, hm, rfl⟩, _, _, rfl, ⟨x, rfl⟩, _, _, rfl, ⟨y, rfl⟩, _, _, rfl, ⟨a, ha, rfl⟩, _, _, rfl, ⟨b, hb, rfl⟩, rfl⟩ := h
      exact borderTurned_p s none m hm x y a b ha hb
theorem borderTurned_holds : Rows.BorderTurnedSaid :=
  OpenClaim.holds_of_wide 8 Try.f8 rfl rfl rfl rfl rfl rfl rfl ⟨rfl, rfl, rfl, rfl, rfl⟩ rfl rfl rfl rfl rfl (by kernel_rfl) Try.func8 (by kernel_rfl)
    (of_decide_eq_true (by kernel_rfl)) (by unfold Func.isWrapper; first | (rw [if_pos (by decide +kernel)]; kernel_rfl) | (rw [if_neg (by decide +kernel)]; exact ⟨rfl, rfl⟩))
    (fun os started H enc _ => lifted os started H enc)
end Go.Proofs.Ythlolelbmhfdbaa.borderTurned
