/- BorderKnown: the call returns true. -/
import Derived.Test.YthlolelbmhfdbaaBqorderKnown
import Derived.Test.YthlolelbmhfdbaaRows
namespace Go.Proofs.Ythlolelbmhfdbaa.borderKnown
open Go Go.AE Go.Proofs Go.ChangeShapes Go.RowKit
set_option maxRecDepth 100000 in
theorem lifted (os : Os) (started : os.Started) (H : Type) (enc : TypeId × Value → H) :
    ReturnsInHanded {} Try.checked os 15 .any (Rows.borderKnownSpec.pre6 enc Try.prog Try.f15 Rows.borderKnownRow.domain false) (Rows.borderKnownSpec.post enc Try.prog Try.f15 false true false false) :=
  handed (C := Try.checked) (fn := Try.f15) (tb := 4) (by kernel_rfl) started (by kernel_rfl) Try.func15
    (ChangeSpec.witness6 (enc := enc) (C := Try.checked) false ⟨#[], #[], []⟩ 8 (by kernel_rfl) (by kernel_rfl) (by kernel_rfl) (by kernel_rfl))
    rfl (fun ds h => by
      have hn : Try.f15.params.size = 0 := by kernel_rfl
      rw [hn] at h
      match ds, h with
      | [], _ => rfl)
    (by kernel_rfl) (by kernel_rfl) (by kernel_rfl) Try.underlying4
    (Bs := []) (rfl) fun vs h => by
      cases h
      exact borderKnown_p
theorem borderKnown_holds : Rows.BorderKnownSaid :=
  OpenClaim.holds_of_wide 15 Try.f15 rfl rfl rfl rfl rfl rfl rfl ⟨rfl, rfl, rfl, rfl, rfl⟩ rfl rfl rfl rfl rfl (by kernel_rfl) Try.func15 (by kernel_rfl)
    (of_decide_eq_true (by kernel_rfl)) (by unfold Func.isWrapper; first | (rw [if_pos (by decide +kernel)]; kernel_rfl) | (rw [if_neg (by decide +kernel)]; exact ⟨rfl, rfl⟩))
    (fun os started H enc _ => lifted os started H enc)
end Go.Proofs.Ythlolelbmhfdbaa.borderKnown
