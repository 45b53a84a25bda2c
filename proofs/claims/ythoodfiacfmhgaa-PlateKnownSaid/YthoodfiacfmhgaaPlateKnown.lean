/- PlateKnown: the call returns true. -/
import Derived.Test.YthoodfiacfmhgaaM10
import Derived.Test.YthoodfiacfmhgaaRows
namespace Go.Proofs.Ythoodfiacfmhgaa.plateKnown
open Go Go.AE Go.Proofs Go.ChangeShapes Go.RowKit
set_option maxRecDepth 100000 in
theorem lifted (os : Os) (started : os.Started) (H : Type) (enc : TypeId × Value → H) :
    ReturnsInHanded {} Try.checked os 16 .any (Rows.plateKnownSpec.pre6 enc Try.prog Try.f16 Rows.plateKnownRow.domain false) (Rows.plateKnownSpec.post enc Try.prog Try.f16 false true false false) :=
  handed (C := Try.checked) (fn := Try.f16) (tb := 4) (by kernel_rfl) started (by kernel_rfl) Try.func16
    (ChangeSpec.witness6 (enc := enc) (C := Try.checked) false ⟨#[], #[], []⟩ 8 (by kernel_rfl) (by kernel_rfl) (by kernel_rfl) (by kernel_rfl))
    rfl (fun ds h => by
      have hn : Try.f16.params.size = 0 := by kernel_rfl
      rw [hn] at h
      match ds, h with
      | [], _ => rfl)
    (by kernel_rfl) (by kernel_rfl) (by kernel_rfl) Try.underlying4
    (Bs := []) (rfl) fun vs h => by
      cases h
      exact plateKnown_p
theorem plateKnown_holds : Rows.PlateKnownSaid :=
  OpenClaim.holds_of_wide 16 Try.f16 rfl rfl rfl rfl rfl rfl rfl ⟨rfl, rfl, rfl, rfl, rfl⟩ rfl rfl rfl rfl rfl (by kernel_rfl) Try.func16 (by kernel_rfl)
    (of_decide_eq_true (by kernel_rfl)) (by unfold Func.isWrapper; first | (rw [if_pos (by decide +kernel)]; kernel_rfl) | (rw [if_neg (by decide +kernel)]; exact ⟨rfl, rfl⟩))
    (fun os started H enc _ => lifted os started H enc)
end Go.Proofs.Ythoodfiacfmhgaa.plateKnown
