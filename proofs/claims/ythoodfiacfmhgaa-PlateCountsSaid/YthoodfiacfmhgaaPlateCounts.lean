/- PlateCounts: for every input the call returns true, and the arguments read as before. -/
import Derived.Test.YthoodfiacfmhgaaM20
import Derived.Test.YthoodfiacfmhgaaRows
namespace Go.Proofs.Ythoodfiacfmhgaa.plateCounts
open Go Go.AE Go.Proofs Go.ChangeShapes Go.RowKit
set_option maxRecDepth 100000 in
theorem lifted (os : Os) (started : os.Started) (H : Type) (enc : TypeId × Value → H) :
    ReturnsInHanded {} Try.checked os 8 .any (Rows.plateCountsSpec.pre6 enc Try.prog Try.f8 Rows.plateCountsRow.domain false) (Rows.plateCountsSpec.post enc Try.prog Try.f8 false true false false) :=
  handed (C := Try.checked) (fn := Try.f8) (tb := 4) (by kernel_rfl) started (by kernel_rfl) Try.func8
    (ChangeSpec.witness6 (enc := enc) (C := Try.checked) false ⟨#[], #[.int .i64 0, .int .i64 0, .slice none 0 0], []⟩ 8 (by kernel_rfl) (by kernel_rfl) (by kernel_rfl) (by kernel_rfl))
    rfl (fun ds h => by
      have hn : Try.f8.params.size = 3 := by kernel_rfl
      rw [hn] at h
      match ds, h with
      | [_, _, _], _ => rfl)
    (by kernel_rfl) (by kernel_rfl) (by kernel_rfl) Try.underlying4
    (Bs := [_, _, _]) (⟨inp3, inp3, inp22, rfl⟩) fun vs h => by
      obtain ⟨_, _, rfl, ⟨n, hn, rfl⟩, _, _, rfl, ⟨a, ha, rfl⟩, _, _, rfl, ⟨k, hk, rfl⟩, rfl⟩ := h
      exact plateCounts_p n a k none
theorem plateCounts_holds : Rows.PlateCountsSaid :=
  OpenClaim.holds_of_wide 8 Try.f8 rfl rfl rfl rfl rfl rfl rfl ⟨rfl, rfl, rfl, rfl, rfl⟩ rfl rfl rfl rfl rfl (by kernel_rfl) Try.func8 (by kernel_rfl)
    (of_decide_eq_true (by kernel_rfl)) (by unfold Func.isWrapper; first | (rw [if_pos (by decide +kernel)]; kernel_rfl) | (rw [if_neg (by decide +kernel)]; exact ⟨rfl, rfl⟩))
    (fun os started H enc _ => lifted os started H enc)
end Go.Proofs.Ythoodfiacfmhgaa.plateCounts
