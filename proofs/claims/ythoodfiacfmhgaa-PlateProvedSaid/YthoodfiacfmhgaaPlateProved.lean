/- PlateProved: for every input the call returns true, and the arguments read as before. -/
import Derived.Test.YthoodfiacfmhgaaM15
import Derived.Test.YthoodfiacfmhgaaRows
namespace Go.Proofs.Ythoodfiacfmhgaa.plateProved
open Go Go.AE Go.Proofs Go.ChangeShapes Go.RowKit
set_option maxRecDepth 100000 in
theorem lifted (os : Os) (started : os.Started) (H : Type) (enc : TypeId × Value → H) :
    ReturnsInHanded {} Try.checked os 9 .any (Rows.plateProvedSpec.pre6 enc Try.prog Try.f9 Rows.plateProvedRow.domain false) (Rows.plateProvedSpec.post enc Try.prog Try.f9 false true false false) :=
  handed (C := Try.checked) (fn := Try.f9) (tb := 4) (by kernel_rfl) started (by kernel_rfl) Try.func9
    (ChangeSpec.witness6 (enc := enc) (C := Try.checked) false ⟨#[], #[.int .u8 0, .int .u8 0, .slice none 0 0, .slice none 0 0], []⟩ 8 (by kernel_rfl) (by kernel_rfl) (by kernel_rfl) (by kernel_rfl))
    rfl (fun ds h => by
      have hn : Try.f9.params.size = 4 := by kernel_rfl
      rw [hn] at h
      match ds, h with
      | [_, _, _, _], _ => rfl)
    (by kernel_rfl) (by kernel_rfl) (by kernel_rfl) Try.underlying4
    (Bs := [_, _, _, _]) (⟨inp5, inp5, inp53, inp22, rfl⟩) fun vs h => by
      obtain ⟨_, _, rfl, ⟨b, hb, rfl⟩, _, _, rfl, ⟨x, hx, rfl⟩, _, _, rfl, ⟨s, hs, rfl⟩, _, _, rfl, ⟨t, ht, rfl⟩, rfl⟩ := h
      exact plateProved_p b x s t none none hb hx hs.1
theorem plateProved_holds : Rows.PlateProvedSaid :=
  OpenClaim.holds_of_wide 9 Try.f9 rfl rfl rfl rfl rfl rfl rfl ⟨rfl, rfl, rfl, rfl, rfl⟩ rfl rfl rfl rfl rfl (by kernel_rfl) Try.func9 (by kernel_rfl)
    (of_decide_eq_true (by kernel_rfl)) (by unfold Func.isWrapper; first | (rw [if_pos (by decide +kernel)]; kernel_rfl) | (rw [if_neg (by decide +kernel)]; exact ⟨rfl, rfl⟩))
    (fun os started H enc _ => lifted os started H enc)
end Go.Proofs.Ythoodfiacfmhgaa.plateProved
