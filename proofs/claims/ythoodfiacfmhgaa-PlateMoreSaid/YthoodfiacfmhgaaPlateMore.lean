/- PlateMore: for every input the call returns true, and the arguments read as before. -/
import Derived.Test.YthoodfiacfmhgaaM14
import Derived.Test.YthoodfiacfmhgaaRows
namespace Go.Proofs.Ythoodfiacfmhgaa.plateMore
open Go Go.AE Go.Proofs Go.ChangeShapes Go.RowKit
set_option maxRecDepth 100000 in
theorem lifted (os : Os) (started : os.Started) (H : Type) (enc : TypeId × Value → H) :
    ReturnsInHanded {} Try.checked os 15 .any (Rows.plateMoreSpec.pre6 enc Try.prog Try.f15 Rows.plateMoreRow.domain false) (Rows.plateMoreSpec.post enc Try.prog Try.f15 false true false false) :=
  handed (C := Try.checked) (fn := Try.f15) (tb := 4) (by kernel_rfl) started (by kernel_rfl) Try.func15
    (ChangeSpec.witness6 (enc := enc) (C := Try.checked) false ⟨#[], #[.agg #[.int .i64 0, .slice none 0 0], .int .u8 0, .int .u8 0, .int .u8 0, .int .u8 0, .int .u8 0], []⟩ 8 (by kernel_rfl) (by kernel_rfl) (by kernel_rfl) (by kernel_rfl))
    rfl (fun ds h => by
      have hn : Try.f15.params.size = 6 := by kernel_rfl
      rw [hn] at h
      match ds, h with
      | [_, _, _, _, _, _], _ => rfl)
    (by kernel_rfl) (by kernel_rfl) (by kernel_rfl) Try.underlying4
    (Bs := [_, _, _, _, _, _]) (⟨inp24, inp5, inp5, inp5, inp5, inp5, rfl⟩) fun vs h => by
      obtain ⟨_, _, rfl, ⟨p, hp, rfl⟩, _, _, rfl, ⟨b, hb, rfl⟩, _, _, rfl, ⟨m, hm, rfl⟩, _, _, rfl, ⟨x, hx, rfl⟩, _, _, rfl, ⟨s, hs, rfl⟩, _, _, rfl, ⟨y, hy, rfl⟩, rfl⟩ := h
      exact plateMore_p p none b m x s y hb hm hx hs hy
theorem plateMore_holds : Rows.PlateMoreSaid :=
  OpenClaim.holds_of_wide 15 Try.f15 rfl rfl rfl rfl rfl rfl rfl ⟨rfl, rfl, rfl, rfl, rfl⟩ rfl rfl rfl rfl rfl (by kernel_rfl) Try.func15 (by kernel_rfl)
    (of_decide_eq_true (by kernel_rfl)) (by unfold Func.isWrapper; first | (rw [if_pos (by decide +kernel)]; kernel_rfl) | (rw [if_neg (by decide +kernel)]; exact ⟨rfl, rfl⟩))
    (fun os started H enc _ => lifted os started H enc)
end Go.Proofs.Ythoodfiacfmhgaa.plateMore
