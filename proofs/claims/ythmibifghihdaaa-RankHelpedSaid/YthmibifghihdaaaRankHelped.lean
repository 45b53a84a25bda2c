/- RankHelped: for every input the call returns true, and the arguments read as before. -/
import Derived.Test.YthmibifghihdaaaRqankHelped
import Derived.Test.YthmibifghihdaaaRows
namespace Go.Proofs.Ythmibifghihdaaa.rankHelped
open Go Go.AE Go.Proofs Go.ChangeShapes Go.RowKit
set_option maxRecDepth 100000 in
theorem lifted (os : Os) (started : os.Started) (H : Type) (enc : TypeId × Value → H) :
    ReturnsInHanded {} Try.checked os 12 .any (Rows.rankHelpedSpec.pre6 enc Try.prog Try.f12 Rows.rankHelpedRow.domain false) (Rows.rankHelpedSpec.post enc Try.prog Try.f12 false true false false) :=
  handed (C := Try.checked) (fn := Try.f12) (tb := 4) (by kernel_rfl) started (by kernel_rfl) Try.func12
    (ChangeSpec.witness6 (enc := enc) (C := Try.checked) false ⟨#[], #[.agg #[.int .i64 0, .slice none 0 0], .int .u8 0, .int .u8 0, .int .u8 0], []⟩ 8 (by kernel_rfl) (by kernel_rfl) (by kernel_rfl) (by kernel_rfl))
    rfl (fun ds h => by
      have hn : Try.f12.params.size = 4 := by kernel_rfl
      rw [hn] at h
      match ds, h with
      | [_, _, _, _], _ => rfl)
    (by kernel_rfl) (by kernel_rfl) (by kernel_rfl) Try.underlying4
    (Bs := [_, _, _, _]) (⟨inp24, inp5, inp5, inp5, rfl⟩) fun vs h => by
      obtain ⟨_, _, rfl, ⟨b, hb, rfl⟩, _, _, rfl, ⟨x, hx, rfl⟩, _, _, rfl, ⟨y, hy, rfl⟩, _, _, rfl, ⟨z, hz, rfl⟩, rfl⟩ := h
      exact rankHelped_p b none x y z hx hy hz
theorem rankHelped_holds : Rows.RankHelpedSaid :=
  OpenClaim.holds_of_wide 12 Try.f12 rfl rfl rfl rfl rfl rfl rfl ⟨rfl, rfl, rfl, rfl, rfl⟩ rfl rfl rfl rfl rfl (by kernel_rfl) Try.func12 (by kernel_rfl)
    (of_decide_eq_true (by kernel_rfl)) (by unfold Func.isWrapper; first | (rw [if_pos (by decide +kernel)]; kernel_rfl) | (rw [if_neg (by decide +kernel)]; exact ⟨rfl, rfl⟩))
    (fun os started H enc _ => lifted os started H enc)
end Go.Proofs.Ythmibifghihdaaa.rankHelped
