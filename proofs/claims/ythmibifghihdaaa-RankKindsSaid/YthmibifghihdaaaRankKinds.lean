/- RankKinds: for every input the call returns true, and the arguments read as before. -/
import Derived.Test.YthmibifghihdaaaRqankKinds
import Derived.Test.YthmibifghihdaaaRows
namespace Go.Proofs.Ythmibifghihdaaa.rankKinds
open Go Go.AE Go.Proofs Go.ChangeShapes Go.RowKit
set_option maxRecDepth 100000 in
theorem lifted (os : Os) (started : os.Started) (H : Type) (enc : TypeId × Value → H) :
    ReturnsInHanded {} Try.checked os 5 .any (Rows.rankKindsSpec.pre6 enc Try.prog Try.f5 Rows.rankKindsRow.domain false) (Rows.rankKindsSpec.post enc Try.prog Try.f5 false true false false) :=
  handed (C := Try.checked) (fn := Try.f5) (tb := 4) (by kernel_rfl) started (by kernel_rfl) Try.func5
    (ChangeSpec.witness6 (enc := enc) (C := Try.checked) false ⟨#[], #[.agg #[.int .i64 0, .slice none 0 0], .int .i64 0, .int .i64 0], []⟩ 8 (by kernel_rfl) (by kernel_rfl) (by kernel_rfl) (by kernel_rfl))
    rfl (fun ds h => by
      have hn : Try.f5.params.size = 3 := by kernel_rfl
      rw [hn] at h
      match ds, h with
      | [_, _, _], _ => rfl)
    (by kernel_rfl) (by kernel_rfl) (by kernel_rfl) Try.underlying4
    (Bs := [_, _, _]) (⟨inp24, inp3, inp3, rfl⟩) fun vs h => by
      obtain ⟨_, _, rfl, ⟨b, hb, rfl⟩, _, _, rfl, ⟨x, hx, rfl⟩, _, _, rfl, ⟨y, hy, rfl⟩, rfl⟩ := h
      exact rankKinds_p b none x y
theorem rankKinds_holds : Rows.RankKindsSaid :=
  OpenClaim.holds_of_wide 5 Try.f5 rfl rfl rfl rfl rfl rfl rfl ⟨rfl, rfl, rfl, rfl, rfl⟩ rfl rfl rfl rfl rfl (by kernel_rfl) Try.func5 (by kernel_rfl)
    (of_decide_eq_true (by kernel_rfl)) (by unfold Func.isWrapper; first | (rw [if_pos (by decide +kernel)]; kernel_rfl) | (rw [if_neg (by decide +kernel)]; exact ⟨rfl, rfl⟩))
    (fun os started H enc _ => lifted os started H enc)
end Go.Proofs.Ythmibifghihdaaa.rankKinds
