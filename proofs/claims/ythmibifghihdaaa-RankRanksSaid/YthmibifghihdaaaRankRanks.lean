/- RankRanks: for every input the call returns true, and the arguments read as before. -/
import Derived.Test.YthmibifghihdaaaRqankRanks
import Derived.Test.YthmibifghihdaaaRows
namespace Go.Proofs.Ythmibifghihdaaa.rankRanks
open Go Go.AE Go.Proofs Go.ChangeShapes Go.RowKit
set_option maxRecDepth 100000 in
theorem lifted (os : Os) (started : os.Started) (H : Type) (enc : TypeId × Value → H) :
    ReturnsInHanded {} Try.checked os 6 .any (Rows.rankRanksSpec.pre6 enc Try.prog Try.f6 Rows.rankRanksRow.domain false) (Rows.rankRanksSpec.post enc Try.prog Try.f6 false true false false) :=
  handed (C := Try.checked) (fn := Try.f6) (tb := 4) (by kernel_rfl) started (by kernel_rfl) Try.func6
    (ChangeSpec.witness6 (enc := enc) (C := Try.checked) false ⟨#[], #[.agg #[.int .i64 0, .slice none 0 0], .int .i64 0], []⟩ 8 (by kernel_rfl) (by kernel_rfl) (by kernel_rfl) (by kernel_rfl))
    rfl (fun ds h => by
      have hn : Try.f6.params.size = 2 := by kernel_rfl
      rw [hn] at h
      match ds, h with
      | [_, _], _ => rfl)
    (by kernel_rfl) (by kernel_rfl) (by kernel_rfl) Try.underlying4
    (Bs := [_, _]) (⟨inp24, inp3, rfl⟩) fun vs h => by
      obtain ⟨_, _, rfl, ⟨b, hb, rfl⟩, _, _, rfl, ⟨x, hx, rfl⟩, rfl⟩ := h
      exact rankRanks_p b none x
theorem rankRanks_holds : Rows.RankRanksSaid :=
  OpenClaim.holds_of_wide 6 Try.f6 rfl rfl rfl rfl rfl rfl rfl ⟨rfl, rfl, rfl, rfl, rfl⟩ rfl rfl rfl rfl rfl (by kernel_rfl) Try.func6 (by kernel_rfl)
    (of_decide_eq_true (by kernel_rfl)) (by unfold Func.isWrapper; first | (rw [if_pos (by decide +kernel)]; kernel_rfl) | (rw [if_neg (by decide +kernel)]; exact ⟨rfl, rfl⟩))
    (fun os started H enc _ => lifted os started H enc)
end Go.Proofs.Ythmibifghihdaaa.rankRanks
