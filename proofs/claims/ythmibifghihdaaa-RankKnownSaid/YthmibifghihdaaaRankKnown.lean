/- RankKnown: the call returns true. -/
import Derived.Test.YthmibifghihdaaaRqankKnown
import Derived.Test.YthmibifghihdaaaRows
namespace Go.Proofs.Ythmibifghihdaaa.rankKnown
open Go Go.AE Go.Proofs Go.ChangeShapes Go.RowKit
set_option maxRecDepth 100000 in
theorem lifted (os : Os) (started : os.Started) (H : Type) (enc : TypeId × Value → H) :
    ReturnsInHanded {} Try.checked os 17 .any (Rows.rankKnownSpec.pre6 enc Try.prog Try.f17 Rows.rankKnownRow.domain false) (Rows.rankKnownSpec.post enc Try.prog Try.f17 false true false false) :=
  handed (C := Try.checked) (fn := Try.f17) (tb := 4) (by kernel_rfl) started (by kernel_rfl) Try.func17
    (ChangeSpec.witness6 (enc := enc) (C := Try.checked) false ⟨#[], #[], []⟩ 8 (by kernel_rfl) (by kernel_rfl) (by kernel_rfl) (by kernel_rfl))
    rfl (fun ds h => by
      have hn : Try.f17.params.size = 0 := by kernel_rfl
      rw [hn] at h
      match ds, h with
      | [], _ => rfl)
    (by kernel_rfl) (by kernel_rfl) (by kernel_rfl) Try.underlying4
    (Bs := []) (rfl) fun vs h => by
      cases h
      exact rankKnown_p
theorem rankKnown_holds : Rows.RankKnownSaid :=
  OpenClaim.holds_of_wide 17 Try.f17 rfl rfl rfl rfl rfl rfl rfl ⟨rfl, rfl, rfl, rfl, rfl⟩ rfl rfl rfl rfl rfl (by kernel_rfl) Try.func17 (by kernel_rfl)
    (of_decide_eq_true (by kernel_rfl)) (by unfold Func.isWrapper; first | (rw [if_pos (by decide +kernel)]; kernel_rfl) | (rw [if_neg (by decide +kernel)]; exact ⟨rfl, rfl⟩))
    (fun os started H enc _ => lifted os started H enc)
end Go.Proofs.Ythmibifghihdaaa.rankKnown
