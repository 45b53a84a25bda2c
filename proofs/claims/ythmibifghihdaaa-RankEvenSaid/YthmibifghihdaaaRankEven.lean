/- RankEven: for every input the call returns true, and the arguments read as before. -/
import Derived.Test.YthmibifghihdaaaRqankEven
import Derived.Test.YthmibifghihdaaaRows
namespace Go.Proofs.Ythmibifghihdaaa.rankEven
open Go Go.AE Go.Proofs Go.ChangeShapes Go.RowKit
set_option maxRecDepth 100000 in
theorem lifted (os : Os) (started : os.Started) (H : Type) (enc : TypeId × Value → H) :
    ReturnsInHanded {} Try.checked os 11 .any (Rows.rankEvenSpec.pre6 enc Try.prog Try.f11 Rows.rankEvenRow.domain false) (Rows.rankEvenSpec.post enc Try.prog Try.f11 false true false false) :=
  handed (C := Try.checked) (fn := Try.f11) (tb := 4) (by kernel_rfl) started (by kernel_rfl) Try.func11
    (ChangeSpec.witness6 (enc := enc) (C := Try.checked) false ⟨#[], #[.agg #[.int .i64 0, .slice none 0 0]], []⟩ 8 (by kernel_rfl) (by kernel_rfl) (by kernel_rfl) (by kernel_rfl))
    rfl (fun ds h => by
      have hn : Try.f11.params.size = 1 := by kernel_rfl
      rw [hn] at h
      match ds, h with
      | [_], _ => rfl)
    (by kernel_rfl) (by kernel_rfl) (by kernel_rfl) Try.underlying4
    (Bs := [_]) (⟨inp24, rfl⟩) fun vs h => by
      obtain ⟨_, _, rfl, ⟨b, hb, rfl⟩, rfl⟩ := h
      exact rankEven_p b none
theorem rankEven_holds : Rows.RankEvenSaid :=
  OpenClaim.holds_of_wide 11 Try.f11 rfl rfl rfl rfl rfl rfl rfl ⟨rfl, rfl, rfl, rfl, rfl⟩ rfl rfl rfl rfl rfl (by kernel_rfl) Try.func11 (by kernel_rfl)
    (of_decide_eq_true (by kernel_rfl)) (by unfold Func.isWrapper; first | (rw [if_pos (by decide +kernel)]; kernel_rfl) | (rw [if_neg (by decide +kernel)]; exact ⟨rfl, rfl⟩))
    (fun os started H enc _ => lifted os started H enc)
end Go.Proofs.Ythmibifghihdaaa.rankEven
