import Derived.Test.YthlolelbmhfdbaaM2
set_option linter.all false
section
namespace Go.Proofs.Ythlolelbmhfdbaa
set_option maxRecDepth 20000
open Go.AE
def isB (b : Bx) (H Z : Int) : Bool := inL 0 (H - 1) [b.fr] && (inL 1 H [b.wd] && (inL 0 (Z - 1) [b.lo] && inL (b.lo + 1) Z [b.hi]))
def chkS (s : Sk) : Int := if (!inL 1 48 [s.h] || !inL 1 24 [s.z]) = true then 3 else if (decide ((10 : Int) < s.ls.length) || s.ls.any fun l => decide ((600 : Int) < l.length)) = true then 6 else if (s.ls.any fun l => l.any fun b => !isB b s.h s.z) = true then 2 else 0
theorem inL1 {lo hi n : Int} : inL lo hi [n] = (decide (lo ≤ n) && decide (n ≤ hi)) := by simp [inL]
theorem inL1b {lo hi n : Int} (h : inL lo hi [n] = true) : lo ≤ n ∧ n ≤ hi := by rw [inL1] at h; simpa using h
theorem isB_p (s : Sk) (c : Option Nat) (b : Bx) (hh : 1 ≤ s.h ∧ s.h ≤ 48) (hz : 1 ≤ s.z ∧ s.z ≤ 24) : Pure Try.prog 69 [.agg [i64 s.h, i64 s.z, landsA s.ls c], bxA b] (.bool (isB b s.h s.z)) := by
  refine pure_of_body Try.func69 (c := body Try.f69) J (by simp [Try.ntmps69]) fun w0 Φ0 => ?_
  refine Wsr J J ?_
  refine Rv J J J (U_boxF J J J) J J ?_
  refine Rv J J J (U_boxF J J J) J J ?_
  refine Rv J J J (U_assign J) J J ?_
  refine Rt J ?_
  refine W_seq J ?_
  refine Wjoin ⟨[(4, .bool ((inL 0 (s.h - 1) [b.fr]) && ((inL 1 s.h [b.wd]) && ((inL 0 (s.z - 1) [b.lo]) && (inL (b.lo + 1) s.z [b.hi])))))], [], 0, []⟩ ?_ ?_
  · refine W_reg J ?_
    refine Rv J J J (U_fieldAddrR J) J J ?_
    refine Rv J J J (U_load1 J J J) J J ?_
    refine Rv J J J (U_sub J J (w64 (by omega) (by omega))) J J ?_
    refine Rv J J J (U_fieldAddrR J) J J ?_
    refine Rv J J J (U_load1 J J J) J J ?_
    refine Rv J J J (U_buildSliceF (by rfl) (by decide) J J J) J J ?_
    refine Rv J J J (U_call J J (within_p 0 (s.h - 1) [b.fr] (some 1) (by first | assumption | omega | (simp; done) | (simp; omega))) J) J J ?_
    refine Rv J J J (U_move J) J J ?_
    refine Rsplit (t := 12) J (fun hg1 => ?_) (fun hg1 => ?_)
    · rw [hg1]
      refine Rv J J J (U_fieldAddrR J) J J ?_
      refine Rv J J J (U_load1 J J J) J J ?_
      refine Rv J J J (U_fieldAddrR J) J J ?_
      refine Rv J J J (U_load1 J J J) J J ?_
      refine Rv J J J (U_buildSliceF (by rfl) (by decide) J J J) J J ?_
      refine Rv J J J (U_call J J (within_p 1 s.h [b.wd] (some 1) (by first | assumption | omega | (simp; done) | (simp; omega))) J) J J ?_
      refine Rv J J J (U_pick_t J J) J J ?_
      refine Rv J J J (U_move J) J J ?_
      refine Rsplit (t := 20) J (fun hg2 => ?_) (fun hg2 => ?_)
      · rw [hg2]
        refine Rv J J J (U_fieldAddrR J) J J ?_
        refine Rv J J J (U_load1 J J J) J J ?_
        refine Rv J J J (U_sub J J (w64 (by omega) (by omega))) J J ?_
        refine Rv J J J (U_fieldAddrR J) J J ?_
        refine Rv J J J (U_load1 J J J) J J ?_
        refine Rv J J J (U_buildSliceF (by rfl) (by decide) J J J) J J ?_
        refine Rv J J J (U_call J J (within_p 0 (s.z - 1) [b.lo] (some 1) (by first | assumption | omega | (simp; done) | (simp; omega))) J) J J ?_
        refine Rv J J J (U_pick_t J J) J J ?_
        refine Rv J J J (U_move J) J J ?_
        refine Rsplit (t := 29) J (fun hg3 => ?_) (fun hg3 => ?_)
        · rw [hg3]
          refine Rv J J J (U_fieldAddrR J) J J ?_
          refine Rv J J J (U_load1 J J J) J J ?_
          refine Rv J J J (U_add J J (w64 (by have := inL1b (by assumption : inL 0 (s.z - 1) [b.lo] = true); omega) (by have := inL1b (by assumption : inL 0 (s.z - 1) [b.lo] = true); omega))) J J ?_
          refine Rv J J J (U_fieldAddrR J) J J ?_
          refine Rv J J J (U_load1 J J J) J J ?_
          refine Rv J J J (U_fieldAddrR J) J J ?_
          refine Rv J J J (U_load1 J J J) J J ?_
          refine Rv J J J (U_buildSliceF (by rfl) (by decide) J J J) J J ?_
          refine Rv J J J (U_call J J (within_p (b.lo + 1) s.z [b.hi] (some 1) (by first | assumption | omega | (simp; done) | (simp; omega))) J) J J ?_
          refine Rv J J J (U_pick_t J J) J J ?_
          refine Rv J J J (U_assign J) J J ?_
          refine Re J ?_
          exact joinTo id ⟨eD J J, trivial⟩ trivial J J J J (fun _ _ => J)
        · rw [hg3]
          refine Rs J J J J J ?_
          refine Rs J J J J J ?_
          refine Rs J J J J J ?_
          refine Rs J J J J J ?_
          refine Rs J J J J J ?_
          refine Rs J J J J J ?_
          refine Rs J J J J J ?_
          refine Rs J J J J J ?_
          refine Rs J J J J J ?_
          refine Rv J J J (U_pick_f J J) J J ?_
          refine Rv J J J (U_assign J) J J ?_
          refine Re J ?_
          exact joinTo id ⟨eD J J, trivial⟩ trivial J J J J (fun _ _ => J)
      · rw [hg2]
        refine Rs J J J J J ?_
        refine Rs J J J J J ?_
        refine Rs J J J J J ?_
        refine Rs J J J J J ?_
        refine Rs J J J J J ?_
        refine Rs J J J J J ?_
        refine Rs J J J J J ?_
        refine Rv J J J (U_pick_f J J) J J ?_
        refine Rv J J J (U_move J) J J ?_
        refine Rs J J J J J ?_
        refine Rs J J J J J ?_
        refine Rs J J J J J ?_
        refine Rs J J J J J ?_
        refine Rs J J J J J ?_
        refine Rs J J J J J ?_
        refine Rs J J J J J ?_
        refine Rs J J J J J ?_
        refine Rs J J J J J ?_
        refine Rv J J J (U_pick_f J J) J J ?_
        refine Rv J J J (U_assign J) J J ?_
        refine Re J ?_
        exact joinTo id ⟨eD J J, trivial⟩ trivial J J J J (fun _ _ => J)
    · rw [hg1]
      refine Rs J J J J J ?_
      refine Rs J J J J J ?_
      refine Rs J J J J J ?_
      refine Rs J J J J J ?_
      refine Rs J J J J J ?_
      refine Rs J J J J J ?_
      refine Rv J J J (U_pick_f J J) J J ?_
      refine Rv J J J (U_move J) J J ?_
      refine Rs J J J J J ?_
      refine Rs J J J J J ?_
      refine Rs J J J J J ?_
      refine Rs J J J J J ?_
      refine Rs J J J J J ?_
      refine Rs J J J J J ?_
      refine Rs J J J J J ?_
      refine Rv J J J (U_pick_f J J) J J ?_
      refine Rv J J J (U_move J) J J ?_
      refine Rs J J J J J ?_
      refine Rs J J J J J ?_
      refine Rs J J J J J ?_
      refine Rs J J J J J ?_
      refine Rs J J J J J ?_
      refine Rs J J J J J ?_
      refine Rs J J J J J ?_
      refine Rs J J J J J ?_
      refine Rs J J J J J ?_
      refine Rv J J J (U_pick_f J J) J J ?_
      refine Rv J J J (U_assign J) J J ?_
      refine Re J ?_
      exact joinTo id ⟨eD J J, trivial⟩ trivial J J J J (fun _ _ => J)
  refine thenQ_n ?_
  refine W_ret J ?_
  exact retL (rlT J rl0) (by first | rfl | (simp only [packA]; rfl; first | done | rfl)) J
theorem odd_p (s : Sk) (c : Option Nat) (b : Bx) (hh : 1 ≤ s.h ∧ s.h ≤ 48) (hz : 1 ≤ s.z ∧ s.z ≤ 24) : Pure Try.prog 68 [bxA b, .rop [i64 s.h, i64 s.z, landsA s.ls c] 0] (.bool (!isB b s.h s.z)) := by
  refine pure_of_body Try.func68 (c := body Try.f68) J (by simp [Try.ntmps68]) fun w0 Φ0 => ?_
  refine Wsr J J ?_
  refine Rv J J J (U_boxF J J J) J J ?_
  refine Rv J J J (U_assign J) J J ?_
  refine Rt J ?_
  refine Wsr J J ?_
  refine Rv J J J (U_load3 J J J J J) J J ?_
  refine Rv J J J (U_load4 J J J J J J) J J ?_
  refine Rv J J J (U_call J J (isB_p s c b hh hz) J) J J ?_
  refine Rv J J J (U_not J) J J ?_
  refine Rv J J J (U_assign J) J J ?_
  refine Rt J ?_
  refine W_ret J ?_
  exact retL (rlT J rl0) J J
theorem many_p (l : List Bx) (c : Option Nat) : Pure Try.prog 70 [boxesA l c] (.bool (decide ((600 : Int) < ((l.length : Nat) : Int)))) := by
  refine pure_of_body Try.func70 (c := body Try.f70) J (by simp [Try.ntmps70]) fun w0 Φ0 => ?_
  refine Wsr J J ?_
  refine Rv J J J (U_assign J) J J ?_
  refine Rt J ?_
  refine Wsr J J ?_
  refine Rv J J J (U_move J) J J ?_
  refine Rv J J J (U_lenOf J len_ros) J J ?_
  refine Rv J J J (U_gtr J J) J J ?_
  refine Rv J J J (U_assign J) J J ?_
  refine Rt J ?_
  refine W_ret J ?_
  exact retL (rlT J rl0) (by first | rfl | (simp only [packA]; rfl; first | done | rfl)) J
theorem idxBox_p {f : FuncId} [FnOk Try.prog f] {ca : List AV} (hca : dataL ca) (p : Bx → Bool) (l : List Bx) (c : Option Nat) (hl : l.length ≤ 1000000) (hp : ∀ x ∈ l, Pure Try.prog f (bxA x :: ca) (.bool (p x))) : Pure Try.prog 99 [boxesA l c, .fn f [] ca] (i64 (idxI p l)) := by
  refine pure_of_body Try.func99 (c := body Try.f99) J (by simp [Try.ntmps99]) fun w0 Φ0 => ?_
  refine Wsr J J ?_
  refine Rv J J J (U_assign J) J J ?_
  refine Rt J ?_
  refine W_seq J ?_
  refine Wsr J J ?_
  refine Rv J J J (U_move J) J J ?_
  refine Rv J J J (U_lenOf J len_ros) J J ?_
  refine Rv J J J (U_move J) J J ?_
  refine Rt J ?_
  refine W_block J ?_
  refine LoopTo (T' := [(0, .ros (l.flatMap bxC) l.length c), (1, .fn f [] ca), (7, i64 ((l.length : Nat) : Int)), (8, i64 ((0 : Nat) : Int))]) (H' := []) (n := 0) J (fun mz_ qz_ => ∃ (k : Nat), k ≤ l.length ∧ (∀ j (hj : j < l.length), j < k → p l[j] = false) ∧ mz_ = l.length - k ∧ qz_ = ⟨[(0, .ros (l.flatMap bxC) l.length c), (1, .fn f [] ca), (7, i64 ((l.length : Nat) : Int)), (8, i64 ((k : Nat) : Int))], [], 0, []⟩) ⟨0, (by omega), (fun j hj h => absurd h (Nat.not_lt_zero _)), J, J⟩ id ⟨eD J J, eD J (fnD hca), eD J J, eD J J, trivial⟩ trivial J J J J (fun _ _ => J) ?_
  rintro _ _ ⟨k, hi0_0, hi0_1, rfl, rfl⟩
  refine Wsr J J ?_
  refine Rv J J J (U_lss J J) J J ?_
  refine Rt J ?_
  refine W_seq J ?_
  refine WcondP J J (fun hc0 => ?_) (fun hc0 => ?_)
  · have hck : k < l.length := by omega
    refine W_skip J ?_
    refine thenQ_n ?_
    refine W_seq J ?_
    refine W_block J ?_
    refine Wsr J J ?_
    refine Rv J J J (U_move J) J J ?_
    refine Rv J J J (U_assign J) J J ?_
    refine Rt J ?_
    refine Wsr J J ?_
    refine Rv J J J (U_move J) J J ?_
    refine Rv J J J (U_move J) J J ?_
    refine Rv J J J (U_move J) J J ?_
    have hx1 : k < l.length := by omega
    refine Rv J J J (U_indexR (j := k) J J J hx1) J J ?_
    refine Rv J J J (U_load4 J J (bxG0 hx1) (bxG1 hx1) (bxG2 hx1) (bxG3 hx1)) J J ?_
    refine Rv J J J (U_call J J (hp _ (List.getElem_mem hck)) (dataL_cons.2 ⟨J, hca⟩)) J J ?_
    refine Rt J ?_
    refine Wcond J J (fun hc1 => ?_) (fun hc1 => ?_)
    · refine Wsr J J ?_
      refine Rv J J J (U_move J) J J ?_
      refine Rv J J J (U_assign J) J J ?_
      refine Rt J ?_
      refine W_ret J ?_
      refine blkQ_r ?_
      refine thenQ_r ?_
      refine thenQ_r ?_
      refine blkQ_r ?_
      refine thenQ_r ?_
      exact retL (rlT J rl0) (by first | rfl | (simp only [packA]; rw [idx_hit hck hi0_1 hc1]; first | done | rfl) | (simp only [packA]; rw [idx_end fun j hj => hi0_1 j hj (by omega)]; first | done | rfl)) J
    · have hc1' := Bool.eq_false_iff.1 hc1
      refine W_skip J ?_
      refine blkQ_n ?_
      refine thenQ_n ?_
      refine W_reg J ?_
      refine Rv J J J (U_add J J (w64e (m := ((k + 1 : Nat) : Int)) (by omega) (by omega) (by omega))) J J ?_
      refine Rv J J J (U_move J) J J ?_
      refine Rt J ?_
      exact againTo (T' := [(0, .ros (l.flatMap bxC) l.length c), (1, .fn f [] ca), (7, i64 ((l.length : Nat) : Int)), (8, i64 (((k + 1) : Nat) : Int))]) (H' := []) (n := 0) (l.length - (k + 1)) ⟨k + 1, (by omega), (by intro j hj h; rcases Nat.lt_succ_iff_lt_or_eq.1 h with h | rfl; exact hi0_1 j hj h; simpa using hc1), J, J⟩ (by omega) id ⟨eD J J, eD J (fnD hca), eD J J, eD J J, trivial⟩ trivial J J J J (fun _ _ => J)
  · refine W_exit J ?_
    refine thenQ_x ?_
    refine thenQ_x ?_
    refine blkQ_x J ?_
    refine thenQ_n ?_
    refine Wsr J J ?_
    refine Rv J J J (U_assign J) J J ?_
    refine Rt J ?_
    refine W_ret J ?_
    exact retL (rlT J rl0) (by first | rfl | (simp only [packA]; rw [idx_hit hck hi0_1 hc1]; first | done | rfl) | (simp only [packA]; rw [idx_end fun j hj => hi0_1 j hj (by omega)]; first | done | rfl)) J
theorem anyBox_p {f : FuncId} [FnOk Try.prog f] {ca : List AV} (hca : dataL ca) (p : Bx → Bool) (l : List Bx) (c : Option Nat) (hl : l.length ≤ 1000000) (hp : ∀ x ∈ l, Pure Try.prog f (bxA x :: ca) (.bool (p x))) : Pure Try.prog 72 [boxesA l c, .fn f [] ca] (.bool (l.any p)) := by
  refine pure_of_body Try.func72 (c := body Try.f72) J (by simp [Try.ntmps72]) fun w0 Φ0 => ?_
  refine Wsr J J ?_
  refine Rv J J J (U_assign J) J J ?_
  refine Rt J ?_
  refine Wsr J J ?_
  refine Rv J J J (U_move J) J J ?_
  refine Rv J J J (U_move J) J J ?_
  refine Rv J J J (U_call J J (idxBox_p hca p l c hl hp) (dataL_cons.2 ⟨J, dataL_cons.2 ⟨fnD hca, J⟩⟩)) J J ?_
  refine Rv J J J (U_geq J J) J J ?_
  refine Rv J J J (U_assign J) J J ?_
  refine Rt J ?_
  refine W_ret J ?_
  exact retL (rlT J rl0) (by first | rfl | (simp only [packA]; rw [← idx_any]; first | done | rfl)) J
theorem idxLand_p {f : FuncId} [FnOk Try.prog f] {ca : List AV} (hca : dataL ca) (p : List Bx → Bool) (l : List (List Bx)) (c : Option Nat) (hl : l.length ≤ 1000000) (hp : ∀ x ∈ l, Pure Try.prog f (boxesL x :: ca) (.bool (p x))) : Pure Try.prog 100 [landsA l c, .fn f [] ca] (i64 (idxI p l)) := by
  refine pure_of_body Try.func100 (c := body Try.f100) J (by simp [Try.ntmps100]) fun w0 Φ0 => ?_
  refine Wsr J J ?_
  refine Rv J J J (U_assign J) J J ?_
  refine Rt J ?_
  refine W_seq J ?_
  refine Wsr J J ?_
  refine Rv J J J (U_move J) J J ?_
  refine Rv J J J (U_lenOf J len_ros) J J ?_
  refine Rv J J J (U_move J) J J ?_
  refine Rt J ?_
  refine W_block J ?_
  refine LoopTo (T' := [(0, .ros (l.map boxesL) l.length c), (1, .fn f [] ca), (7, i64 ((l.length : Nat) : Int)), (8, i64 ((0 : Nat) : Int))]) (H' := []) (n := 0) J (fun mz_ qz_ => ∃ (k : Nat), k ≤ l.length ∧ (∀ j (hj : j < l.length), j < k → p l[j] = false) ∧ mz_ = l.length - k ∧ qz_ = ⟨[(0, .ros (l.map boxesL) l.length c), (1, .fn f [] ca), (7, i64 ((l.length : Nat) : Int)), (8, i64 ((k : Nat) : Int))], [], 0, []⟩) ⟨0, (by omega), (fun j hj h => absurd h (Nat.not_lt_zero _)), J, J⟩ id ⟨eD J J, eD J (fnD hca), eD J J, eD J J, trivial⟩ trivial J J J J (fun _ _ => J) ?_
  rintro _ _ ⟨k, hi0_0, hi0_1, rfl, rfl⟩
  refine Wsr J J ?_
  refine Rv J J J (U_lss J J) J J ?_
  refine Rt J ?_
  refine W_seq J ?_
  refine WcondP J J (fun hc0 => ?_) (fun hc0 => ?_)
  · have hck : k < l.length := by omega
    refine W_skip J ?_
    refine thenQ_n ?_
    refine W_seq J ?_
    refine W_block J ?_
    refine Wsr J J ?_
    refine Rv J J J (U_move J) J J ?_
    refine Rv J J J (U_assign J) J J ?_
    refine Rt J ?_
    refine Wsr J J ?_
    refine Rv J J J (U_move J) J J ?_
    refine Rv J J J (U_move J) J J ?_
    refine Rv J J J (U_move J) J J ?_
    have hx1 : k < l.length := by omega
    refine Rv J J J (U_indexR (j := k) J J J hx1) J J ?_
    refine Rv J J J (U_load1 J J (getM hx1)) J J ?_
    refine Rv J J J (U_call J J (hp _ (List.getElem_mem hck)) (dataL_cons.2 ⟨J, hca⟩)) J J ?_
    refine Rt J ?_
    refine Wcond J J (fun hc1 => ?_) (fun hc1 => ?_)
    · refine Wsr J J ?_
      refine Rv J J J (U_move J) J J ?_
      refine Rv J J J (U_assign J) J J ?_
      refine Rt J ?_
      refine W_ret J ?_
      refine blkQ_r ?_
      refine thenQ_r ?_
      refine thenQ_r ?_
      refine blkQ_r ?_
      refine thenQ_r ?_
      exact retL (rlT J rl0) (by first | rfl | (simp only [packA]; rw [idx_hit hck hi0_1 hc1]; first | done | rfl) | (simp only [packA]; rw [idx_end fun j hj => hi0_1 j hj (by omega)]; first | done | rfl)) J
    · have hc1' := Bool.eq_false_iff.1 hc1
      refine W_skip J ?_
      refine blkQ_n ?_
      refine thenQ_n ?_
      refine W_reg J ?_
      refine Rv J J J (U_add J J (w64e (m := ((k + 1 : Nat) : Int)) (by omega) (by omega) (by omega))) J J ?_
      refine Rv J J J (U_move J) J J ?_
      refine Rt J ?_
      exact againTo (T' := [(0, .ros (l.map boxesL) l.length c), (1, .fn f [] ca), (7, i64 ((l.length : Nat) : Int)), (8, i64 (((k + 1) : Nat) : Int))]) (H' := []) (n := 0) (l.length - (k + 1)) ⟨k + 1, (by omega), (by intro j hj h; rcases Nat.lt_succ_iff_lt_or_eq.1 h with h | rfl; exact hi0_1 j hj h; simpa using hc1), J, J⟩ (by omega) id ⟨eD J J, eD J (fnD hca), eD J J, eD J J, trivial⟩ trivial J J J J (fun _ _ => J)
  · refine W_exit J ?_
    refine thenQ_x ?_
    refine thenQ_x ?_
    refine blkQ_x J ?_
    refine thenQ_n ?_
    refine Wsr J J ?_
    refine Rv J J J (U_assign J) J J ?_
    refine Rt J ?_
    refine W_ret J ?_
    exact retL (rlT J rl0) (by first | rfl | (simp only [packA]; rw [idx_hit hck hi0_1 hc1]; first | done | rfl) | (simp only [packA]; rw [idx_end fun j hj => hi0_1 j hj (by omega)]; first | done | rfl)) J
theorem anyLand_p {f : FuncId} [FnOk Try.prog f] {ca : List AV} (hca : dataL ca) (p : List Bx → Bool) (l : List (List Bx)) (c : Option Nat) (hl : l.length ≤ 1000000) (hp : ∀ x ∈ l, Pure Try.prog f (boxesL x :: ca) (.bool (p x))) : Pure Try.prog 73 [landsA l c, .fn f [] ca] (.bool (l.any p)) := by
  refine pure_of_body Try.func73 (c := body Try.f73) J (by simp [Try.ntmps73]) fun w0 Φ0 => ?_
  refine Wsr J J ?_
  refine Rv J J J (U_assign J) J J ?_
  refine Rt J ?_
  refine Wsr J J ?_
  refine Rv J J J (U_move J) J J ?_
  refine Rv J J J (U_move J) J J ?_
  refine Rv J J J (U_call J J (idxLand_p hca p l c hl hp) (dataL_cons.2 ⟨J, dataL_cons.2 ⟨fnD hca, J⟩⟩)) J J ?_
  refine Rv J J J (U_geq J J) J J ?_
  refine Rv J J J (U_assign J) J J ?_
  refine Rt J ?_
  refine W_ret J ?_
  exact retL (rlT J rl0) (by first | rfl | (simp only [packA]; rw [← idx_any]; first | done | rfl)) J
theorem stray_p (s : Sk) (c : Option Nat) (l : List Bx) (d : Option Nat) (hl : l.length ≤ 1000000) (hh : 1 ≤ s.h ∧ s.h ≤ 48) (hz : 1 ≤ s.z ∧ s.z ≤ 24) : Pure Try.prog 71 [boxesA l d, .rop [.fn 68 [] [.rop [i64 s.h, i64 s.z, landsA s.ls c] 0]] 0] (.bool (l.any fun b => !isB b s.h s.z)) := by
  refine pure_of_body Try.func71 (c := body Try.f71) J (by simp [Try.ntmps71]) fun w0 Φ0 => ?_
  refine Wsr J J ?_
  refine Rv J J J (U_assign J) J J ?_
  refine Rt J ?_
  refine Wsr J J ?_
  refine Rv J J J (U_move J) J J ?_
  refine Rv J J J (U_load1 J J J) J J ?_
  refine Rv J J J (U_call J J (anyBox_p (f := 68) (ca := [.rop [i64 s.h, i64 s.z, landsA s.ls c] 0]) J (fun b => !isB b s.h s.z) l d (by assumption) (fun x _ => odd_p s c x hh hz)) J) J J ?_
  refine Rv J J J (U_assign J) J J ?_
  refine Rt J ?_
  refine W_ret J ?_
  exact retL (rlT J rl0) J J
theorem chkS_p (s : Sk) (c : Option Nat) (hl : s.ls.length ≤ 1000000) (hbl : ∀ l ∈ s.ls, l.length ≤ 1000000) : Pure Try.prog 22 [.agg [i64 s.h, i64 s.z, landsA s.ls c]] (i64 (chkS s)) := by
  refine pure_of_body Try.func22 (c := body Try.f22) J (by simp [Try.ntmps22]) fun w0 Φ0 => ?_
  refine Wsr J J ?_
  refine Rv J J J (U_boxF J J J) J J ?_
  refine Rv J J J (U_assign J) J J ?_
  refine Rt J ?_
  refine Wsr J J ?_
  refine Rv J J J (U_makeFunc J J) J J ?_
  refine Ra J J J (U_alloc) J J J ?_
  refine Rn J J J (U_store1 J J J J) J ?_
  refine Rt J ?_
  refine WfrN 0 J J (T' := [(1, .rop [i64 s.h, i64 s.z, .ros (s.ls.map boxesL) s.ls.length c] 0), (3, .rop [.fn 68 [] [.rop [i64 s.h, i64 s.z, .ros (s.ls.map boxesL) s.ls.length c] 0]] 0)]) (H' := []) ⟨⟨_, J, J⟩, ⟨_, J, J⟩, trivial⟩ trivial ?_
  refine Wsr J J ?_
  refine Rv J J J (U_assign J) J J ?_
  refine Rt J ?_
  refine Wsr J J ?_
  refine Rv J J J (U_makeFunc J J) J J ?_
  refine Rv J J J (U_assign J) J J ?_
  refine Rt J ?_
  refine W_seq J ?_
  refine W_block J ?_
  refine W_seq J ?_
  refine Wjoin ⟨[(1, .rop [i64 s.h, i64 s.z, .ros (s.ls.map boxesL) s.ls.length c] 0), (4, .fn 70 [] []), (5, .fn 71 [] [.rop [.fn 68 [] [.rop [i64 s.h, i64 s.z, .ros (s.ls.map boxesL) s.ls.length c] 0]] 0]), (8, .bool ((!(inL 1 48 [s.h])) || (!(inL 1 24 [s.z]))))], [], 0, []⟩ ?_ ?_
  · refine W_reg J ?_
    refine Rv J J J (U_fieldAddrR J) J J ?_
    refine Rv J J J (U_load1 J J J) J J ?_
    refine Rv J J J (U_buildSliceF (by rfl) (by decide) J J J) J J ?_
    refine Rv J J J (U_call J J (within_p 1 48 [s.h] (some 1) (by first | assumption | omega | (simp; done) | (simp; omega))) J) J J ?_
    refine Rv J J J (U_not J) J J ?_
    refine Rv J J J (U_move J) J J ?_
    refine Rsplit (t := 14) J (fun hg1 => ?_) (fun hg1 => ?_)
    · rw [hg1]
      refine Rs J J J J J ?_
      refine Rs J J J J J ?_
      refine Rs J J J J J ?_
      refine Rs J J J J J ?_
      refine Rs J J J J J ?_
      refine Rv J J J (U_pick_t J J) J J ?_
      refine Rv J J J (U_assign J) J J ?_
      refine Re J ?_
      exact joinTo id ⟨eD J J, eD J J, eD J J, eD J J, trivial⟩ trivial J J J J (fun _ _ => J)
    · rw [hg1]
      refine Rv J J J (U_fieldAddrR J) J J ?_
      refine Rv J J J (U_load1 J J J) J J ?_
      refine Rv J J J (U_buildSliceF (by rfl) (by decide) J J J) J J ?_
      refine Rv J J J (U_call J J (within_p 1 24 [s.z] (some 1) (by first | assumption | omega | (simp; done) | (simp; omega))) J) J J ?_
      refine Rv J J J (U_not J) J J ?_
      refine Rv J J J (U_pick_f J J) J J ?_
      refine Rv J J J (U_assign J) J J ?_
      refine Re J ?_
      exact joinTo id ⟨eD J J, eD J J, eD J J, eD J J, trivial⟩ trivial J J J J (fun _ _ => J)
  refine thenQ_n ?_
  refine Wcond J J (fun hc0 => ?_) (fun hc0 => ?_)
  · refine Wsr J J ?_
    refine Rv J J J (U_assign J) J J ?_
    refine Rt J ?_
    refine W_ret J ?_
    refine blkQ_r ?_
    refine thenQ_r ?_
    exact retL (rlT J rl0) (by first | rfl | (simp only [packA]; rw [chkS, if_pos hc0]; first | done | rfl) | (simp only [packA]; rw [chkS, if_neg (by simpa using hc0), if_pos hc1]; first | done | rfl) | (simp only [packA]; rw [chkS, if_neg (by simpa using hc0), if_neg (by simpa using hc1), if_pos hc2]; first | done | rfl) | (simp only [packA]; rw [chkS, if_neg (by simpa using hc0), if_neg (by simpa using hc1), if_neg (by simpa using hc2)]; first | done | rfl)) J
  · have hc0' := Bool.eq_false_iff.1 hc0
    have hr : (1 ≤ s.h ∧ s.h ≤ 48) ∧ 1 ≤ s.z ∧ s.z ≤ 24 := by simp at hc0; exact ⟨inL1b hc0.1, inL1b hc0.2⟩
    obtain ⟨hh, hz⟩ := hr
    refine W_seq J ?_
    refine Wjoin ⟨[(1, .rop [i64 s.h, i64 s.z, .ros (s.ls.map boxesL) s.ls.length c] 0), (5, .fn 71 [] [.rop [.fn 68 [] [.rop [i64 s.h, i64 s.z, .ros (s.ls.map boxesL) s.ls.length c] 0]] 0]), (21, .bool ((decide (10 < ((s.ls.length : Nat) : Int))) || (s.ls.any fun l => decide ((600 : Int) < ((l.length : Nat) : Int)))))], [], 0, []⟩ ?_ ?_
    · refine W_reg J ?_
      refine Rv J J J (U_fieldAddrR J) J J ?_
      refine Rv J J J (U_load1 J J J) J J ?_
      refine Rv J J J (U_lenOf J len_ros) J J ?_
      refine Rv J J J (U_gtr J J) J J ?_
      refine Rv J J J (U_move J) J J ?_
      refine Rsplit (t := 26) J (fun hg2 => ?_) (fun hg2 => ?_)
      · rw [hg2]
        have hg2' : 10 < ((s.ls.length : Nat) : Int) := of_decide_eq_true hg2
        refine Rs J J J J J ?_
        refine Rs J J J J J ?_
        refine Rs J J J J J ?_
        refine Rs J J J J J ?_
        refine Rv J J J (U_pick_t J J) J J ?_
        refine Rv J J J (U_assign J) J J ?_
        refine Re J ?_
        exact joinTo id ⟨eD J J, eD J J, eD J J, trivial⟩ trivial J J J J (fun _ _ => J)
      · rw [hg2]
        have hg2' : ¬ (10 < ((s.ls.length : Nat) : Int)) := of_decide_eq_false hg2
        refine Rv J J J (U_fieldAddrR J) J J ?_
        refine Rv J J J (U_load1 J J J) J J ?_
        refine Rv J J J (U_move J) J J ?_
        refine Rv J J J (U_call J J (anyLand_p (f := 70) (ca := []) J (fun l => decide ((600 : Int) < ((l.length : Nat) : Int))) s.ls c (by assumption) (fun x _ => many_p x none)) J) J J ?_
        refine Rv J J J (U_pick_f J J) J J ?_
        refine Rv J J J (U_assign J) J J ?_
        refine Re J ?_
        exact joinTo id ⟨eD J J, eD J J, eD J J, trivial⟩ trivial J J J J (fun _ _ => J)
    refine thenQ_n ?_
    refine Wcond J J (fun hc1 => ?_) (fun hc1 => ?_)
    · refine Wsr J J ?_
      refine Rv J J J (U_assign J) J J ?_
      refine Rt J ?_
      refine W_ret J ?_
      refine blkQ_r ?_
      refine thenQ_r ?_
      exact retL (rlT J rl0) (by first | rfl | (simp only [packA]; rw [chkS, if_pos hc0]; first | done | rfl) | (simp only [packA]; rw [chkS, if_neg (by simpa using hc0), if_pos hc1]; first | done | rfl) | (simp only [packA]; rw [chkS, if_neg (by simpa using hc0), if_neg (by simpa using hc1), if_pos hc2]; first | done | rfl) | (simp only [packA]; rw [chkS, if_neg (by simpa using hc0), if_neg (by simpa using hc1), if_neg (by simpa using hc2)]; first | done | rfl)) J
    · have hc1' := Bool.eq_false_iff.1 hc1
      refine Wsr J J ?_
      refine Rv J J J (U_fieldAddrR J) J J ?_
      refine Rv J J J (U_load1 J J J) J J ?_
      refine Rv J J J (U_move J) J J ?_
      refine Rv J J J (U_call J J (anyLand_p (f := 71) (ca := [.rop [.fn 68 [] [.rop [i64 s.h, i64 s.z, landsA s.ls c] 0]] 0]) J (fun l => l.any fun b => !isB b s.h s.z) s.ls c (by assumption) (fun x hx => stray_p s c x none (hbl x hx) hh hz)) J) J J ?_
      refine Rv J J J (U_assign J) J J ?_
      refine Rt J ?_
      refine Wcond J J (fun hc2 => ?_) (fun hc2 => ?_)
      · refine Wsr J J ?_
        refine Rv J J J (U_assign J) J J ?_
        refine Rt J ?_
        refine W_ret J ?_
        refine blkQ_r ?_
        refine thenQ_r ?_
        exact retL (rlT J rl0) (by first | rfl | (simp only [packA]; rw [chkS, if_pos hc0]; first | done | rfl) | (simp only [packA]; rw [chkS, if_neg (by simpa using hc0), if_pos hc1]; first | done | rfl) | (simp only [packA]; rw [chkS, if_neg (by simpa using hc0), if_neg (by simpa using hc1), if_pos hc2]; first | done | rfl) | (simp only [packA]; rw [chkS, if_neg (by simpa using hc0), if_neg (by simpa using hc1), if_neg (by simpa using hc2)]; first | done | rfl)) J
      · have hc2' := Bool.eq_false_iff.1 hc2
        refine W_skip J ?_
        refine blkQ_n ?_
        refine thenQ_n ?_
        refine Wsr J J ?_
        refine Rv J J J (U_assign J) J J ?_
        refine Rt J ?_
        refine W_ret J ?_
        exact retL (rlT J rl0) (by first | rfl | (simp only [packA]; rw [chkS, if_pos hc0]; first | done | rfl) | (simp only [packA]; rw [chkS, if_neg (by simpa using hc0), if_pos hc1]; first | done | rfl) | (simp only [packA]; rw [chkS, if_neg (by simpa using hc0), if_neg (by simpa using hc1), if_pos hc2]; first | done | rfl) | (simp only [packA]; rw [chkS, if_neg (by simpa using hc0), if_neg (by simpa using hc1), if_neg (by simpa using hc2)]; first | done | rfl)) J
end Go.Proofs.Ythlolelbmhfdbaa
end

section
namespace Go.Proofs.Ythlolelbmhfdbaa
set_option maxRecDepth 20000
open Go.AE
abbrev rowsL (l : List Row) : AV := .ros (l.flatMap (rowC 48)) l.length (some l.length)
def inN (b : Bx) (H : Nat) (z h : Nat) : Bool := decide (b.lo ≤ z) && decide ((z : Int) < b.hi) && decide (((h : Int) - b.fr + H) % H < b.wd)
def inL' (l : List Bx) (H : Nat) (z h : Nat) : Bool := decide (h < H) && l.any fun b => inN b H z h
def chQ (Z H : Nat) (ls : List (List Bx)) : List (List Row) := ls.map fun l => rowsP Z (inL' l H)
structure VS (s : Sk) (H Z : Nat) : Prop where
  h : s.h = (H : Int)
  z : s.z = (Z : Int)
  h1 : 1 ≤ H ∧ H ≤ 48
  z1 : 1 ≤ Z ∧ Z ≤ 24
  ln : s.ls.length ≤ 10
  lb : ∀ l ∈ s.ls, l.length ≤ 600
  bx : ∀ l ∈ s.ls, ∀ b ∈ l, (0 ≤ b.fr ∧ b.fr < H) ∧ (1 ≤ b.wd ∧ b.wd ≤ H) ∧ 0 ≤ b.lo ∧ b.lo < b.hi ∧ b.hi ≤ Z
theorem vs_of {s : Sk} (h : chkS s = 0) : ∃ H Z, VS s H Z := by
  unfold chkS at h
  split at h
  · cases h
  · rename_i h1
    split at h
    · cases h
    · rename_i h2
      split at h
      · cases h
      · rename_i h3
        have h1' : (1 ≤ s.h ∧ s.h ≤ 48) ∧ 1 ≤ s.z ∧ s.z ≤ 24 := by simp at h1; exact ⟨inL1b h1.1, inL1b h1.2⟩
        rw [Bool.or_eq_true, not_or] at h2
        refine ⟨s.h.toNat, s.z.toNat, by omega, by omega, by omega, by omega, by have := h2.1; simp at this; omega, fun l hl => ?_, fun l hl b hb => ?_⟩
        · have h4 := List.any_eq_false.1 (Bool.eq_false_iff.2 h2.2) l hl
          simp at h4; omega
        · have h4 := List.any_eq_false.1 (Bool.eq_false_iff.2 h3) l hl
          have h5 := List.any_eq_false.1 (Bool.eq_false_iff.2 h4) b hb
          have h6 : isB b s.h s.z = true := by simpa using h5
          unfold isB at h6
          simp only [Bool.and_eq_true] at h6
          have a1 := inL1b h6.1; have a2 := inL1b h6.2.1; have a3 := inL1b h6.2.2.1; have a4 := inL1b h6.2.2.2
          omega
theorem rowsMk {n : Nat} : (List.replicate n (List.replicate 48 (AV.int .i64 0))).flatten = (rowsP n fun _ _ => false).flatMap (rowC 48) := by
  induction n with
  | zero => rfl
  | succ n ih =>
    have h : rowsP (n + 1) (fun _ _ => false) = (fun _ => (0 : Int)) :: rowsP n (fun _ _ => false) := by
      simp only [rowsP, List.range_succ_eq_map, List.map_cons, List.map_map]; rfl
    rw [h, List.flatMap_cons, ← ih, List.replicate_succ, List.flatten_cons]; rfl
theorem hit_iff {H : Nat} (h1 : 1 ≤ H) {fr : Int} (hf : 0 ≤ fr ∧ fr < H) {h k : Nat} (hk : (k : Int) < H) (hh : h < H) : (fr + k) % H = h ↔ ((h : Int) - fr + H) % H = k := by
  have a1 : (fr + k) % (H : Int) = if fr + k < H then fr + k else fr + k - H := by
    split
    · exact Int.emod_eq_of_lt (by omega) (by omega)
    · rw [← Int.sub_emod_right]; exact Int.emod_eq_of_lt (by omega) (by omega)
  have a2 : ((h : Int) - fr + H) % (H : Int) = if (h : Int) - fr < 0 then (h : Int) - fr + H else (h : Int) - fr := by
    split
    · exact Int.emod_eq_of_lt (by omega) (by omega)
    · rw [Int.add_emod_right]; exact Int.emod_eq_of_lt (by omega) (by omega)
  rw [a1, a2]
  split <;> split <;> omega
end Go.Proofs.Ythlolelbmhfdbaa
end

section
namespace Go.Proofs.Ythlolelbmhfdbaa
set_option maxRecDepth 20000
open Go.AE
def inT (l : List Bx) (H : Nat) (z h : Nat) : Bool := decide (h < H) && l.any fun b => inN b H z h
theorem inT_snoc {l : List Bx} {H i z h : Nat} (hi : i < l.length) : inT (l.take (i + 1)) H z h = (inT (l.take i) H z h || (decide (h < H) && inN l[i] H z h)) := by
  unfold inT
  rw [List.take_succ_eq_append_getElem hi, List.any_append]
  cases decide (h < H) <;> simp
def hitK (fr : Int) (H k h : Nat) : Bool := (List.range k).any fun j => decide ((fr + j) % (H : Int) = h)
theorem hitK_succ {fr : Int} {H k h : Nat} : hitK fr H (k + 1) h = (hitK fr H k h || decide ((fr + k) % (H : Int) = h)) := by
  simp [hitK, List.range_succ, List.any_append]
theorem hitK_all {fr wd : Int} {H h : Nat} (h1 : 1 ≤ H) (hf : 0 ≤ fr ∧ fr < H) (hw : 1 ≤ wd ∧ wd ≤ H) : hitK fr H wd.toNat h = (decide (h < H) && decide (((h : Int) - fr + H) % H < wd)) := by
  rw [Bool.eq_iff_iff]
  simp only [hitK, List.any_eq_true, List.mem_range, decide_eq_true_eq, Bool.and_eq_true]
  constructor
  · rintro ⟨k, hk, e⟩
    have hlt := Int.emod_lt_of_pos (fr + k) (show (0 : Int) < H by omega)
    have hh : h < H := by omega
    have := (hit_iff h1 hf (k := k) (by omega) hh).1 e
    exact ⟨hh, by omega⟩
  · rintro ⟨hh, e⟩
    have h0 := Int.emod_nonneg ((h : Int) - fr + H) (show (H : Int) ≠ 0 by omega)
    refine ⟨(((h : Int) - fr + H) % H).toNat, by omega, ?_⟩
    exact (hit_iff h1 hf (by omega) hh).2 (by rw [Int.toNat_of_nonneg h0])
theorem rowsP_congr {Z : Nat} {P Q : Nat → Nat → Bool} (h : ∀ z h, z < Z → P z h = Q z h) : rowsP Z P = rowsP Z Q := by
  unfold rowsP
  refine List.map_congr_left fun z hz => ?_
  funext y
  rw [h z y (List.mem_range.1 hz)]
theorem box_end {b : Bx} {H : Nat} {zz : Int} (hz : b.hi ≤ zz) (z h : Nat) : (decide ((z : Int) < zz) && decide (h < H) && inN b H z h) = (decide (h < H) && inN b H z h) := by
  rw [Bool.eq_iff_iff]; simp only [inN, Bool.and_eq_true, decide_eq_true_eq]; omega
theorem box_start {b : Bx} {H : Nat} (z h : Nat) : (decide ((z : Int) < b.lo) && decide (h < H) && inN b H z h) = false := by
  rw [Bool.eq_false_iff]; simp only [inN, ne_eq, Bool.and_eq_true, decide_eq_true_eq]; omega
theorem box_step {b : Bx} {H : Nat} {zz : Int} (h1 : 1 ≤ H) (hf : 0 ≤ b.fr ∧ b.fr < H) (hw : 1 ≤ b.wd ∧ b.wd ≤ H) (h2 : b.lo ≤ zz) (h3 : zz < b.hi) (z h : Nat) : ((decide ((z : Int) < zz) && decide (h < H) && inN b H z h) || (decide ((z : Int) = zz) && hitK b.fr H b.wd.toNat h)) = (decide ((z : Int) < zz + 1) && decide (h < H) && inN b H z h) := by
  rw [hitK_all h1 hf hw, Bool.eq_iff_iff]
  simp only [inN, Bool.and_eq_true, Bool.or_eq_true, decide_eq_true_eq]
  omega
theorem set_step {P2 P3 : Nat → Nat → Bool} {zz fr : Int} {H k z h : Nat} (hz0 : 0 ≤ zz) (h0 : 0 ≤ (fr + k) % (H : Int)) (e : P3 z h = (P2 z h || (decide ((z : Int) = zz) && hitK fr H k h))) : setP P3 zz.toNat ((fr + k) % (H : Int)).toNat z h = (P2 z h || (decide ((z : Int) = zz) && hitK fr H (k + 1) h)) := by
  unfold setP
  rw [e, hitK_succ]
  have e1 : (z == zz.toNat) = decide ((z : Int) = zz) := by rw [Bool.eq_iff_iff]; simp; omega
  have e2 : (h == ((fr + k) % (H : Int)).toNat) = decide ((fr + k) % (H : Int) = h) := by rw [Bool.eq_iff_iff]; simp; omega
  rw [e1, e2]
  cases P2 z h <;> cases decide ((z : Int) = zz) <;> simp
theorem newChart_p (H Z : Nat) (ls : List (List Bx)) (c : Option Nat) (hv : VS ⟨H, Z, ls⟩ H Z) : Pure Try.prog 96 [.agg [i64 (H : Nat), i64 (Z : Nat), landsA ls c]] (.rop [i64 (H : Nat), i64 (Z : Nat), landsA ls c, .ros ((chQ Z H ls).map rowsL) (chQ Z H ls).length none] 0) := by
  obtain ⟨_, _, h1, z1, hln, hlb, hbx⟩ := hv
  simp only at hln hlb hbx
  refine pure_of_body Try.func96 (c := body Try.f96) J (by simp [Try.ntmps96]) fun w0 Φ0 => ?_
  refine Wsr J J ?_
  refine Rv J J J (U_boxF J J J) J J ?_
  refine Rv J J J (U_assign J) J J ?_
  refine Rt J ?_
  refine Wsr J J ?_
  refine Rv J J J (U_load3 J J J J J) J J ?_
  refine Rv J J J (U_build J J) J J ?_
  refine Ra J J J (U_box J J) J J J ?_
  refine Rv J J J (U_assign J) J J ?_
  refine Rt J ?_
  refine W_seq J ?_
  refine Wsr J J ?_
  refine Rv J J J (U_fieldAddrR J) J J ?_
  refine Rv J J J (U_load1 J J J) J J ?_
  refine Rv J J J (U_lenOf J len_ros) J J ?_
  refine Rv J J J (U_move J) J J ?_
  refine Rt J ?_
  refine W_block J ?_
  refine WweakH (b := 0) (cs' := [i64 ((H : Nat) : Int), i64 ((Z : Nat) : Int), .ros (ls.map boxesL) ls.length c, .out 1 0 1]) J (leL_cons (le_refl _) (leL_cons (le_refl _) (leL_cons (le_refl _) (leL_cons le_nils_out (leL_refl _))))) ?_
  refine LoopTo (T' := [(1, .rop [i64 ((H : Nat) : Int), i64 ((Z : Nat) : Int), .ros (ls.map boxesL) ls.length c] 0), (3, .ptr 0 0), (15, .ros (ls.map boxesL) ls.length c), (16, i64 ((ls.length : Nat) : Int)), (17, i64 ((0 : Nat) : Int))]) (H' := [(0, some (.cells [i64 ((H : Nat) : Int), i64 ((Z : Nat) : Int), .ros (ls.map boxesL) ls.length c, .out 1 [].length 1] 110)), (1, outB ([].map rowsL) 113 [].length)]) (n := 2) J (fun mz_ qz_ => ∃ (k : Nat) (Rs : List (List Row)), k ≤ ls.length ∧ Rs = chQ Z H (ls.take k) ∧ mz_ = ls.length - k ∧ qz_ = ⟨[(1, .rop [i64 ((H : Nat) : Int), i64 ((Z : Nat) : Int), .ros (ls.map boxesL) ls.length c] 0), (3, .ptr 0 0), (15, .ros (ls.map boxesL) ls.length c), (16, i64 ((ls.length : Nat) : Int)), (17, i64 ((k : Nat) : Int))], [(0, some (.cells [i64 ((H : Nat) : Int), i64 ((Z : Nat) : Int), .ros (ls.map boxesL) ls.length c, .out 1 Rs.length 1] 110)), (1, outB (Rs.map rowsL) 113 Rs.length)], 2, []⟩) ⟨0, [], (by omega), J, J, J⟩ id ⟨eD J J, e_ J J, eD J J, eD J J, eD J J, trivial⟩ ⟨r_ J J J, rO0 J, trivial⟩ J J J J (fun _ _ => J) ?_
  rintro _ _ ⟨k, Rs, hi0_0, hi0_1, rfl, rfl⟩
  have hRl : Rs.length ≤ k := by rw [hi0_1, chQ, List.length_map, List.length_take]; omega
  refine Wsr J J ?_
  refine Rv J J J (U_lss J J) J J ?_
  refine Rt J ?_
  refine W_seq J ?_
  refine WcondP J J (fun hc0 => ?_) (fun hc0 => ?_)
  · have hck : k < ls.length := by omega
    have hbk := hlb _ (List.getElem_mem hck)
    refine W_skip J ?_
    refine thenQ_n ?_
    refine W_seq J ?_
    refine W_block J ?_
    refine Wsr J J ?_
    have hx1 : k < ls.length := by omega
    refine Rv J J J (U_indexR (j := k) J J J hx1) J J ?_
    refine Rv J J J (U_load1 J J (getM hx1)) J J ?_
    refine Rv J J J (U_assign J) J J ?_
    refine Rt J ?_
    refine Wsr J J ?_
    refine Rv J J J (U_fieldAddrR J) J J ?_
    refine Rv J J J (U_load1 J J J) J J ?_
    refine Ra J J J (U_mkL (n := Z) (cs' := (rowsP Z fun _ _ => false).flatMap (rowC 48)) J J J (by omega) rowsMk) J J J ?_
    refine Rv J J J (U_assign J) J J ?_
    refine Rt J ?_
    refine W_seq J ?_
    refine Wsr J J ?_
    refine Rv J J J (U_move J) J J ?_
    refine Rv J J J (U_lenOf J len_ros) J J ?_
    refine Rv J J J (U_move J) J J ?_
    refine Rt J ?_
    refine W_block J ?_
    refine LoopTo (T' := [(1, .rop [i64 ((H : Nat) : Int), i64 ((Z : Nat) : Int), .ros (ls.map boxesL) ls.length c] 0), (3, .ptr 0 0), (6, .slice 2 0 Z Z), (15, .ros (ls.map boxesL) ls.length c), (16, i64 ((ls.length : Nat) : Int)), (17, i64 ((k : Nat) : Int)), (24, .ros (ls[k].flatMap bxC) ls[k].length none), (25, i64 ((ls[k].length : Nat) : Int)), (26, i64 ((0 : Nat) : Int))]) (H' := [(0, some (.cells [i64 ((H : Nat) : Int), i64 ((Z : Nat) : Int), .ros (ls.map boxesL) ls.length c, .out 1 Rs.length 1] 110)), (1, outB (Rs.map rowsL) 113 Rs.length), (2, some (.cells ((rowsP Z (fun _ _ => false)).flatMap (rowC 48)) 112))]) (n := 3) J (fun mz_ qz_ => ∃ (i : Nat) (P : Nat → Nat → Bool), i ≤ ls[k].length ∧ ((∀ z h, z < Z → P z h = inT (ls[k].take i) H z h)) ∧ mz_ = ls[k].length - i ∧ qz_ = ⟨[(1, .rop [i64 ((H : Nat) : Int), i64 ((Z : Nat) : Int), .ros (ls.map boxesL) ls.length c] 0), (3, .ptr 0 0), (6, .slice 2 0 Z Z), (15, .ros (ls.map boxesL) ls.length c), (16, i64 ((ls.length : Nat) : Int)), (17, i64 ((k : Nat) : Int)), (24, .ros (ls[k].flatMap bxC) ls[k].length none), (25, i64 ((ls[k].length : Nat) : Int)), (26, i64 ((i : Nat) : Int))], [(0, some (.cells [i64 ((H : Nat) : Int), i64 ((Z : Nat) : Int), .ros (ls.map boxesL) ls.length c, .out 1 Rs.length 1] 110)), (1, outB (Rs.map rowsL) 113 Rs.length), (2, some (.cells ((rowsP Z P).flatMap (rowC 48)) 112))], 3, []⟩) ⟨0, fun _ _ => false, (by omega), (fun z h _ => by simp [inT]), J, J⟩ id ⟨eD J J, e_ J J, e_ J J, eD J J, eD J J, eD J J, eD J J, eD J J, eD J J, trivial⟩ ⟨r_ J J J, rO (mapD (fun _ => J) _) J J, rD (flatD rowC_data _) J J, trivial⟩ J J J J (fun _ _ => J) ?_
    rintro _ _ ⟨i, P, hi1_0, hi1_1, rfl, rfl⟩
    refine Wsr J J ?_
    refine Rv J J J (U_lss J J) J J ?_
    refine Rt J ?_
    refine W_seq J ?_
    refine WcondP J J (fun hc1 => ?_) (fun hc1 => ?_)
    · have hci : i < ls[k].length := by omega
      have hbb := hbx _ (List.getElem_mem hck) _ (List.getElem_mem hci)
      refine W_skip J ?_
      refine thenQ_n ?_
      refine W_seq J ?_
      refine W_block J ?_
      refine Wsr J J ?_
      have hx2 : i < ls[k].length := by omega
      refine Rv J J J (U_indexR (j := i) J J J hx2) J J ?_
      refine Rv J J J (U_load4 J J (bxG0 hx2) (bxG1 hx2) (bxG2 hx2) (bxG3 hx2)) J J ?_
      refine Ra J J J (U_alloc) J J J ?_
      refine Rn J J J (U_storeAll J J J J J J) J ?_
      refine Rt J ?_
      refine WfrN 3 J J (T' := [(1, .rop [i64 ((H : Nat) : Int), i64 ((Z : Nat) : Int), .ros (ls.map boxesL) ls.length c] 0), (3, .ptr 0 0), (6, .slice 2 0 Z Z), (8, .rop [i64 ((ls[k][i]).fr), i64 ((ls[k][i]).wd), i64 ((ls[k][i]).lo), i64 ((ls[k][i]).hi)] 0), (15, .ros (ls.map boxesL) ls.length c), (16, i64 ((ls.length : Nat) : Int)), (17, i64 ((k : Nat) : Int)), (24, .ros (ls[k].flatMap bxC) ls[k].length none), (25, i64 ((ls[k].length : Nat) : Int)), (26, i64 ((i : Nat) : Int))]) (H' := [(0, some (.cells [i64 ((H : Nat) : Int), i64 ((Z : Nat) : Int), .ros (ls.map boxesL) ls.length c, .out 1 Rs.length 1] 110)), (1, outB (Rs.map rowsL) 113 Rs.length), (2, some (.cells ((rowsP Z P).flatMap (rowC 48)) 112))]) ⟨⟨_, J, J⟩, ⟨_, J, J⟩, ⟨_, J, J⟩, ⟨_, J, J⟩, ⟨_, J, J⟩, ⟨_, J, J⟩, ⟨_, J, J⟩, ⟨_, J, J⟩, ⟨_, J, J⟩, ⟨_, J, J⟩, trivial⟩ ⟨⟨J, rF J J⟩, ⟨J, rFO (mapD (fun _ => J) _) J⟩, ⟨J, rFD (flatD rowC_data _) J⟩, trivial⟩ ?_
      refine Wsr J J ?_
      refine Rv J J J (U_fieldAddrR J) J J ?_
      refine Rv J J J (U_load1 J J J) J J ?_
      refine Rv J J J (U_assign J) J J ?_
      refine Rt J ?_
      refine W_block J ?_
      refine LoopTo (T' := [(1, .rop [i64 ((H : Nat) : Int), i64 ((Z : Nat) : Int), .ros (ls.map boxesL) ls.length c] 0), (3, .ptr 0 0), (6, .slice 2 0 Z Z), (8, .rop [i64 ((ls[k][i]).fr), i64 ((ls[k][i]).wd), i64 ((ls[k][i]).lo), i64 ((ls[k][i]).hi)] 0), (9, i64 (ls[k][i].lo)), (15, .ros (ls.map boxesL) ls.length c), (16, i64 ((ls.length : Nat) : Int)), (17, i64 ((k : Nat) : Int)), (24, .ros (ls[k].flatMap bxC) ls[k].length none), (25, i64 ((ls[k].length : Nat) : Int)), (26, i64 ((i : Nat) : Int))]) (H' := [(0, some (.cells [i64 ((H : Nat) : Int), i64 ((Z : Nat) : Int), .ros (ls.map boxesL) ls.length c, .out 1 Rs.length 1] 110)), (1, outB (Rs.map rowsL) 113 Rs.length), (2, some (.cells ((rowsP Z P).flatMap (rowC 48)) 112))]) (n := 3) J (fun mz_ qz_ => ∃ (zz : Int) (P2 : Nat → Nat → Bool), ((∀ z h, z < Z → P2 z h = (P z h || (decide ((z : Int) < zz) && decide (h < H) && inN ls[k][i] H z h)))) ∧ (0 ≤ zz ∧ zz ≤ Z ∧ ls[k][i].lo ≤ zz) ∧ mz_ = (Z : Int).toNat - zz.toNat ∧ qz_ = ⟨[(1, .rop [i64 ((H : Nat) : Int), i64 ((Z : Nat) : Int), .ros (ls.map boxesL) ls.length c] 0), (3, .ptr 0 0), (6, .slice 2 0 Z Z), (8, .rop [i64 ((ls[k][i]).fr), i64 ((ls[k][i]).wd), i64 ((ls[k][i]).lo), i64 ((ls[k][i]).hi)] 0), (9, i64 zz), (15, .ros (ls.map boxesL) ls.length c), (16, i64 ((ls.length : Nat) : Int)), (17, i64 ((k : Nat) : Int)), (24, .ros (ls[k].flatMap bxC) ls[k].length none), (25, i64 ((ls[k].length : Nat) : Int)), (26, i64 ((i : Nat) : Int))], [(0, some (.cells [i64 ((H : Nat) : Int), i64 ((Z : Nat) : Int), .ros (ls.map boxesL) ls.length c, .out 1 Rs.length 1] 110)), (1, outB (Rs.map rowsL) 113 Rs.length), (2, some (.cells ((rowsP Z P2).flatMap (rowC 48)) 112))], 3, []⟩) ⟨ls[k][i].lo, P, (fun z h _ => by rw [box_start]; simp), (by omega), J, J⟩ id ⟨eD J J, e_ J J, e_ J J, eD J J, eD J J, eD J J, eD J J, eD J J, eD J J, eD J J, eD J J, trivial⟩ ⟨r_ J J J, rO (mapD (fun _ => J) _) J J, rD (flatD rowC_data _) J J, trivial⟩ J J J J (fun _ _ => J) ?_
      rintro _ _ ⟨zz, P2, hi2_0, hi2_1, rfl, rfl⟩
      refine W_seq J ?_
      refine Wsr J J ?_
      refine Rv J J J (U_move J) J J ?_
      refine Rv J J J (U_fieldAddrR J) J J ?_
      refine Rv J J J (U_load1 J J J) J J ?_
      refine Rv J J J (U_lss J J) J J ?_
      refine Rt J ?_
      refine WcondP J J (fun hc2 => ?_) (fun hc2 => ?_)
      · refine W_skip J ?_
        refine thenQ_n ?_
        refine W_seq J ?_
        refine W_block J ?_
        refine Wsr J J ?_
        refine Rv J J J (U_fieldAddrR J) J J ?_
        refine Rv J J J (U_load1 J J J) J J ?_
        refine Rv J J J (U_move J) J J ?_
        refine Rt J ?_
        refine W_block J ?_
        refine LoopTo (T' := [(1, .rop [i64 ((H : Nat) : Int), i64 ((Z : Nat) : Int), .ros (ls.map boxesL) ls.length c] 0), (3, .ptr 0 0), (6, .slice 2 0 Z Z), (8, .rop [i64 ((ls[k][i]).fr), i64 ((ls[k][i]).wd), i64 ((ls[k][i]).lo), i64 ((ls[k][i]).hi)] 0), (9, i64 zz), (15, .ros (ls.map boxesL) ls.length c), (16, i64 ((ls.length : Nat) : Int)), (17, i64 ((k : Nat) : Int)), (24, .ros (ls[k].flatMap bxC) ls[k].length none), (25, i64 ((ls[k].length : Nat) : Int)), (26, i64 ((i : Nat) : Int)), (39, i64 ((ls[k][i]).wd)), (40, i64 ((0 : Nat) : Int))]) (H' := [(0, some (.cells [i64 ((H : Nat) : Int), i64 ((Z : Nat) : Int), .ros (ls.map boxesL) ls.length c, .out 1 Rs.length 1] 110)), (1, outB (Rs.map rowsL) 113 Rs.length), (2, some (.cells ((rowsP Z P2).flatMap (rowC 48)) 112))]) (n := 3) J (fun mz_ qz_ => ∃ (k3 : Nat) (P3 : Nat → Nat → Bool), k3 ≤ ls[k][i].wd.toNat ∧ ((∀ z h, z < Z → P3 z h = (P2 z h || (decide ((z : Int) = zz) && hitK ls[k][i].fr H k3 h)))) ∧ mz_ = ls[k][i].wd.toNat - k3 ∧ qz_ = ⟨[(1, .rop [i64 ((H : Nat) : Int), i64 ((Z : Nat) : Int), .ros (ls.map boxesL) ls.length c] 0), (3, .ptr 0 0), (6, .slice 2 0 Z Z), (8, .rop [i64 ((ls[k][i]).fr), i64 ((ls[k][i]).wd), i64 ((ls[k][i]).lo), i64 ((ls[k][i]).hi)] 0), (9, i64 zz), (15, .ros (ls.map boxesL) ls.length c), (16, i64 ((ls.length : Nat) : Int)), (17, i64 ((k : Nat) : Int)), (24, .ros (ls[k].flatMap bxC) ls[k].length none), (25, i64 ((ls[k].length : Nat) : Int)), (26, i64 ((i : Nat) : Int)), (39, i64 ((ls[k][i]).wd)), (40, i64 ((k3 : Nat) : Int))], [(0, some (.cells [i64 ((H : Nat) : Int), i64 ((Z : Nat) : Int), .ros (ls.map boxesL) ls.length c, .out 1 Rs.length 1] 110)), (1, outB (Rs.map rowsL) 113 Rs.length), (2, some (.cells ((rowsP Z P3).flatMap (rowC 48)) 112))], 3, []⟩) ⟨0, P2, (by omega), (fun z h _ => by simp [hitK]), J, J⟩ id ⟨eD J J, e_ J J, e_ J J, eD J J, eD J J, eD J J, eD J J, eD J J, eD J J, eD J J, eD J J, eD J J, eD J J, trivial⟩ ⟨r_ J J J, rO (mapD (fun _ => J) _) J J, rD (flatD rowC_data _) J J, trivial⟩ J J J J (fun _ _ => J) ?_
        rintro _ _ ⟨k3, P3, hi3_0, hi3_1, rfl, rfl⟩
        have hrl := rowsP_len (Z := Z) (P := P3)
        have hml := Int.emod_lt_of_pos (ls[k][i].fr + ((k3 : Nat) : Int)) (show (0 : Int) < ((H : Nat) : Int) by omega)
        have hmn := Int.emod_nonneg (ls[k][i].fr + ((k3 : Nat) : Int)) (show ((H : Nat) : Int) ≠ 0 by omega)
        refine Wsr J J ?_
        refine Rv J J J (U_lss J J) J J ?_
        refine Rt J ?_
        refine W_seq J ?_
        refine WcondP J J (fun hc3 => ?_) (fun hc3 => ?_)
        · refine W_skip J ?_
          refine thenQ_n ?_
          refine W_seq J ?_
          refine W_block J ?_
          refine Wsr J J ?_
          refine Rv J J J (U_move J) J J ?_
          refine Rv J J J (U_assign J) J J ?_
          refine Rt J ?_
          refine Wdraw J (by kernel_rfl) (by kernel_rfl) ?_
          refine Dv J J J (U_move J) J J ?_
          refine Dv J J J (U_move J) J J ?_
          refine Dv J J J (U_fieldAddrR J) J J ?_
          refine Dv J J J (U_load1 J J J) J J ?_
          refine Dv J J J (U_move J) J J ?_
          refine Dv J J J (U_add J J (w64 (by omega) (by omega))) J J ?_
          refine Dv J J J (U_fieldAddrR J) J J ?_
          refine Dv J J J (U_load1 J J J) J J ?_
          refine Dv J J J (U_rem (c := ((((ls[k][i]).fr) + ((k3 : Nat) : Int)) % ((H : Nat) : Int))) J J (by omega) (tmodP (by omega))) J J ?_
          have hx3 : (zz).toNat < (rowsP Z P3).length := by omega
          refine Dv J J J (U_indexS (j := (zz).toNat) J J (by omega) (by omega)) J J ?_
          have hx4 : ((((ls[k][i]).fr) + ((k3 : Nat) : Int)) % ((H : Nat) : Int)).toNat < 48 := by omega
          refine Dv J J J (U_indexA (j := ((((ls[k][i]).fr) + ((k3 : Nat) : Int)) % ((H : Nat) : Int)).toNat) J J (by omega) hx4) J J ?_
          refine Dn_ J J J (U_store (n := 1) (cs' := (rowsP Z (setP P3 ((zz).toNat) (((((ls[k][i]).fr) + ((k3 : Nat) : Int)) % ((H : Nat) : Int)).toNat))).flatMap (rowC 48)) J J J J J (rowsLt hx3 hx4) J ((rowS hx3 hx4).trans (congrArg (fun L => L.flatMap (rowC 48)) (rowsP_set hx3)))) J J ?_
          refine Dr.nil J ?_
          refine blkQ_n ?_
          refine thenQ_n ?_
          refine W_reg J ?_
          refine Rv J J J (U_add J J (w64e (m := ((k3 + 1 : Nat) : Int)) (by omega) (by omega) (by omega))) J J ?_
          refine Rv J J J (U_move J) J J ?_
          refine Rt J ?_
          exact againTo (T' := [(1, .rop [i64 ((H : Nat) : Int), i64 ((Z : Nat) : Int), .ros (ls.map boxesL) ls.length c] 0), (3, .ptr 0 0), (6, .slice 2 0 Z Z), (8, .rop [i64 ((ls[k][i]).fr), i64 ((ls[k][i]).wd), i64 ((ls[k][i]).lo), i64 ((ls[k][i]).hi)] 0), (9, i64 zz), (15, .ros (ls.map boxesL) ls.length c), (16, i64 ((ls.length : Nat) : Int)), (17, i64 ((k : Nat) : Int)), (24, .ros (ls[k].flatMap bxC) ls[k].length none), (25, i64 ((ls[k].length : Nat) : Int)), (26, i64 ((i : Nat) : Int)), (39, i64 ((ls[k][i]).wd)), (40, i64 (((k3 + 1) : Nat) : Int))]) (H' := [(0, some (.cells [i64 ((H : Nat) : Int), i64 ((Z : Nat) : Int), .ros (ls.map boxesL) ls.length c, .out 1 Rs.length 1] 110)), (1, outB (Rs.map rowsL) 113 Rs.length), (2, some (.cells ((rowsP Z (setP P3 ((zz).toNat) (((((ls[k][i]).fr) + ((k3 : Nat) : Int)) % ((H : Nat) : Int)).toNat))).flatMap (rowC 48)) 112))]) (n := 3) (ls[k][i].wd.toNat - (k3 + 1)) ⟨k3 + 1, setP P3 ((zz).toNat) (((((ls[k][i]).fr) + ((k3 : Nat) : Int)) % ((H : Nat) : Int)).toNat), (by omega), (fun z h hz => set_step (by omega) hmn (hi3_1 z h hz)), J, J⟩ (by omega) id ⟨eD J J, e_ J J, e_ J J, eD J J, eD J J, eD J J, eD J J, eD J J, eD J J, eD J J, eD J J, eD J J, eD J J, trivial⟩ ⟨r_ J J J, rO (mapD (fun _ => J) _) J J, rD (flatD rowC_data _) J J, trivial⟩ J J J J (fun _ _ => J)
        · refine W_exit J ?_
          refine thenQ_x ?_
          refine thenQ_x ?_
          refine blkQ_x J ?_
          refine blkQ_n ?_
          refine thenQ_n ?_
          refine W_reg J ?_
          refine Rv J J J (U_move J) J J ?_
          refine Rv J J J (U_add J J (w64 (by omega) (by omega))) J J ?_
          refine Rv J J J (U_assign J) J J ?_
          refine Rt J ?_
          exact againTo (T' := [(1, .rop [i64 ((H : Nat) : Int), i64 ((Z : Nat) : Int), .ros (ls.map boxesL) ls.length c] 0), (3, .ptr 0 0), (6, .slice 2 0 Z Z), (8, .rop [i64 ((ls[k][i]).fr), i64 ((ls[k][i]).wd), i64 ((ls[k][i]).lo), i64 ((ls[k][i]).hi)] 0), (9, i64 (zz + 1)), (15, .ros (ls.map boxesL) ls.length c), (16, i64 ((ls.length : Nat) : Int)), (17, i64 ((k : Nat) : Int)), (24, .ros (ls[k].flatMap bxC) ls[k].length none), (25, i64 ((ls[k].length : Nat) : Int)), (26, i64 ((i : Nat) : Int))]) (H' := [(0, some (.cells [i64 ((H : Nat) : Int), i64 ((Z : Nat) : Int), .ros (ls.map boxesL) ls.length c, .out 1 Rs.length 1] 110)), (1, outB (Rs.map rowsL) 113 Rs.length), (2, some (.cells ((rowsP Z P3).flatMap (rowC 48)) 112))]) (n := 3) ((Z : Int).toNat - (zz + 1).toNat) ⟨zz + 1, P3, (fun z h hz => by rw [hi3_1 z h hz, hi2_0 z h hz, Bool.or_assoc, show k3 = ls[k][i].wd.toNat by omega, box_step h1.1 hbb.1 hbb.2.1 (by omega) (by omega)]), (by omega), J, J⟩ (by omega) id ⟨eD J J, e_ J J, e_ J J, eD J J, eD J J, eD J J, eD J J, eD J J, eD J J, eD J J, eD J J, trivial⟩ ⟨r_ J J J, rO (mapD (fun _ => J) _) J J, rD (flatD rowC_data _) J J, trivial⟩ J J J J (fun _ _ => J)
      · refine W_exit J ?_
        refine thenQ_x ?_
        refine thenQ_x ?_
        refine blkQ_x J ?_
        refine blkQ_n ?_
        refine thenQ_n ?_
        refine W_reg J ?_
        refine Rv J J J (U_add J J (w64e (m := ((i + 1 : Nat) : Int)) (by omega) (by omega) (by omega))) J J ?_
        refine Rv J J J (U_move J) J J ?_
        refine Rt J ?_
        exact againTo (T' := [(1, .rop [i64 ((H : Nat) : Int), i64 ((Z : Nat) : Int), .ros (ls.map boxesL) ls.length c] 0), (3, .ptr 0 0), (6, .slice 2 0 Z Z), (15, .ros (ls.map boxesL) ls.length c), (16, i64 ((ls.length : Nat) : Int)), (17, i64 ((k : Nat) : Int)), (24, .ros (ls[k].flatMap bxC) ls[k].length none), (25, i64 ((ls[k].length : Nat) : Int)), (26, i64 (((i + 1) : Nat) : Int))]) (H' := [(0, some (.cells [i64 ((H : Nat) : Int), i64 ((Z : Nat) : Int), .ros (ls.map boxesL) ls.length c, .out 1 Rs.length 1] 110)), (1, outB (Rs.map rowsL) 113 Rs.length), (2, some (.cells ((rowsP Z P2).flatMap (rowC 48)) 112))]) (n := 3) (ls[k].length - (i + 1)) ⟨i + 1, P2, (by omega), (fun z h hz => by rw [hi2_0 z h hz, inT_snoc hci, hi1_1 z h hz, box_end (by omega)]), J, J⟩ (by omega) id ⟨eD J J, e_ J J, e_ J J, eD J J, eD J J, eD J J, eD J J, eD J J, eD J J, trivial⟩ ⟨r_ J J J, rO (mapD (fun _ => J) _) J J, rD (flatD rowC_data _) J J, trivial⟩ J J J J (fun _ _ => J)
    · have hrw : rowsP Z P = rowsP Z (inL' ls[k] H) := rowsP_congr fun z h hz => by rw [hi1_1 z h hz, List.take_of_length_le (by omega)]; rfl
      refine W_exit J ?_
      refine thenQ_x ?_
      refine thenQ_x ?_
      refine blkQ_x J ?_
      refine thenQ_n ?_
      refine WfrN 2 J (flatD rowC_data _) (T' := [(1, .rop [i64 ((H : Nat) : Int), i64 ((Z : Nat) : Int), .ros (ls.map boxesL) ls.length c] 0), (3, .ptr 0 0), (6, .ros ((rowsP Z P).flatMap (rowC 48)) Z (some Z)), (15, .ros (ls.map boxesL) ls.length c), (16, i64 ((ls.length : Nat) : Int)), (17, i64 ((k : Nat) : Int))]) (H' := [(0, some (.cells [i64 ((H : Nat) : Int), i64 ((Z : Nat) : Int), .ros (ls.map boxesL) ls.length c, .out 1 Rs.length 1] 110)), (1, outB (Rs.map rowsL) 113 Rs.length)]) ⟨⟨_, J, J⟩, ⟨_, J, J⟩, ⟨_, J, fr_sl (Nat.le_refl _)⟩, ⟨_, J, J⟩, ⟨_, J, J⟩, ⟨_, J, J⟩, trivial⟩ ⟨⟨J, rF J J⟩, ⟨J, rFO (mapD (fun _ => J) _) J⟩, trivial⟩ ?_
      refine W_reg J ?_
      refine Rv J J J (U_move J) J J ?_
      refine Rv J J J (U_move J) J J ?_
      refine Rv J J J (U_nilCheck J) J J ?_
      refine Rv J J J (U_fieldAddr J) J J ?_
      refine Rv J J J (U_load1 J J J) J J ?_
      refine Rv J J J (U_move J) J J ?_
      refine Rv J J J (U_buildSliceF (by rfl) (by decide) J J J) J J ?_
      refine Ra J J J (U_appO (b := 1) (m := 0) (cs' := (Rs ++ [rowsP Z P]).map rowsL) (n' := (Rs ++ [rowsP Z P]).length) J J (by simp) J (map_len1 _) J J (by omega) (by rw [List.map_append]; simp only [List.map_cons, List.map_nil, rowsL, rowsP_len]; rfl) (len1 _ _)) J J J ?_
      refine Rv J J J (U_nilCheck J) J J ?_
      refine Rv J J J (U_fieldAddr J) J J ?_
      refine Rn J J J (U_store J J J J J (Nat.le_of_ble_eq_true J) J J) J ?_
      refine Re J ?_
      refine blkQ_n ?_
      refine thenQ_n ?_
      refine W_reg J ?_
      refine Rv J J J (U_add J J (w64e (m := ((k + 1 : Nat) : Int)) (by omega) (by omega) (by omega))) J J ?_
      refine Rv J J J (U_move J) J J ?_
      refine Rt J ?_
      exact againTo (T' := [(1, .rop [i64 ((H : Nat) : Int), i64 ((Z : Nat) : Int), .ros (ls.map boxesL) ls.length c] 0), (3, .ptr 0 0), (15, .ros (ls.map boxesL) ls.length c), (16, i64 ((ls.length : Nat) : Int)), (17, i64 (((k + 1) : Nat) : Int))]) (H' := [(0, some (.cells [i64 ((H : Nat) : Int), i64 ((Z : Nat) : Int), .ros (ls.map boxesL) ls.length c, .out 1 (Rs ++ [rowsP Z P]).length 1] 110)), (1, outB ((Rs ++ [rowsP Z P]).map rowsL) 113 (Rs ++ [rowsP Z P]).length)]) (n := 2) (ls.length - (k + 1)) ⟨k + 1, Rs ++ [rowsP Z P], (by omega), (by rw [chQ, List.take_succ_eq_append_getElem hck, List.map_append, hi0_1, chQ, hrw]; rfl), J, J⟩ (by omega) (mapN [0, 3]) ⟨eD J J, e_ J J, eD J J, eD J J, eD J J, trivial⟩ ⟨r_ J J J, rO (mapD (fun _ => J) _) J J, trivial⟩ J J J J (fun _ h => absurd h (Nat.not_lt_zero _))
  · refine W_exit J ?_
    refine thenQ_x ?_
    refine thenQ_x ?_
    refine blkQ_x J ?_
    refine thenQ_n ?_
    refine Wsr J J ?_
    refine Rv J J J (U_move J) J J ?_
    refine Rv J J J (U_assign J) J J ?_
    refine Rt J ?_
    refine WfrO 1 (Rs.map rowsL) J (mapD (fun _ => J) _) (T' := [(2, .ptr 0 0)]) (H' := [(0, some (.cells [i64 ((H : Nat) : Int), i64 ((Z : Nat) : Int), .ros (ls.map boxesL) ls.length c, .ros (Rs.map rowsL) Rs.length none] 110))]) ⟨fS J J, trivial⟩ ⟨⟨J, .cells (.cons (.same J) (.cons (.same J) (.cons (.same J) (.cons .out .nil))))⟩, trivial⟩ ?_
    refine WfrN 0 J J (T' := [(2, .rop [i64 ((H : Nat) : Int), i64 ((Z : Nat) : Int), .ros (ls.map boxesL) ls.length c, .ros (Rs.map rowsL) Rs.length none] 0)]) (H' := []) ⟨⟨_, J, J⟩, trivial⟩ trivial ?_
    refine W_ret J ?_
    exact retL (rlT J rl0) (by first | rfl | (simp only [packA]; rw [hi0_1, List.take_of_length_le (by omega)]; first | done | rfl)) J
end Go.Proofs.Ythlolelbmhfdbaa
end

section
namespace Go.Proofs.Ythlolelbmhfdbaa
set_option maxRecDepth 20000
open Go.AE
theorem chQ_len {Z H : Nat} {ls : List (List Bx)} : (chQ Z H ls).length = ls.length := by simp [chQ]
theorem chQ_get {Z H : Nat} {ls : List (List Bx)} {a : Nat} (h : a < (chQ Z H ls).length) : (chQ Z H ls)[a] = rowsP Z (inL' (ls[a]'(by rw [chQ_len] at h; exact h)) H) := by simp [chQ]
theorem row_val {Z z h : Nat} {L : List Row} {P : Nat → Nat → Bool} (e : L = rowsP Z P) {hz : z < L.length} : L[z] h = if P z h = true then 1 else 0 := by
  subst e; rw [rowsP_get]
def bitQ (l : List Bx) (H z h : Nat) : Nat := if inL' l H z h = true then 1 else 0
theorem in_p (H Z : Nat) (ls : List (List Bx)) (c : Option Nat) (a z h : Nat) (ha : a < ls.length) (hz : z < Z) (hh : h < 48) : Pure Try.prog 76 [.rop [i64 (H : Nat), i64 (Z : Nat), landsA ls c, .ros ((chQ Z H ls).map rowsL) (chQ Z H ls).length none] 0, i64 (a : Nat), .agg [i64 (z : Nat), i64 (h : Nat)]] (i64 ((bitQ ls[a] H z h : Nat) : Int)) := by
  have hcl := chQ_len (Z := Z) (H := H) (ls := ls)
  have hca : a < (chQ Z H ls).length := by omega
  have hcz : (chQ Z H ls)[a].length = Z := by rw [chQ_get hca, rowsP_len]
  have hv : ((chQ Z H ls)[a][z]'(by omega)) h = ((bitQ ls[a] H z h : Nat) : Int) := by
    rw [row_val (chQ_get hca), bitQ]
    split <;> rfl
  refine pure_of_body Try.func76 (c := body Try.f76) J (by simp [Try.ntmps76]) fun w0 Φ0 => ?_
  refine Wsr J J ?_
  refine Rv J J J (U_boxF J J J) J J ?_
  refine Rv J J J (U_assign J) J J ?_
  refine Rt J ?_
  refine W_seq J ?_
  refine Wdraw J (by kernel_rfl) (by kernel_rfl) ?_
  refine Dv J J J (U_move J) J J ?_
  refine Dv J J J (U_nilCheckR J) J J ?_
  refine Dv J J J (U_fieldAddrR J) J J ?_
  refine Dv J J J (U_load1 J J J) J J ?_
  refine Dv J J J (U_move J) J J ?_
  have hx1 : a < (chQ Z H ls).length := by omega
  refine Dv J J J (U_indexR (j := a) J J J (by omega)) J J ?_
  refine Dv J J J (U_load1 J J (getM hx1)) J J ?_
  refine Dv J J J (U_fieldAddrR J) J J ?_
  refine Dv J J J (U_load1 J J J) J J ?_
  refine Dv J J J (U_fieldAddrR J) J J ?_
  refine Dv J J J (U_load1 J J J) J J ?_
  have hx2 : z < ((chQ Z H ls)[a]).length := by omega
  refine Dv J J J (U_indexR (j := z) J J J hx2) J J ?_
  have hx3 : h < 48 := by omega
  refine Dv J J J (U_indexAR (j := h) J J J hx3) J J ?_
  refine Dv J J J (U_load1 J J (rowG hx2 hx3)) J J ?_
  refine Dv J J J (U_assign J) J J ?_
  refine Dr.nil J ?_
  refine thenQ_n ?_
  refine W_ret J ?_
  exact retL (rlT J rl0) (by first | rfl | (simp only [packA]; rw [show ((chQ Z H ls)[a][z] h) = ((bitQ ls[a] H z h : Nat) : Int) from hv]; first | done | rfl)) J
theorem places_p (H Z : Nat) (ls : List (List Bx)) (c : Option Nat) : Pure Try.prog 75 [.rop [i64 (H : Nat), i64 (Z : Nat), landsA ls c, .ros ((chQ Z H ls).map rowsL) (chQ Z H ls).length none] 0] (.fn 101 [] [.rop [.rop [i64 (H : Nat), i64 (Z : Nat), landsA ls c, .ros ((chQ Z H ls).map rowsL) (chQ Z H ls).length none] 0] 0]) := by
  refine pure_of_body Try.func75 (c := body Try.f75) J (by simp [Try.ntmps75]) fun w0 Φ0 => ?_
  refine Wsr J J ?_
  refine Rv J J J (U_boxF J J J) J J ?_
  refine Rv J J J (U_assign J) J J ?_
  refine Rt J ?_
  refine Wsr J J ?_
  refine Rv J J J (U_makeFunc J J) J J ?_
  refine Rv J J J (U_assign J) J J ?_
  refine Rt J ?_
  refine W_ret J ?_
  exact retL (rlT J rl0) J J
end Go.Proofs.Ythlolelbmhfdbaa
end

section
namespace Go.Proofs.Ythlolelbmhfdbaa
set_option maxRecDepth 20000
open Go.AE
abbrev plcA (p : Nat × Nat) : AV := .agg [i64 (p.1 : Nat), i64 (p.2 : Nat)]
def plcQ (Z H : Nat) : List (Nat × Nat) := (List.range (Z * H)).map fun i => (i / H, i % H)
theorem plcQ_len {Z H : Nat} : (plcQ Z H).length = Z * H := by simp [plcQ]
theorem plc_get {Z H z h : Nat} (hz : z < Z) (hh : h < H) : ((plcQ Z H).map plcA)[z * H + h]? = some (.agg [i64 ((z : Nat) : Int), i64 ((h : Nat) : Int)]) := by
  have h1 : z * H + h < Z * H := by
    have := Nat.mul_le_mul_right H (show z + 1 ≤ Z by omega)
    rw [Nat.add_mul] at this; omega
  have e1 : (z * H + h) / H = z := by rw [Nat.add_comm, Nat.add_mul_div_right _ _ (by omega), Nat.div_eq_of_lt hh, Nat.zero_add]
  have e2 : (z * H + h) % H = h := by rw [Nat.add_comm, Nat.add_mul_mod_self_right, Nat.mod_eq_of_lt hh]
  simp [plcQ, h1, e1, e2]
theorem plc_get' {Z H z h : Nat} (hz : z < Z) (hh : h < H) : ((plcQ Z H).map plcA)[H * z + h]? = some (.agg [i64 ((z : Nat) : Int), i64 ((h : Nat) : Int)]) := by rw [Nat.mul_comm]; exact plc_get hz hh
theorem places_it (H Z : Nat) (ls : List (List Bx)) (c : Option Nat) (hH : 1 ≤ H ∧ H ≤ 48) (hZ : Z ≤ 24) : IterP Try.prog 101 [] [.rop [.rop [i64 (H : Nat), i64 (Z : Nat), landsA ls c, .ros ((chQ Z H ls).map rowsL) (chQ Z H ls).length none] 0] 0] ((plcQ Z H).map plcA) := by
  intro n m Hs He j Tr ntr ps asg bdy R
  refine mut_of_body Try.func101 (c := body Try.f101) J (Nat.le_refl _) (by simp [Try.ntmps101]) fun w0 Φ0 ρ0 => ?_
  refine Wsr J J ?_
  refine Rv J J J (U_load1 J J J) J J ?_
  refine Rv J J J (U_nilCheckR J) J J ?_
  refine Rv J J J (U_fieldAddrR J) J J ?_
  refine Rv J J J (U_fieldAddrR J) J J ?_
  refine Rv J J J (U_load1 J J J) J J ?_
  refine Rv J J J (U_move J) J J ?_
  refine Rt J ?_
  refine W_block J ?_
  refine LoopI (T' := [(0, .yld (n + 1)), (1, .rop [.rop [i64 ((H : Nat) : Int), i64 ((Z : Nat) : Int), .ros (ls.map boxesL) ls.length c, .ros ((chQ Z H ls).map rowsL) ((chQ Z H ls).length) none] 0] 0), (9, i64 ((Z : Nat) : Int)), (10, i64 ((0 : Nat) : Int))]) (H' := (lpR n Tr ntr ps asg bdy (Hs (H * 0)))) J (fun mz_ qz_ => ∃ (z : Nat), z ≤ Z ∧ H * z ≤ m ∧ mz_ = Z - z ∧ qz_ = ⟨[(0, .yld (n + 1)), (1, .rop [.rop [i64 ((H : Nat) : Int), i64 ((Z : Nat) : Int), .ros (ls.map boxesL) ls.length c, .ros ((chQ Z H ls).map rowsL) ((chQ Z H ls).length) none] 0] 0), (9, i64 ((Z : Nat) : Int)), (10, i64 ((z : Nat) : Int))], (lpR n Tr ntr ps asg bdy (Hs (H * z))), n + 2, []⟩) ⟨0, (by omega), (Nat.zero_le _), J, J⟩ ⟨(e_ J (bltR _)), (eD J J), (eD J J), (eD J J), trivial⟩ (R.sees (Nat.zero_le _)) (bleR _) ?_
  rintro _ _ ⟨z, hi0_0, hi0_1, rfl, rfl⟩
  refine Wsr J J ?_
  refine Rv J J J (U_lss J J) J J ?_
  refine Rt J ?_
  refine W_seq J ?_
  refine WcondP J J (fun hc0 => ?_) (fun hc0 => ?_)
  · refine W_skip J ?_
    refine thenQ_n ?_
    refine W_seq J ?_
    refine W_block J ?_
    refine Wsr J J ?_
    refine Rv J J J (U_move J) J J ?_
    refine Rv J J J (U_assign J) J J ?_
    refine Rt J ?_
    refine Wsr J J ?_
    refine Rv J J J (U_load1 J J J) J J ?_
    refine Rv J J J (U_nilCheckR J) J J ?_
    refine Rv J J J (U_fieldAddrR J) J J ?_
    refine Rv J J J (U_fieldAddrR J) J J ?_
    refine Rv J J J (U_load1 J J J) J J ?_
    refine Rv J J J (U_move J) J J ?_
    refine Rt J ?_
    refine W_block J ?_
    refine LoopI (T' := [(0, .yld (n + 1)), (1, .rop [.rop [i64 ((H : Nat) : Int), i64 ((Z : Nat) : Int), .ros (ls.map boxesL) ls.length c, .ros ((chQ Z H ls).map rowsL) ((chQ Z H ls).length) none] 0] 0), (3, i64 ((z : Nat) : Int)), (9, i64 ((Z : Nat) : Int)), (10, i64 ((z : Nat) : Int)), (17, i64 ((H : Nat) : Int)), (18, i64 ((0 : Nat) : Int))]) (H' := (lpR n Tr ntr ps asg bdy (Hs (H * z + 0)))) J (fun mz_ qz_ => ∃ (h : Nat), h ≤ H ∧ H * z + h ≤ m ∧ mz_ = H - h ∧ qz_ = ⟨[(0, .yld (n + 1)), (1, .rop [.rop [i64 ((H : Nat) : Int), i64 ((Z : Nat) : Int), .ros (ls.map boxesL) ls.length c, .ros ((chQ Z H ls).map rowsL) ((chQ Z H ls).length) none] 0] 0), (3, i64 ((z : Nat) : Int)), (9, i64 ((Z : Nat) : Int)), (10, i64 ((z : Nat) : Int)), (17, i64 ((H : Nat) : Int)), (18, i64 ((h : Nat) : Int))], (lpR n Tr ntr ps asg bdy (Hs (H * z + h))), n + 2, []⟩) ⟨0, (by omega), (by omega), J, J⟩ ⟨(e_ J (bltR _)), (eD J J), (eD J J), (eD J J), (eD J J), (eD J J), (eD J J), trivial⟩ (R.sees (by omega)) (bleR _) ?_
    rintro _ _ ⟨h, hi1_0, hi1_1, rfl, rfl⟩
    refine Wsr J J ?_
    refine Rv J J J (U_lss J J) J J ?_
    refine Rt J ?_
    refine W_seq J ?_
    refine WcondP J J (fun hc1 => ?_) (fun hc1 => ?_)
    · refine W_skip J ?_
      refine thenQ_n ?_
      refine W_seq J ?_
      refine W_block J ?_
      refine Wsr J J ?_
      refine Rv J J J (U_move J) J J ?_
      refine Rv J J J (U_assign J) J J ?_
      refine Rt J ?_
      refine Wsr J J ?_
      refine Rv J J J (U_move J) J J ?_
      refine Rv J J J (U_move J) J J ?_
      refine Rv J J J (U_move J) J J ?_
      refine Rv J J J (U_build J J) J J ?_
      refine RyieldI R (k := (H * z + h)) [(0, .yld (n + 1)), (1, .rop [.rop [i64 ((H : Nat) : Int), i64 ((Z : Nat) : Int), .ros (ls.map boxesL) ls.length c, .ros ((chQ Z H ls).map rowsL) ((chQ Z H ls).length) none] 0] 0), (3, i64 ((z : Nat) : Int)), (9, i64 ((Z : Nat) : Int)), (10, i64 ((z : Nat) : Int)), (17, i64 ((H : Nat) : Int)), (18, i64 ((h : Nat) : Int)), (25, .bool true)] [(0, .yld (n + 1)), (1, .rop [.rop [i64 ((H : Nat) : Int), i64 ((Z : Nat) : Int), .ros (ls.map boxesL) ls.length c, .ros ((chQ Z H ls).map rowsL) ((chQ Z H ls).length) none] 0] 0), (3, i64 ((z : Nat) : Int)), (9, i64 ((Z : Nat) : Int)), (10, i64 ((z : Nat) : Int)), (17, i64 ((H : Nat) : Int)), (18, i64 ((h : Nat) : Int)), (25, .bool false)] J J J J J J J J J (bleR _) (plc_get' (by omega) (by omega)) hi1_1 ⟨(e_ J (bltR _)), (eD J J), (eD J J), (eD J J), (eD J J), (eD J J), (eD J J), e_ J J, trivial⟩ ⟨(e_ J (bltR _)), (eD J J), (eD J J), (eD J J), (eD J J), (eD J J), (eD J J), e_ J J, trivial⟩ (fun hm_25 => ?_) (fun hm_25 hl_25 => ?_)
      · refine Rv J J J (U_not J) J J ?_
        refine Rt J ?_
        refine Wcond J J (fun h => nomatch h) (fun _ => ?_)
        refine W_skip J ?_
        refine blkQ_n ?_
        refine thenQ_n ?_
        refine W_reg J ?_
        refine Rv J J J (U_add J J (w64e (m := ((h + 1 : Nat) : Int)) (by omega) (by omega) (by omega))) J J ?_
        refine Rv J J J (U_move J) J J ?_
        refine Rt J ?_
        exact againI (T' := [(0, .yld (n + 1)), (1, .rop [.rop [i64 ((H : Nat) : Int), i64 ((Z : Nat) : Int), .ros (ls.map boxesL) ls.length c, .ros ((chQ Z H ls).map rowsL) ((chQ Z H ls).length) none] 0] 0), (3, i64 ((z : Nat) : Int)), (9, i64 ((Z : Nat) : Int)), (10, i64 ((z : Nat) : Int)), (17, i64 ((H : Nat) : Int)), (18, i64 (((h + 1) : Nat) : Int))]) (H' := (lpR n Tr ntr ps asg bdy (Hs (H * z + (h + 1))))) (H - (h + 1)) ⟨h + 1, (by omega), (by omega), J, J⟩ (by omega) ⟨(e_ J (bltR _)), (eD J J), (eD J J), (eD J J), (eD J J), (eD J J), (eD J J), trivial⟩ (R.sees (by omega)) (bleR _)
      · refine Rv J J J (U_not J) J J ?_
        refine Rt J ?_
        refine Wcond J J (fun _ => ?_) (fun h => nomatch h)
        refine W_ret J ?_
        refine blkQ_r ?_
        refine thenQ_r ?_
        refine thenQ_r ?_
        refine blkQ_r ?_
        refine blkQ_r ?_
        refine thenQ_r ?_
        refine thenQ_r ?_
        refine blkQ_r ?_
        exact retI R.seesD (by rw [if_pos hl_25]) (bleR _)
    · obtain rfl : H = h := by omega
      refine W_exit J ?_
      refine thenQ_x ?_
      refine thenQ_x ?_
      refine blkQ_x J ?_
      refine blkQ_n ?_
      refine thenQ_n ?_
      refine W_reg J ?_
      refine Rv J J J (U_add J J (w64e (m := ((z + 1 : Nat) : Int)) (by omega) (by omega) (by omega))) J J ?_
      refine Rv J J J (U_move J) J J ?_
      refine Rt J ?_
      exact againI (T' := [(0, .yld (n + 1)), (1, .rop [.rop [i64 ((H : Nat) : Int), i64 ((Z : Nat) : Int), .ros (ls.map boxesL) ls.length c, .ros ((chQ Z H ls).map rowsL) ((chQ Z H ls).length) none] 0] 0), (9, i64 ((Z : Nat) : Int)), (10, i64 (((z + 1) : Nat) : Int))]) (H' := (lpR n Tr ntr ps asg bdy (Hs (H * (z + 1))))) (Z - (z + 1)) ⟨z + 1, (by omega), (by rw [Nat.mul_add]; omega), J, J⟩ (by omega) ⟨(e_ J (bltR _)), (eD J J), (eD J J), (eD J J), trivial⟩ (R.sees (by omega)) (bleR _)
  · refine W_exit J ?_
    refine thenQ_x ?_
    refine thenQ_x ?_
    refine blkQ_x J ?_
    exact retIn (R.sees (by omega)) (by have hle := R.le; rw [List.length_map, plcQ_len] at hle; obtain rfl : z = Z := (by omega); have hcm := Nat.mul_comm z H; have hmm : m = H * z := (by omega); rw [hmm, if_neg (show ¬ H * z < ((plcQ z H).map plcA).length by rw [List.length_map, plcQ_len, Nat.mul_comm]; omega)]) (bleR _)
end Go.Proofs.Ythlolelbmhfdbaa
end

section
namespace Go.Proofs.Ythlolelbmhfdbaa
set_option maxRecDepth 20000
open Go.AE
def ofQ (ls : List (List Bx)) (H z h : Nat) (k : Nat) : List Int := ((List.range k).filter fun i => inL' (ls.getD i []) H z h).map fun (i : Nat) => (i : Int)
theorem ofQ_t {ls : List (List Bx)} {H z h k : Nat} (hk : k < ls.length) (e : inL' ls[k] H z h = true) : ofQ ls H z h (k + 1) = ofQ ls H z h k ++ [((k : Nat) : Int)] := by
  have : ls.getD k [] = ls[k] := by rw [List.getD_eq_getElem?_getD, List.getElem?_eq_getElem hk]; rfl
  rw [ofQ, List.range_succ, List.filter_append, List.map_append, List.filter_cons_of_pos (by rw [this]; exact e)]; rfl
theorem ofQ_f {ls : List (List Bx)} {H z h k : Nat} (hk : k < ls.length) (e : ¬ inL' ls[k] H z h = true) : ofQ ls H z h (k + 1) = ofQ ls H z h k := by
  have : ls.getD k [] = ls[k] := by rw [List.getD_eq_getElem?_getD, List.getElem?_eq_getElem hk]; rfl
  rw [ofQ, List.range_succ, List.filter_append, List.map_append, List.filter_cons_of_neg (by rw [this]; exact e)]; exact List.append_nil _
theorem ofQ_len {ls : List (List Bx)} {H z h k : Nat} : (ofQ ls H z h k).length ≤ k := by
  rw [ofQ, List.length_map]; exact Nat.le_trans (List.length_filter_le _ _) (by simp)
theorem inBox_p (H Z : Nat) (ls : List (List Bx)) (c : Option Nat) (b : Bx) (z h : Nat) (hH : 1 ≤ H ∧ H ≤ 48) (hf : 0 ≤ b.fr ∧ b.fr < H) (hh : h < H) : Pure Try.prog 90 [.rop [i64 (H : Nat), i64 (Z : Nat), landsA ls c, .ros ((chQ Z H ls).map rowsL) (chQ Z H ls).length none] 0, bxA b, .agg [i64 (z : Nat), i64 (h : Nat)]] (.bool (inN b H z h)) := by
  refine pure_of_body Try.func90 (c := body Try.f90) J (by simp [Try.ntmps90]) fun w0 Φ0 => ?_
  refine Wsr J J ?_
  refine Rv J J J (U_boxF J J J) J J ?_
  refine Rv J J J (U_boxF J J J) J J ?_
  refine Rv J J J (U_assign J) J J ?_
  refine Rt J ?_
  refine W_seq J ?_
  refine Wjoin ⟨[(6, .bool ((decide ((((((h : Nat) : Int) - b.fr) + ((H : Nat) : Int)) % ((H : Nat) : Int)) < b.wd)) && ((decide (b.lo ≤ ((z : Nat) : Int))) && (decide (((z : Nat) : Int) < b.hi)))))], [], 0, []⟩ ?_ ?_
  · refine Wdraw J (by kernel_rfl) (by kernel_rfl) ?_
    refine Dv J J J (U_fieldAddrR J) J J ?_
    refine Dv J J J (U_load1 J J J) J J ?_
    refine Dv J J J (U_fieldAddrR J) J J ?_
    refine Dv J J J (U_load1 J J J) J J ?_
    refine Dv J J J (U_sub J J (w64 (by omega) (by omega))) J J ?_
    refine Dv J J J (U_move J) J J ?_
    refine Dv J J J (U_nilCheckR J) J J ?_
    refine Dv J J J (U_fieldAddrR J) J J ?_
    refine Dv J J J (U_fieldAddrR J) J J ?_
    refine Dv J J J (U_load1 J J J) J J ?_
    refine Dv J J J (U_add J J (w64 (by omega) (by omega))) J J ?_
    refine Dv J J J (U_move J) J J ?_
    refine Dv J J J (U_nilCheckR J) J J ?_
    refine Dv J J J (U_fieldAddrR J) J J ?_
    refine Dv J J J (U_fieldAddrR J) J J ?_
    refine Dv J J J (U_load1 J J J) J J ?_
    refine Dv J J J (U_rem (c := (((((h : Nat) : Int) - b.fr) + ((H : Nat) : Int)) % ((H : Nat) : Int))) J J (by omega) (tmodP (by omega))) J J ?_
    refine Dv J J J (U_fieldAddrR J) J J ?_
    refine Dv J J J (U_load1 J J J) J J ?_
    refine Dv J J J (U_lss J J) J J ?_
    refine Dv J J J (U_move J) J J ?_
    refine Dsplit (t := 27) J (fun hg1 => ?_) (fun hg1 => ?_)
    · rw [hg1]
      have hg1' : (((((h : Nat) : Int) - b.fr) + ((H : Nat) : Int)) % ((H : Nat) : Int)) < b.wd := of_decide_eq_true hg1
      refine Dv J J J (U_fieldAddrR J) J J ?_
      refine Dv J J J (U_load1 J J J) J J ?_
      refine Dv J J J (U_fieldAddrR J) J J ?_
      refine Dv J J J (U_load1 J J J) J J ?_
      refine Dv J J J (U_geq J J) J J ?_
      refine Dv J J J (U_pick_t J J) J J ?_
      refine Dv J J J (U_move J) J J ?_
      refine Dsplit (t := 34) J (fun hg2 => ?_) (fun hg2 => ?_)
      · rw [hg2]
        have hg2' : b.lo ≤ ((z : Nat) : Int) := of_decide_eq_true hg2
        refine Dv J J J (U_fieldAddrR J) J J ?_
        refine Dv J J J (U_load1 J J J) J J ?_
        refine Dv J J J (U_fieldAddrR J) J J ?_
        refine Dv J J J (U_load1 J J J) J J ?_
        refine Dv J J J (U_lss J J) J J ?_
        refine Dv J J J (U_pick_t J J) J J ?_
        refine Dv J J J (U_assign J) J J ?_
        refine Dr.nil J ?_
        exact joinTo id ⟨eD J J, trivial⟩ trivial J J J J (fun _ _ => J)
      · rw [hg2]
        have hg2' : ¬ (b.lo ≤ ((z : Nat) : Int)) := of_decide_eq_false hg2
        refine Ds J J J J J ?_
        refine Ds J J J J J ?_
        refine Ds J J J J J ?_
        refine Ds J J J J J ?_
        refine Ds J J J J J ?_
        refine Dv J J J (U_pick_f J J) J J ?_
        refine Dv J J J (U_assign J) J J ?_
        refine Dr.nil J ?_
        exact joinTo id ⟨eD J J, trivial⟩ trivial J J J J (fun _ _ => J)
    · rw [hg1]
      have hg1' : ¬ ((((((h : Nat) : Int) - b.fr) + ((H : Nat) : Int)) % ((H : Nat) : Int)) < b.wd) := of_decide_eq_false hg1
      refine Ds J J J J J ?_
      refine Ds J J J J J ?_
      refine Ds J J J J J ?_
      refine Ds J J J J J ?_
      refine Ds J J J J J ?_
      refine Dv J J J (U_pick_f J J) J J ?_
      refine Dv J J J (U_move J) J J ?_
      refine Ds J J J J J ?_
      refine Ds J J J J J ?_
      refine Ds J J J J J ?_
      refine Ds J J J J J ?_
      refine Ds J J J J J ?_
      refine Dv J J J (U_pick_f J J) J J ?_
      refine Dv J J J (U_assign J) J J ?_
      refine Dr.nil J ?_
      exact joinTo id ⟨eD J J, trivial⟩ trivial J J J J (fun _ _ => J)
  refine thenQ_n ?_
  refine W_ret J ?_
  exact retL (rlT J rl0) (by first | rfl | (simp only [packA]; congr 1; rw [Bool.eq_iff_iff]; simp only [inN, Bool.and_eq_true, decide_eq_true_eq]; omega; first | done | rfl)) J
theorem of_p (H Z : Nat) (ls : List (List Bx)) (c : Option Nat) (z h : Nat) (hn : ls.length ≤ 10) (hz : z < Z) (hh : h < 48) : Pure Try.prog 65 [.rop [i64 (H : Nat), i64 (Z : Nat), landsA ls c, .ros ((chQ Z H ls).map rowsL) (chQ Z H ls).length none] 0, .agg [i64 (z : Nat), i64 (h : Nat)]] (intsA (ofQ ls H z h ls.length) none) := by
  have hcl := chQ_len (Z := Z) (H := H) (ls := ls)
  refine pure_of_body Try.func65 (c := body Try.f65) J (by simp [Try.ntmps65]) fun w0 Φ0 => ?_
  refine Wsr J J ?_
  refine Rv J J J (U_boxF J J J) J J ?_
  refine Rv J J J (U_assign J) J J ?_
  refine Rt J ?_
  refine Wsr J J ?_
  refine Rv J J J (U_assign J) J J ?_
  refine Rt J ?_
  refine Wsr J J ?_
  refine Rv J J J (U_move J) J J ?_
  refine Rv J J J (U_makeFunc J J) J J ?_
  refine Rv J J J (U_assign J) J J ?_
  refine Rt J ?_
  refine W_seq J ?_
  refine Wsr J J ?_
  refine Rv J J J (U_move J) J J ?_
  refine Rv J J J (U_nilCheckR J) J J ?_
  refine Rv J J J (U_fieldAddrR J) J J ?_
  refine Rv J J J (U_load1 J J J) J J ?_
  refine Rv J J J (U_lenOf J len_ros) J J ?_
  refine Rv J J J (U_move J) J J ?_
  refine Rt J ?_
  refine W_block J ?_
  refine LoopTo (T' := [(3, .rop [i64 ((z : Nat) : Int), i64 ((h : Nat) : Int)] 0), (5, .out 0 [].length 1), (6, .fn 76 [.rop [i64 ((H : Nat) : Int), i64 ((Z : Nat) : Int), .ros (ls.map boxesL) ls.length c, .ros ((chQ Z H ls).map rowsL) ((chQ Z H ls).length) none] 0] []), (14, i64 (((chQ Z H ls).length : Nat) : Int)), (15, i64 ((0 : Nat) : Int))]) (H' := [(0, outB ([].map i64) 3 [].length)]) (n := 1) J (fun mz_ qz_ => ∃ (k : Nat) (l : List Int), k ≤ ls.length ∧ l = ofQ ls H z h k ∧ mz_ = ls.length - k ∧ qz_ = ⟨[(3, .rop [i64 ((z : Nat) : Int), i64 ((h : Nat) : Int)] 0), (5, .out 0 l.length 1), (6, .fn 76 [.rop [i64 ((H : Nat) : Int), i64 ((Z : Nat) : Int), .ros (ls.map boxesL) ls.length c, .ros ((chQ Z H ls).map rowsL) ((chQ Z H ls).length) none] 0] []), (14, i64 (((chQ Z H ls).length : Nat) : Int)), (15, i64 ((k : Nat) : Int))], [(0, outB (l.map i64) 3 l.length)], 1, []⟩) ⟨0, [], (by omega), J, J, J⟩ id ⟨eD J J, eW J le_nils_out J, eD J J, eD J J, eD J J, trivial⟩ ⟨rO0 J, trivial⟩ J J J J (fun _ _ => J) ?_
  rintro _ _ ⟨k, l, hi0_0, hi0_1, rfl, rfl⟩
  have hll : l.length ≤ k := by rw [hi0_1]; exact ofQ_len
  refine Wsr J J ?_
  refine Rv J J J (U_lss J J) J J ?_
  refine Rt J ?_
  refine W_seq J ?_
  refine WcondP J J (fun hc0 => ?_) (fun hc0 => ?_)
  · have hck : k < ls.length := by omega
    refine W_skip J ?_
    refine thenQ_n ?_
    refine W_seq J ?_
    refine W_block J ?_
    refine Wsr J J ?_
    refine Rv J J J (U_move J) J J ?_
    refine Rv J J J (U_assign J) J J ?_
    refine Rt J ?_
    refine Wsr J J ?_
    refine Rv J J J (U_move J) J J ?_
    refine Rv J J J (U_move J) J J ?_
    refine Rv J J J (U_load2 J J J J) J J ?_
    refine Rv J J J (U_call J J (in_p H Z ls c k z h (by omega) (by omega) (by omega)) J) J J ?_
    refine Rv J J J (U_gtr J J) J J ?_
    refine Rt J ?_
    refine WcondP J J (fun hc1 => ?_) (fun hc1 => ?_)
    · have hbt : inL' ls[k] H z h = true := by have h3 := hc1; unfold bitQ at h3; split at h3; assumption; simp at h3
      refine W_reg J ?_
      refine Rv J J J (U_move J) J J ?_
      refine Rv J J J (U_move J) J J ?_
      refine Rv J J J (U_buildSliceF (by rfl) (by decide) J J J) J J ?_
      refine Ra J J J (U_appO (b := 0) (m := 0) (cs' := (l ++ [((k : Nat) : Int)]).map i64) (n' := (l ++ [((k : Nat) : Int)]).length) J J (by simp) J (map_len1 _) J J (by omega) (appM _ _) (len1 _ _)) J J J ?_
      refine Rv J J J (U_assign J) J J ?_
      refine Re J ?_
      refine blkQ_n ?_
      refine thenQ_n ?_
      refine W_reg J ?_
      refine Rv J J J (U_add J J (w64e (m := ((k + 1 : Nat) : Int)) (by omega) (by omega) (by omega))) J J ?_
      refine Rv J J J (U_move J) J J ?_
      refine Rt J ?_
      exact againTo (T' := [(3, .rop [i64 ((z : Nat) : Int), i64 ((h : Nat) : Int)] 0), (5, .out 0 (l ++ [((k : Nat) : Int)]).length 1), (6, .fn 76 [.rop [i64 ((H : Nat) : Int), i64 ((Z : Nat) : Int), .ros (ls.map boxesL) ls.length c, .ros ((chQ Z H ls).map rowsL) ((chQ Z H ls).length) none] 0] []), (14, i64 (((chQ Z H ls).length : Nat) : Int)), (15, i64 (((k + 1) : Nat) : Int))]) (H' := [(0, outB ((l ++ [((k : Nat) : Int)]).map i64) 3 (l ++ [((k : Nat) : Int)]).length)]) (n := 1) (ls.length - (k + 1)) ⟨k + 1, l ++ [((k : Nat) : Int)], (by omega), (by first | (rw [ofQ_t hck hbt, hi0_1]; done) | (rw [ofQ_f hck hbt, hi0_1]; done)), J, J⟩ (by omega) (mapN [1]) ⟨eD J J, e_ J J, eD J J, eD J J, eD J J, trivial⟩ ⟨rO (mapD (fun _ => J) _) J J, trivial⟩ J J J J (fun _ h => absurd h (Nat.not_lt_zero _))
    · have hbt : ¬ inL' ls[k] H z h = true := by intro h4; apply hc1; unfold bitQ; rw [if_pos h4]; decide
      refine W_skip J ?_
      refine blkQ_n ?_
      refine thenQ_n ?_
      refine W_reg J ?_
      refine Rv J J J (U_add J J (w64e (m := ((k + 1 : Nat) : Int)) (by omega) (by omega) (by omega))) J J ?_
      refine Rv J J J (U_move J) J J ?_
      refine Rt J ?_
      exact againTo (T' := [(3, .rop [i64 ((z : Nat) : Int), i64 ((h : Nat) : Int)] 0), (5, .out 0 l.length 1), (6, .fn 76 [.rop [i64 ((H : Nat) : Int), i64 ((Z : Nat) : Int), .ros (ls.map boxesL) ls.length c, .ros ((chQ Z H ls).map rowsL) ((chQ Z H ls).length) none] 0] []), (14, i64 (((chQ Z H ls).length : Nat) : Int)), (15, i64 (((k + 1) : Nat) : Int))]) (H' := [(0, outB (l.map i64) 3 l.length)]) (n := 1) (ls.length - (k + 1)) ⟨k + 1, l, (by omega), (by first | (rw [ofQ_t hck hbt, hi0_1]; done) | (rw [ofQ_f hck hbt, hi0_1]; done)), J, J⟩ (by omega) id ⟨eD J J, e_ J J, eD J J, eD J J, eD J J, trivial⟩ ⟨rO (mapD (fun _ => J) _) J J, trivial⟩ J J J J (fun _ _ => J)
  · refine W_exit J ?_
    refine thenQ_x ?_
    refine thenQ_x ?_
    refine blkQ_x J ?_
    refine thenQ_n ?_
    refine Wsr J J ?_
    refine Rv J J J (U_move J) J J ?_
    refine Rv J J J (U_assign J) J J ?_
    refine Rt J ?_
    refine WfrO 0 (l.map i64) J (mapD (fun _ => J) _) (T' := [(4, .ros (l.map i64) l.length none)]) (H' := []) ⟨fO J, trivial⟩ trivial ?_
    refine W_ret J ?_
    exact retL (rlT J rl0) (by first | rfl | (simp only [packA]; rw [hi0_1, show k = ls.length by omega]; first | done | rfl)) J
end Go.Proofs.Ythlolelbmhfdbaa
end

section
namespace Go.Proofs.Ythlolelbmhfdbaa
set_option maxRecDepth 20000
open Go.AE
theorem newChartI_p (s : Sk) (c : Option Nat) (h : chkS s = 0) : Pure Try.prog 96 [.agg [i64 s.h, i64 s.z, landsA s.ls c]] (.rop [i64 s.h, i64 s.z, landsA s.ls c, .ros ((chQ s.z.toNat s.h.toNat s.ls).map rowsL) (chQ s.z.toNat s.h.toNat s.ls).length none] 0) := by
  obtain ⟨H, Z, hv⟩ := vs_of h
  obtain ⟨a, b, ls⟩ := s
  have e1 := hv.h
  have e2 := hv.z
  simp only at e1 e2
  subst e1
  subst e2
  exact newChart_p H Z ls c hv
def opS (s : Sk) (l : List Int) : Int := if chkS s ≠ 0 then chkS s else if inL 0 ((s.ls.length : Int) - 1) l = true then 0 else 2
theorem open_p (s : Sk) (c : Option Nat) (hl : s.ls.length ≤ 1000000) (hbl : ∀ l ∈ s.ls, l.length ≤ 1000000) (l : List Int) (d : Option Nat) (hl2 : l.length ≤ 1000000) : Pure Try.prog 63 [.agg [i64 s.h, i64 s.z, landsA s.ls c], intsA l d] (.tup [if opS s l = 0 then .rop [i64 s.h, i64 s.z, landsA s.ls c, .ros ((chQ s.z.toNat s.h.toNat s.ls).map rowsL) (chQ s.z.toNat s.h.toNat s.ls).length none] 0 else .nilp, i64 (opS s l)]) := by
  refine pure_of_body Try.func63 (c := body Try.f63) J (by simp [Try.ntmps63]) fun w0 Φ0 => ?_
  refine Wsr J J ?_
  refine Rv J J J (U_boxF J J J) J J ?_
  refine Rv J J J (U_assign J) J J ?_
  refine Rv J J J (U_assign J) J J ?_
  refine Rt J ?_
  refine Wsr J J ?_
  refine Rv J J J (U_load3 J J J J J) J J ?_
  refine Rv J J J (U_call J J (chkS_p s c hl hbl) J) J J ?_
  refine Rv J J J (U_assign J) J J ?_
  refine Rt J ?_
  refine W_seq J ?_
  refine W_block J ?_
  refine Wsr J J ?_
  refine Rv J J J (U_move J) J J ?_
  refine Rv J J J (U_neq J J) J J ?_
  refine Rv J J J (U_assign J) J J ?_
  refine Rt J ?_
  refine WcondP J J (fun hc0 => ?_) (fun hc0 => ?_)
  · have hop : opS s l = chkS s := by rw [opS, if_pos hc0]
    rw [hop, if_neg hc0]
    refine Wsr J J ?_
    refine Rv J J J (U_move J) J J ?_
    refine Rv J J J (U_assign J) J J ?_
    refine Rv J J J (U_assign J) J J ?_
    refine Rt J ?_
    refine W_ret J ?_
    refine blkQ_r ?_
    refine thenQ_r ?_
    exact retL (rlT J (rlT J rl0)) (by first | rfl | (simp only [packA]; rfl; first | done | rfl)) J
  · rw [Decidable.not_not] at hc0
    refine Wsr J J ?_
    refine Rv J J J (U_fieldAddrR J) J J ?_
    refine Rv J J J (U_load1 J J J) J J ?_
    refine Rv J J J (U_lenOf J len_ros) J J ?_
    refine Rv J J J (U_sub J J (w64 (by omega) (by omega))) J J ?_
    refine Rv J J J (U_move J) J J ?_
    refine Rv J J J (U_call J J (within_p 0 (((s.ls.length : Nat) : Int) - 1) l d (by first | assumption | omega | (simp; done) | (simp; omega))) J) J J ?_
    refine Rv J J J (U_not J) J J ?_
    refine Rv J J J (U_assign J) J J ?_
    refine Rt J ?_
    refine Wcond J J (fun hc1 => ?_) (fun hc1 => ?_)
    · have hop : opS s l = 2 := by rw [opS, if_neg (by simpa using hc0), if_neg (by simpa using hc1)]
      rw [hop, if_neg (by decide)]
      refine Wsr J J ?_
      refine Rv J J J (U_assign J) J J ?_
      refine Rv J J J (U_assign J) J J ?_
      refine Rt J ?_
      refine W_ret J ?_
      refine blkQ_r ?_
      refine thenQ_r ?_
      exact retL (rlT J (rlT J rl0)) (by first | rfl | (simp only [packA]; rfl; first | done | rfl)) J
    · have hc1' := Bool.eq_false_iff.1 hc1
      have hop : opS s l = 0 := by rw [opS, if_neg (by simpa using hc0), if_pos (by simpa using hc1)]
      rw [hop, if_pos rfl]
      refine W_skip J ?_
      refine blkQ_n ?_
      refine thenQ_n ?_
      refine Wsr J J ?_
      refine Rv J J J (U_load3 J J J J J) J J ?_
      refine Rv J J J (U_call J J (newChartI_p s c hc0) J) J J ?_
      refine Rv J J J (U_assign J) J J ?_
      refine Rv J J J (U_assign J) J J ?_
      refine Rt J ?_
      refine W_ret J ?_
      exact retL (rlT J (rlT J rl0)) (by first | rfl | (simp only [packA]; rfl; first | done | rfl)) J
end Go.Proofs.Ythlolelbmhfdbaa
end

section
namespace Go.Proofs.Ythlolelbmhfdbaa
set_option maxRecDepth 20000
open Go.AE
abbrev n64 (n : Nat) : AV := .int .i64 (n : Int)
def plcC (p : Nat × Nat) : List AV := [i64 (p.1 : Nat), i64 (p.2 : Nat)]
abbrev plcsA (l : List (Nat × Nat)) (c : Option Nat) : AV := .ros (l.flatMap plcC) l.length c
theorem pcG0 {l : List (Nat × Nat)} {k : Nat} (h : k < l.length) : (l.flatMap plcC)[k * 2]? = some (i64 ((l[k].1 : Nat) : Int)) := by have := flatGet (f := plcC) (z := 2) (fun _ => rfl) h 0 (by omega); simpa [plcC] using this
theorem pcG1 {l : List (Nat × Nat)} {k : Nat} (h : k < l.length) : (l.flatMap plcC)[k * 2 + 1]? = some (i64 ((l[k].2 : Nat) : Int)) := by have := flatGet (f := plcC) (z := 2) (fun _ => rfl) h 1 (by omega); simpa [plcC] using this
def bsP (Z H z h : Nat) : List (Nat × Nat) :=
  (if 1 < H then [(z, (h + 1) % H)] else []) ++ (if 2 < H then [(z, (h + H - 1) % H)] else []) ++ (if 0 < z then [(z - 1, h)] else []) ++ (if z + 1 < Z then [(z + 1, h)] else [])
def bsT (Z z h k : Nat) : List (Nat × Nat) := (if 0 < k ∧ 0 < z then [(z - 1, h)] else []) ++ (if 1 < k ∧ z + 1 < Z then [(z + 1, h)] else [])
abbrev znL (z : Nat) : List Int := [((z : Nat) : Int) - 1, ((z + 1 : Nat) : Int)]
theorem bsT_t {Z z h k m : Nat} (hz : z < Z) (hk : k < (znL z).length) (e : (znL z)[k] = (m : Int)) (e2 : inL 0 ((Z : Int) - 1) [(znL z)[k]] = true) : bsT Z z h (k + 1) = bsT Z z h k ++ [(m, h)] := by
  simp only [inL, List.all_cons, List.all_nil, Bool.and_true, Bool.and_eq_true, decide_eq_true_eq] at e2
  simp only [List.length_cons, List.length_nil] at hk
  have : k = 0 ∨ k = 1 := by omega
  rcases this with rfl | rfl
  · simp only [List.getElem_cons_zero] at e e2
    have h1 : 0 < z := by omega
    have h2 : z - 1 = m := by omega
    simp [bsT, h1, h2]
  · simp only [List.getElem_cons_succ, List.getElem_cons_zero] at e e2
    have h1 : z + 1 < Z := by omega
    have h2 : z + 1 = m := by omega
    simp [bsT, h1, ← h2]
theorem bsT_f {Z z h k : Nat} (hz : z < Z) (hk : k < (znL z).length) (e2 : ¬ inL 0 ((Z : Int) - 1) [(znL z)[k]] = true) : bsT Z z h (k + 1) = bsT Z z h k := by
  simp only [inL, List.all_cons, List.all_nil, Bool.and_true, Bool.and_eq_true, decide_eq_true_eq] at e2
  simp only [List.length_cons, List.length_nil] at hk
  have : k = 0 ∨ k = 1 := by omega
  rcases this with rfl | rfl
  · simp only [List.getElem_cons_zero] at e2
    have h1 : ¬ 0 < z := by omega
    simp [bsT, h1]
  · simp only [List.getElem_cons_succ, List.getElem_cons_zero] at e2
    have h1 : ¬ z + 1 < Z := by omega
    simp [bsT, h1]
theorem bsT_2 {Z z h : Nat} : bsT Z z h 2 = (if 0 < z then [(z - 1, h)] else []) ++ (if z + 1 < Z then [(z + 1, h)] else []) := by simp [bsT]
theorem bsT_le {Z z h k : Nat} : (bsT Z z h k).length ≤ 2 := by
  unfold bsT; split <;> split <;> simp
theorem beside1_p (H Z : Nat) (ls : List (List Bx)) (c : Option Nat) (z h : Nat) (hH : 1 ≤ H ∧ H ≤ 48) (hz : z < Z) (hZ : Z ≤ 24) (hh : h < H) (h1 : H = 1) : Pure Try.prog 102 [.rop [i64 (H : Nat), i64 (Z : Nat), landsA ls c, .ros ((chQ Z H ls).map rowsL) (chQ Z H ls).length none] 0, .agg [i64 (z : Nat), i64 (h : Nat)]] (plcsA (bsP Z H z h) none) := by
  refine pure_of_body Try.func102 (c := body Try.f102) J (by simp [Try.ntmps102]) fun w0 Φ0 => ?_
  refine Wsr J J ?_
  refine Rv J J J (U_boxF J J J) J J ?_
  refine Rv J J J (U_assign J) J J ?_
  refine Rt J ?_
  refine Wsr J J ?_
  refine Rv J J J (U_assign J) J J ?_
  refine Rt J ?_
  refine W_seq J ?_
  refine Wsr J J ?_
  refine Rv J J J (U_move J) J J ?_
  refine Rv J J J (U_nilCheckR J) J J ?_
  refine Rv J J J (U_fieldAddrR J) J J ?_
  refine Rv J J J (U_fieldAddrR J) J J ?_
  refine Rv J J J (U_load1 J J J) J J ?_
  refine Rv J J J (OpU.toB (U_gtr J J) (decide_eq_false (by omega))) J J ?_
  refine Rt J ?_
  refine Wcond J J (fun h => nomatch h) (fun _ => ?_)
  refine W_skip J ?_
  refine thenQ_n ?_
  refine W_seq J ?_
  refine Wsr J J ?_
  refine Rv J J J (U_move J) J J ?_
  refine Rv J J J (U_nilCheckR J) J J ?_
  refine Rv J J J (U_fieldAddrR J) J J ?_
  refine Rv J J J (U_fieldAddrR J) J J ?_
  refine Rv J J J (U_load1 J J J) J J ?_
  refine Rv J J J (OpU.toB (U_gtr J J) (decide_eq_false (by omega))) J J ?_
  refine Rt J ?_
  refine Wcond J J (fun h => nomatch h) (fun _ => ?_)
  refine W_skip J ?_
  refine thenQ_n ?_
  refine W_seq J ?_
  refine Wsr J J ?_
  refine Rv J J J (U_fieldAddrR J) J J ?_
  refine Rv J J J (U_load1 J J J) J J ?_
  refine Rv J J J (U_sub J J (w64 (by omega) (by omega))) J J ?_
  refine Rv J J J (U_fieldAddrR J) J J ?_
  refine Rv J J J (U_load1 J J J) J J ?_
  refine Rv J J J (U_add J J (w64e (m := ((z + 1 : Nat) : Int)) (by omega) (by omega) (by omega))) J J ?_
  refine Rv J J J (U_buildSliceF (by rfl) (by decide) J J J) J J ?_
  refine Rv J J J (U_lenOf J len_ros) J J ?_
  refine Rv J J J (U_move J) J J ?_
  refine Rt J ?_
  refine W_block J ?_
  refine LoopTo (T' := [(0, .rop [i64 ((H : Nat) : Int), i64 ((Z : Nat) : Int), .ros (ls.map boxesL) ls.length c, .ros ((chQ Z H ls).map rowsL) ((chQ Z H ls).length) none] 0), (3, .rop [i64 ((z : Nat) : Int), i64 ((h : Nat) : Int)] 0), (5, .out 0 [].length 2), (62, .ros ((znL z).map i64) 2 (some 2)), (63, i64 2), (64, i64 ((0 : Nat) : Int))]) (H' := [(0, outB ([].flatMap plcC) 80 [].length)]) (n := 1) J (fun mz_ qz_ => ∃ (k : Nat) (Q : List (Nat × Nat)), k ≤ 2 ∧ Q = ([] : List (Nat × Nat)) ++ bsT Z z h k ∧ ([] : List (Nat × Nat)).length ≤ 2 ∧ mz_ = 2 - k ∧ qz_ = ⟨[(0, .rop [i64 ((H : Nat) : Int), i64 ((Z : Nat) : Int), .ros (ls.map boxesL) ls.length c, .ros ((chQ Z H ls).map rowsL) ((chQ Z H ls).length) none] 0), (3, .rop [i64 ((z : Nat) : Int), i64 ((h : Nat) : Int)] 0), (5, .out 0 Q.length 2), (62, .ros ((znL z).map i64) 2 (some 2)), (63, i64 2), (64, i64 ((k : Nat) : Int))], [(0, outB (Q.flatMap plcC) 80 Q.length)], 1, []⟩) ⟨0, [], (by omega), (by simp [bsT]), (by simp), J, J⟩ id ⟨eD J J, eD J J, eW J le_nils_out J, eD J J, eD J J, eD J J, trivial⟩ ⟨rO0 J, trivial⟩ J J J J (fun _ _ => J) ?_
  rintro _ _ ⟨k, Q, hi0_0, hi0_1, hi0_2, rfl, rfl⟩
  have hql : Q.length ≤ 4 := by rw [hi0_1, List.length_append]; have := bsT_le (Z := Z) (z := z) (h := h) (k := k); omega
  refine Wsr J J ?_
  refine Rv J J J (U_lss J J) J J ?_
  refine Rt J ?_
  refine W_seq J ?_
  refine WcondP J J (fun hc2 => ?_) (fun hc2 => ?_)
  · have hck : k < (znL z).length := by simp; omega
    refine W_skip J ?_
    refine thenQ_n ?_
    refine W_seq J ?_
    refine W_block J ?_
    refine Wsr J J ?_
    have hx1 : k < (znL z).length := by omega
    refine Rv J J J (U_indexR (j := k) J J J (by omega)) J J ?_
    refine Rv J J J (U_load1 J J (getM hx1)) J J ?_
    refine Rv J J J (U_assign J) J J ?_
    refine Rt J ?_
    refine Wsr J J ?_
    refine Rv J J J (U_move J) J J ?_
    refine Rv J J J (U_nilCheckR J) J J ?_
    refine Rv J J J (U_fieldAddrR J) J J ?_
    refine Rv J J J (U_fieldAddrR J) J J ?_
    refine Rv J J J (U_load1 J J J) J J ?_
    refine Rv J J J (U_sub J J (w64 (by omega) (by omega))) J J ?_
    refine Rv J J J (U_move J) J J ?_
    refine Rv J J J (U_buildSliceF (by rfl) (by decide) J J J) J J ?_
    refine Rv J J J (U_call J J (within_p 0 (((Z : Nat) : Int) - 1) [(znL z)[k]] (some 1) (by first | assumption | omega | (simp; done) | (simp; omega))) J) J J ?_
    refine Rt J ?_
    refine Wcond J J (fun hc3 => ?_) (fun hc3 => ?_)
    · have hbt := hc3
      obtain ⟨m, hm⟩ : ∃ m : Nat, (znL z)[k] = (m : Int) := ⟨_, (Int.toNat_of_nonneg (inL1b hc3).1).symm⟩
      refine W_reg J ?_
      refine Rv J J J (U_move J) J J ?_
      refine Rv J J J (U_move J) J J ?_
      refine Rv J J J (U_fieldAddrR J) J J ?_
      refine Rv J J J (U_load1 J J J) J J ?_
      refine Rv J J J (U_build J J) J J ?_
      refine Rv J J J (U_buildSliceF (by rfl) (by decide) J J J) J J ?_
      refine Ra J J J (U_appO (b := 0) (m := 0) (cs' := (Q ++ [(m, h)]).flatMap plcC) (n' := (Q ++ [(m, h)]).length) J J (by simp) J (flat_len (z := 2) (fun _ => J) _) J J (by omega) (by rw [hm]; exact appF (f := plcC) Q (m, h)) (len1 _ _)) J J J ?_
      refine Rv J J J (U_assign J) J J ?_
      refine Re J ?_
      refine blkQ_n ?_
      refine thenQ_n ?_
      refine W_reg J ?_
      refine Rv J J J (U_add J J (w64e (m := ((k + 1 : Nat) : Int)) (by omega) (by omega) (by omega))) J J ?_
      refine Rv J J J (U_move J) J J ?_
      refine Rt J ?_
      exact againTo (T' := [(0, .rop [i64 ((H : Nat) : Int), i64 ((Z : Nat) : Int), .ros (ls.map boxesL) ls.length c, .ros ((chQ Z H ls).map rowsL) ((chQ Z H ls).length) none] 0), (3, .rop [i64 ((z : Nat) : Int), i64 ((h : Nat) : Int)] 0), (5, .out 0 (Q ++ [(m, h)]).length 2), (62, .ros ((znL z).map i64) 2 (some 2)), (63, i64 2), (64, i64 (((k + 1) : Nat) : Int))]) (H' := [(0, outB ((Q ++ [(m, h)]).flatMap plcC) 80 (Q ++ [(m, h)]).length)]) (n := 1) (2 - (k + 1)) ⟨k + 1, Q ++ [(m, h)], (by omega), (by first | (rw [bsT_t hz hck hm hbt, hi0_1, List.append_assoc]; done) | (rw [bsT_f hz hck hbt]; exact hi0_1)), (by assumption), J, J⟩ (by omega) (mapN [1]) ⟨eD J J, eD J J, e_ J J, eD J J, eD J J, eD J J, trivial⟩ ⟨rO (flatD (fun _ => J) _) J J, trivial⟩ J J J J (fun _ h => absurd h (Nat.not_lt_zero _))
    · have hc3' := Bool.eq_false_iff.1 hc3
      have hbt := hc3'
      refine W_skip J ?_
      refine blkQ_n ?_
      refine thenQ_n ?_
      refine W_reg J ?_
      refine Rv J J J (U_add J J (w64e (m := ((k + 1 : Nat) : Int)) (by omega) (by omega) (by omega))) J J ?_
      refine Rv J J J (U_move J) J J ?_
      refine Rt J ?_
      exact againTo (T' := [(0, .rop [i64 ((H : Nat) : Int), i64 ((Z : Nat) : Int), .ros (ls.map boxesL) ls.length c, .ros ((chQ Z H ls).map rowsL) ((chQ Z H ls).length) none] 0), (3, .rop [i64 ((z : Nat) : Int), i64 ((h : Nat) : Int)] 0), (5, .out 0 Q.length 2), (62, .ros ((znL z).map i64) 2 (some 2)), (63, i64 2), (64, i64 (((k + 1) : Nat) : Int))]) (H' := [(0, outB (Q.flatMap plcC) 80 Q.length)]) (n := 1) (2 - (k + 1)) ⟨k + 1, Q, (by omega), (by first | (rw [bsT_t hz hck hm hbt, hi0_1, List.append_assoc]; done) | (rw [bsT_f hz hck hbt]; exact hi0_1)), (by assumption), J, J⟩ (by omega) id ⟨eD J J, eD J J, e_ J J, eD J J, eD J J, eD J J, trivial⟩ ⟨rO (flatD (fun _ => J) _) J J, trivial⟩ J J J J (fun _ _ => J)
  · refine W_exit J ?_
    refine thenQ_x ?_
    refine thenQ_x ?_
    refine blkQ_x J ?_
    refine thenQ_n ?_
    refine Wsr J J ?_
    refine Rv J J J (U_move J) J J ?_
    refine Rv J J J (U_assign J) J J ?_
    refine Rt J ?_
    refine WfrO 0 (Q.flatMap plcC) J (flatD (fun _ => J) _) (T' := [(4, .ros (Q.flatMap plcC) Q.length none)]) (H' := []) ⟨fO J, trivial⟩ trivial ?_
    refine W_ret J ?_
    exact retL (rlT J rl0) (by first | rfl | (simp only [packA]; rw [hi0_1, show k = 2 by omega, bsT_2]; unfold bsP; simp only [show ¬ 1 < H by omega, show ¬ 2 < H by omega, if_true, if_false, List.nil_append, List.append_assoc, List.cons_append]; first | done | rfl)) J
theorem beside2_p (H Z : Nat) (ls : List (List Bx)) (c : Option Nat) (z h : Nat) (hH : 1 ≤ H ∧ H ≤ 48) (hz : z < Z) (hZ : Z ≤ 24) (hh : h < H) (h1 : H = 2) : Pure Try.prog 102 [.rop [i64 (H : Nat), i64 (Z : Nat), landsA ls c, .ros ((chQ Z H ls).map rowsL) (chQ Z H ls).length none] 0, .agg [i64 (z : Nat), i64 (h : Nat)]] (plcsA (bsP Z H z h) none) := by
  refine pure_of_body Try.func102 (c := body Try.f102) J (by simp [Try.ntmps102]) fun w0 Φ0 => ?_
  refine Wsr J J ?_
  refine Rv J J J (U_boxF J J J) J J ?_
  refine Rv J J J (U_assign J) J J ?_
  refine Rt J ?_
  refine Wsr J J ?_
  refine Rv J J J (U_assign J) J J ?_
  refine Rt J ?_
  refine W_seq J ?_
  refine Wsr J J ?_
  refine Rv J J J (U_move J) J J ?_
  refine Rv J J J (U_nilCheckR J) J J ?_
  refine Rv J J J (U_fieldAddrR J) J J ?_
  refine Rv J J J (U_fieldAddrR J) J J ?_
  refine Rv J J J (U_load1 J J J) J J ?_
  refine Rv J J J (OpU.toB (U_gtr J J) (decide_eq_true (by omega))) J J ?_
  refine Rt J ?_
  refine Wcond J J (fun _ => ?_) (fun h => nomatch h)
  refine Wdraw J (by kernel_rfl) (by kernel_rfl) ?_
  refine Dv J J J (U_move J) J J ?_
  refine Dv J J J (U_fieldAddrR J) J J ?_
  refine Dv J J J (U_load1 J J J) J J ?_
  refine Dv J J J (U_fieldAddrR J) J J ?_
  refine Dv J J J (U_load1 J J J) J J ?_
  refine Dv J J J (U_add J J (w64e (m := ((h + 1 : Nat) : Int)) (by omega) (by omega) (by omega))) J J ?_
  refine Dv J J J (U_move J) J J ?_
  refine Dv J J J (U_nilCheckR J) J J ?_
  refine Dv J J J (U_fieldAddrR J) J J ?_
  refine Dv J J J (U_fieldAddrR J) J J ?_
  refine Dv J J J (U_load1 J J J) J J ?_
  refine Dv J J J (U_rem (c := (((h + 1) % H : Nat) : Int)) J J (by omega) (tmodN _ _)) J J ?_
  refine Dv J J J (U_build J J) J J ?_
  refine Dv J J J (U_buildSliceF (by rfl) (by decide) J J J) J J ?_
  refine Da J J J (U_appN (m := 0) (cs' := [(z, (h + 1) % H)].flatMap plcC) (n' := [(z, (h + 1) % H)].length) J J J (by omega) J J) J J J J ?_
  refine Dv J J J (U_assign J) J J ?_
  refine Dr.nil J ?_
  refine thenQ_n ?_
  refine W_seq J ?_
  refine Wsr J J ?_
  refine Rv J J J (U_move J) J J ?_
  refine Rv J J J (U_nilCheckR J) J J ?_
  refine Rv J J J (U_fieldAddrR J) J J ?_
  refine Rv J J J (U_fieldAddrR J) J J ?_
  refine Rv J J J (U_load1 J J J) J J ?_
  refine Rv J J J (OpU.toB (U_gtr J J) (decide_eq_false (by omega))) J J ?_
  refine Rt J ?_
  refine Wcond J J (fun h => nomatch h) (fun _ => ?_)
  refine W_skip J ?_
  refine thenQ_n ?_
  refine W_seq J ?_
  refine Wsr J J ?_
  refine Rv J J J (U_fieldAddrR J) J J ?_
  refine Rv J J J (U_load1 J J J) J J ?_
  refine Rv J J J (U_sub J J (w64 (by omega) (by omega))) J J ?_
  refine Rv J J J (U_fieldAddrR J) J J ?_
  refine Rv J J J (U_load1 J J J) J J ?_
  refine Rv J J J (U_add J J (w64e (m := ((z + 1 : Nat) : Int)) (by omega) (by omega) (by omega))) J J ?_
  refine Rv J J J (U_buildSliceF (by rfl) (by decide) J J J) J J ?_
  refine Rv J J J (U_lenOf J len_ros) J J ?_
  refine Rv J J J (U_move J) J J ?_
  refine Rt J ?_
  refine W_block J ?_
  refine LoopTo (T' := [(0, .rop [i64 ((H : Nat) : Int), i64 ((Z : Nat) : Int), .ros (ls.map boxesL) ls.length c, .ros ((chQ Z H ls).map rowsL) ((chQ Z H ls).length) none] 0), (3, .rop [i64 ((z : Nat) : Int), i64 ((h : Nat) : Int)] 0), (5, .out 0 [(z, (h + 1) % H)].length 2), (62, .ros ((znL z).map i64) 2 (some 2)), (63, i64 2), (64, i64 ((0 : Nat) : Int))]) (H' := [(0, outB ([(z, (h + 1) % H)].flatMap plcC) 80 [(z, (h + 1) % H)].length)]) (n := 1) J (fun mz_ qz_ => ∃ (k : Nat) (Q : List (Nat × Nat)), k ≤ 2 ∧ Q = [(z, (h + 1) % H)] ++ bsT Z z h k ∧ [(z, (h + 1) % H)].length ≤ 2 ∧ mz_ = 2 - k ∧ qz_ = ⟨[(0, .rop [i64 ((H : Nat) : Int), i64 ((Z : Nat) : Int), .ros (ls.map boxesL) ls.length c, .ros ((chQ Z H ls).map rowsL) ((chQ Z H ls).length) none] 0), (3, .rop [i64 ((z : Nat) : Int), i64 ((h : Nat) : Int)] 0), (5, .out 0 Q.length 2), (62, .ros ((znL z).map i64) 2 (some 2)), (63, i64 2), (64, i64 ((k : Nat) : Int))], [(0, outB (Q.flatMap plcC) 80 Q.length)], 1, []⟩) ⟨0, [(z, (h + 1) % H)], (by omega), (by simp [bsT]), (by simp), J, J⟩ id ⟨eD J J, eD J J, e_ J J, eD J J, eD J J, eD J J, trivial⟩ ⟨rO (flatD (fun _ => J) _) J J, trivial⟩ J J J J (fun _ _ => J) ?_
  rintro _ _ ⟨k, Q, hi0_0, hi0_1, hi0_2, rfl, rfl⟩
  have hql : Q.length ≤ 4 := by rw [hi0_1, List.length_append]; have := bsT_le (Z := Z) (z := z) (h := h) (k := k); omega
  refine Wsr J J ?_
  refine Rv J J J (U_lss J J) J J ?_
  refine Rt J ?_
  refine W_seq J ?_
  refine WcondP J J (fun hc2 => ?_) (fun hc2 => ?_)
  · have hck : k < (znL z).length := by simp; omega
    refine W_skip J ?_
    refine thenQ_n ?_
    refine W_seq J ?_
    refine W_block J ?_
    refine Wsr J J ?_
    have hx1 : k < (znL z).length := by omega
    refine Rv J J J (U_indexR (j := k) J J J (by omega)) J J ?_
    refine Rv J J J (U_load1 J J (getM hx1)) J J ?_
    refine Rv J J J (U_assign J) J J ?_
    refine Rt J ?_
    refine Wsr J J ?_
    refine Rv J J J (U_move J) J J ?_
    refine Rv J J J (U_nilCheckR J) J J ?_
    refine Rv J J J (U_fieldAddrR J) J J ?_
    refine Rv J J J (U_fieldAddrR J) J J ?_
    refine Rv J J J (U_load1 J J J) J J ?_
    refine Rv J J J (U_sub J J (w64 (by omega) (by omega))) J J ?_
    refine Rv J J J (U_move J) J J ?_
    refine Rv J J J (U_buildSliceF (by rfl) (by decide) J J J) J J ?_
    refine Rv J J J (U_call J J (within_p 0 (((Z : Nat) : Int) - 1) [(znL z)[k]] (some 1) (by first | assumption | omega | (simp; done) | (simp; omega))) J) J J ?_
    refine Rt J ?_
    refine Wcond J J (fun hc3 => ?_) (fun hc3 => ?_)
    · have hbt := hc3
      obtain ⟨m, hm⟩ : ∃ m : Nat, (znL z)[k] = (m : Int) := ⟨_, (Int.toNat_of_nonneg (inL1b hc3).1).symm⟩
      refine W_reg J ?_
      refine Rv J J J (U_move J) J J ?_
      refine Rv J J J (U_move J) J J ?_
      refine Rv J J J (U_fieldAddrR J) J J ?_
      refine Rv J J J (U_load1 J J J) J J ?_
      refine Rv J J J (U_build J J) J J ?_
      refine Rv J J J (U_buildSliceF (by rfl) (by decide) J J J) J J ?_
      refine Ra J J J (U_appO (b := 0) (m := 0) (cs' := (Q ++ [(m, h)]).flatMap plcC) (n' := (Q ++ [(m, h)]).length) J J (by simp) J (flat_len (z := 2) (fun _ => J) _) J J (by omega) (by rw [hm]; exact appF (f := plcC) Q (m, h)) (len1 _ _)) J J J ?_
      refine Rv J J J (U_assign J) J J ?_
      refine Re J ?_
      refine blkQ_n ?_
      refine thenQ_n ?_
      refine W_reg J ?_
      refine Rv J J J (U_add J J (w64e (m := ((k + 1 : Nat) : Int)) (by omega) (by omega) (by omega))) J J ?_
      refine Rv J J J (U_move J) J J ?_
      refine Rt J ?_
      exact againTo (T' := [(0, .rop [i64 ((H : Nat) : Int), i64 ((Z : Nat) : Int), .ros (ls.map boxesL) ls.length c, .ros ((chQ Z H ls).map rowsL) ((chQ Z H ls).length) none] 0), (3, .rop [i64 ((z : Nat) : Int), i64 ((h : Nat) : Int)] 0), (5, .out 0 (Q ++ [(m, h)]).length 2), (62, .ros ((znL z).map i64) 2 (some 2)), (63, i64 2), (64, i64 (((k + 1) : Nat) : Int))]) (H' := [(0, outB ((Q ++ [(m, h)]).flatMap plcC) 80 (Q ++ [(m, h)]).length)]) (n := 1) (2 - (k + 1)) ⟨k + 1, Q ++ [(m, h)], (by omega), (by first | (rw [bsT_t hz hck hm hbt, hi0_1, List.append_assoc]; done) | (rw [bsT_f hz hck hbt]; exact hi0_1)), (by assumption), J, J⟩ (by omega) (mapN [1]) ⟨eD J J, eD J J, e_ J J, eD J J, eD J J, eD J J, trivial⟩ ⟨rO (flatD (fun _ => J) _) J J, trivial⟩ J J J J (fun _ h => absurd h (Nat.not_lt_zero _))
    · have hc3' := Bool.eq_false_iff.1 hc3
      have hbt := hc3'
      refine W_skip J ?_
      refine blkQ_n ?_
      refine thenQ_n ?_
      refine W_reg J ?_
      refine Rv J J J (U_add J J (w64e (m := ((k + 1 : Nat) : Int)) (by omega) (by omega) (by omega))) J J ?_
      refine Rv J J J (U_move J) J J ?_
      refine Rt J ?_
      exact againTo (T' := [(0, .rop [i64 ((H : Nat) : Int), i64 ((Z : Nat) : Int), .ros (ls.map boxesL) ls.length c, .ros ((chQ Z H ls).map rowsL) ((chQ Z H ls).length) none] 0), (3, .rop [i64 ((z : Nat) : Int), i64 ((h : Nat) : Int)] 0), (5, .out 0 Q.length 2), (62, .ros ((znL z).map i64) 2 (some 2)), (63, i64 2), (64, i64 (((k + 1) : Nat) : Int))]) (H' := [(0, outB (Q.flatMap plcC) 80 Q.length)]) (n := 1) (2 - (k + 1)) ⟨k + 1, Q, (by omega), (by first | (rw [bsT_t hz hck hm hbt, hi0_1, List.append_assoc]; done) | (rw [bsT_f hz hck hbt]; exact hi0_1)), (by assumption), J, J⟩ (by omega) id ⟨eD J J, eD J J, e_ J J, eD J J, eD J J, eD J J, trivial⟩ ⟨rO (flatD (fun _ => J) _) J J, trivial⟩ J J J J (fun _ _ => J)
  · refine W_exit J ?_
    refine thenQ_x ?_
    refine thenQ_x ?_
    refine blkQ_x J ?_
    refine thenQ_n ?_
    refine Wsr J J ?_
    refine Rv J J J (U_move J) J J ?_
    refine Rv J J J (U_assign J) J J ?_
    refine Rt J ?_
    refine WfrO 0 (Q.flatMap plcC) J (flatD (fun _ => J) _) (T' := [(4, .ros (Q.flatMap plcC) Q.length none)]) (H' := []) ⟨fO J, trivial⟩ trivial ?_
    refine W_ret J ?_
    exact retL (rlT J rl0) (by first | rfl | (simp only [packA]; rw [hi0_1, show k = 2 by omega, bsT_2]; unfold bsP; simp only [show 1 < H by omega, show ¬ 2 < H by omega, if_true, if_false, List.nil_append, List.append_assoc, List.cons_append]; first | done | rfl)) J
theorem beside3_p (H Z : Nat) (ls : List (List Bx)) (c : Option Nat) (z h : Nat) (hH : 1 ≤ H ∧ H ≤ 48) (hz : z < Z) (hZ : Z ≤ 24) (hh : h < H) (h1 : 2 < H) : Pure Try.prog 102 [.rop [i64 (H : Nat), i64 (Z : Nat), landsA ls c, .ros ((chQ Z H ls).map rowsL) (chQ Z H ls).length none] 0, .agg [i64 (z : Nat), i64 (h : Nat)]] (plcsA (bsP Z H z h) none) := by
  refine pure_of_body Try.func102 (c := body Try.f102) J (by simp [Try.ntmps102]) fun w0 Φ0 => ?_
  refine Wsr J J ?_
  refine Rv J J J (U_boxF J J J) J J ?_
  refine Rv J J J (U_assign J) J J ?_
  refine Rt J ?_
  refine Wsr J J ?_
  refine Rv J J J (U_assign J) J J ?_
  refine Rt J ?_
  refine W_seq J ?_
  refine Wsr J J ?_
  refine Rv J J J (U_move J) J J ?_
  refine Rv J J J (U_nilCheckR J) J J ?_
  refine Rv J J J (U_fieldAddrR J) J J ?_
  refine Rv J J J (U_fieldAddrR J) J J ?_
  refine Rv J J J (U_load1 J J J) J J ?_
  refine Rv J J J (OpU.toB (U_gtr J J) (decide_eq_true (by omega))) J J ?_
  refine Rt J ?_
  refine Wcond J J (fun _ => ?_) (fun h => nomatch h)
  refine Wdraw J (by kernel_rfl) (by kernel_rfl) ?_
  refine Dv J J J (U_move J) J J ?_
  refine Dv J J J (U_fieldAddrR J) J J ?_
  refine Dv J J J (U_load1 J J J) J J ?_
  refine Dv J J J (U_fieldAddrR J) J J ?_
  refine Dv J J J (U_load1 J J J) J J ?_
  refine Dv J J J (U_add J J (w64e (m := ((h + 1 : Nat) : Int)) (by omega) (by omega) (by omega))) J J ?_
  refine Dv J J J (U_move J) J J ?_
  refine Dv J J J (U_nilCheckR J) J J ?_
  refine Dv J J J (U_fieldAddrR J) J J ?_
  refine Dv J J J (U_fieldAddrR J) J J ?_
  refine Dv J J J (U_load1 J J J) J J ?_
  refine Dv J J J (U_rem (c := (((h + 1) % H : Nat) : Int)) J J (by omega) (tmodN _ _)) J J ?_
  refine Dv J J J (U_build J J) J J ?_
  refine Dv J J J (U_buildSliceF (by rfl) (by decide) J J J) J J ?_
  refine Da J J J (U_appN (m := 0) (cs' := [(z, (h + 1) % H)].flatMap plcC) (n' := [(z, (h + 1) % H)].length) J J J (by omega) J J) J J J J ?_
  refine Dv J J J (U_assign J) J J ?_
  refine Dr.nil J ?_
  refine thenQ_n ?_
  refine W_seq J ?_
  refine Wsr J J ?_
  refine Rv J J J (U_move J) J J ?_
  refine Rv J J J (U_nilCheckR J) J J ?_
  refine Rv J J J (U_fieldAddrR J) J J ?_
  refine Rv J J J (U_fieldAddrR J) J J ?_
  refine Rv J J J (U_load1 J J J) J J ?_
  refine Rv J J J (OpU.toB (U_gtr J J) (decide_eq_true (by omega))) J J ?_
  refine Rt J ?_
  refine Wcond J J (fun _ => ?_) (fun h => nomatch h)
  refine Wjoin ⟨[(0, .rop [i64 ((H : Nat) : Int), i64 ((Z : Nat) : Int), .ros (ls.map boxesL) ls.length c, .ros ((chQ Z H ls).map rowsL) ((chQ Z H ls).length) none] 0), (3, .rop [i64 ((z : Nat) : Int), i64 ((h : Nat) : Int)] 0), (5, .out 1 (([(z, (h + 1) % H)] ++ [(z, (h + H - 1) % H)]).length) 2)], [(1, outB (([(z, (h + 1) % H)] ++ [(z, (h + H - 1) % H)]).flatMap plcC) 80 (([(z, (h + 1) % H)] ++ [(z, (h + H - 1) % H)]).length))], 2, []⟩ ?_ ?_
  · rcases Nat.eq_zero_or_pos [(z, (h + 1) % H)].length with hz1 | hz1
    · refine Wdraw J (by kernel_rfl) (by kernel_rfl) ?_
      refine Dv J J J (U_move J) J J ?_
      refine Dv J J J (U_fieldAddrR J) J J ?_
      refine Dv J J J (U_load1 J J J) J J ?_
      refine Dv J J J (U_fieldAddrR J) J J ?_
      refine Dv J J J (U_load1 J J J) J J ?_
      refine Dv J J J (U_move J) J J ?_
      refine Dv J J J (U_nilCheckR J) J J ?_
      refine Dv J J J (U_fieldAddrR J) J J ?_
      refine Dv J J J (U_fieldAddrR J) J J ?_
      refine Dv J J J (U_load1 J J J) J J ?_
      refine Dv J J J (U_add J J (w64e (m := ((h + H : Nat) : Int)) (by omega) (by omega) (by omega))) J J ?_
      refine Dv J J J (U_sub J J (w64e (m := ((h + H - 1 : Nat) : Int)) (by omega) (by omega) (by omega))) J J ?_
      refine Dv J J J (U_move J) J J ?_
      refine Dv J J J (U_nilCheckR J) J J ?_
      refine Dv J J J (U_fieldAddrR J) J J ?_
      refine Dv J J J (U_fieldAddrR J) J J ?_
      refine Dv J J J (U_load1 J J J) J J ?_
      refine Dv J J J (U_rem (c := (((h + H - 1) % H : Nat) : Int)) J J (by omega) (tmodN _ _)) J J ?_
      refine Dv J J J (U_build J J) J J ?_
      refine Dv J J J (U_buildSliceF (by rfl) (by decide) J J J) J J ?_
      refine Da J J J (U_appO0 (b := 0) (cs := ([(z, (h + 1) % H)].flatMap plcC)) (m := 0) (cs' := ([(z, (h + 1) % H)] ++ [(z, (h + H - 1) % H)]).flatMap plcC) (n' := ([(z, (h + 1) % H)] ++ [(z, (h + H - 1) % H)]).length) J hz1 J (by simp) (flat_len (z := 2) (fun _ => J) _) J (by simp) (appF (f := plcC) _ (z, (h + H - 1) % H)) (len1 _ _)) J J J J ?_
      refine Dv J J J (U_assign J) J J ?_
      refine Dr.nil J ?_
      exact joinTo id ⟨eD J J, eD J J, e_ J J, trivial⟩ ⟨rO (flatD (fun _ => J) _) J J, trivial⟩ J J J J (fun _ _ => J)
    · refine Wdraw J (by kernel_rfl) (by kernel_rfl) ?_
      refine Dv J J J (U_move J) J J ?_
      refine Dv J J J (U_fieldAddrR J) J J ?_
      refine Dv J J J (U_load1 J J J) J J ?_
      refine Dv J J J (U_fieldAddrR J) J J ?_
      refine Dv J J J (U_load1 J J J) J J ?_
      refine Dv J J J (U_move J) J J ?_
      refine Dv J J J (U_nilCheckR J) J J ?_
      refine Dv J J J (U_fieldAddrR J) J J ?_
      refine Dv J J J (U_fieldAddrR J) J J ?_
      refine Dv J J J (U_load1 J J J) J J ?_
      refine Dv J J J (U_add J J (w64e (m := ((h + H : Nat) : Int)) (by omega) (by omega) (by omega))) J J ?_
      refine Dv J J J (U_sub J J (w64e (m := ((h + H - 1 : Nat) : Int)) (by omega) (by omega) (by omega))) J J ?_
      refine Dv J J J (U_move J) J J ?_
      refine Dv J J J (U_nilCheckR J) J J ?_
      refine Dv J J J (U_fieldAddrR J) J J ?_
      refine Dv J J J (U_fieldAddrR J) J J ?_
      refine Dv J J J (U_load1 J J J) J J ?_
      refine Dv J J J (U_rem (c := (((h + H - 1) % H : Nat) : Int)) J J (by omega) (tmodN _ _)) J J ?_
      refine Dv J J J (U_build J J) J J ?_
      refine Dv J J J (U_buildSliceF (by rfl) (by decide) J J J) J J ?_
      refine Da J J J (U_appO (b := 0) (m := 0) (cs' := ([(z, (h + 1) % H)] ++ [(z, (h + H - 1) % H)]).flatMap plcC) (n' := ([(z, (h + 1) % H)] ++ [(z, (h + H - 1) % H)]).length) J J (by simp) J (flat_len (z := 2) (fun _ => J) _) J J (by simp) (appF (f := plcC) _ (z, (h + H - 1) % H)) (len1 _ _)) J J J (upsO J hz1) ?_
      refine Dv J J J (U_assign J) J J ?_
      refine Dr.nil J ?_
      exact joinTo id ⟨eD J J, eD J J, e_ J J, trivial⟩ ⟨rO (flatD (fun _ => J) _) J J, trivial⟩ J J J J (fun _ _ => J)
  refine thenQ_n ?_
  refine W_seq J ?_
  refine Wsr J J ?_
  refine Rv J J J (U_fieldAddrR J) J J ?_
  refine Rv J J J (U_load1 J J J) J J ?_
  refine Rv J J J (U_sub J J (w64 (by omega) (by omega))) J J ?_
  refine Rv J J J (U_fieldAddrR J) J J ?_
  refine Rv J J J (U_load1 J J J) J J ?_
  refine Rv J J J (U_add J J (w64e (m := ((z + 1 : Nat) : Int)) (by omega) (by omega) (by omega))) J J ?_
  refine Rv J J J (U_buildSliceF (by rfl) (by decide) J J J) J J ?_
  refine Rv J J J (U_lenOf J len_ros) J J ?_
  refine Rv J J J (U_move J) J J ?_
  refine Rt J ?_
  refine W_block J ?_
  refine LoopTo (T' := [(0, .rop [i64 ((H : Nat) : Int), i64 ((Z : Nat) : Int), .ros (ls.map boxesL) ls.length c, .ros ((chQ Z H ls).map rowsL) ((chQ Z H ls).length) none] 0), (3, .rop [i64 ((z : Nat) : Int), i64 ((h : Nat) : Int)] 0), (5, .out 0 ([(z, (h + 1) % H)] ++ [(z, (h + H - 1) % H)]).length 2), (62, .ros ((znL z).map i64) 2 (some 2)), (63, i64 2), (64, i64 ((0 : Nat) : Int))]) (H' := [(0, outB (([(z, (h + 1) % H)] ++ [(z, (h + H - 1) % H)]).flatMap plcC) 80 ([(z, (h + 1) % H)] ++ [(z, (h + H - 1) % H)]).length)]) (n := 1) J (fun mz_ qz_ => ∃ (k : Nat) (Q : List (Nat × Nat)), k ≤ 2 ∧ Q = [(z, (h + 1) % H), (z, (h + H - 1) % H)] ++ bsT Z z h k ∧ [(z, (h + 1) % H), (z, (h + H - 1) % H)].length ≤ 2 ∧ mz_ = 2 - k ∧ qz_ = ⟨[(0, .rop [i64 ((H : Nat) : Int), i64 ((Z : Nat) : Int), .ros (ls.map boxesL) ls.length c, .ros ((chQ Z H ls).map rowsL) ((chQ Z H ls).length) none] 0), (3, .rop [i64 ((z : Nat) : Int), i64 ((h : Nat) : Int)] 0), (5, .out 0 Q.length 2), (62, .ros ((znL z).map i64) 2 (some 2)), (63, i64 2), (64, i64 ((k : Nat) : Int))], [(0, outB (Q.flatMap plcC) 80 Q.length)], 1, []⟩) ⟨0, [(z, (h + 1) % H)] ++ [(z, (h + H - 1) % H)], (by omega), (by simp [bsT]), (by simp), J, J⟩ (mapN [1]) ⟨eD J J, eD J J, e_ J J, eD J J, eD J J, eD J J, trivial⟩ ⟨rO (flatD (fun _ => J) _) J J, trivial⟩ J J J J (fun _ h => absurd h (Nat.not_lt_zero _)) ?_
  rintro _ _ ⟨k, Q, hi0_0, hi0_1, hi0_2, rfl, rfl⟩
  have hql : Q.length ≤ 4 := by rw [hi0_1, List.length_append]; have := bsT_le (Z := Z) (z := z) (h := h) (k := k); omega
  refine Wsr J J ?_
  refine Rv J J J (U_lss J J) J J ?_
  refine Rt J ?_
  refine W_seq J ?_
  refine WcondP J J (fun hc2 => ?_) (fun hc2 => ?_)
  · have hck : k < (znL z).length := by simp; omega
    refine W_skip J ?_
    refine thenQ_n ?_
    refine W_seq J ?_
    refine W_block J ?_
    refine Wsr J J ?_
    have hx2 : k < (znL z).length := by omega
    refine Rv J J J (U_indexR (j := k) J J J (by omega)) J J ?_
    refine Rv J J J (U_load1 J J (getM hx2)) J J ?_
    refine Rv J J J (U_assign J) J J ?_
    refine Rt J ?_
    refine Wsr J J ?_
    refine Rv J J J (U_move J) J J ?_
    refine Rv J J J (U_nilCheckR J) J J ?_
    refine Rv J J J (U_fieldAddrR J) J J ?_
    refine Rv J J J (U_fieldAddrR J) J J ?_
    refine Rv J J J (U_load1 J J J) J J ?_
    refine Rv J J J (U_sub J J (w64 (by omega) (by omega))) J J ?_
    refine Rv J J J (U_move J) J J ?_
    refine Rv J J J (U_buildSliceF (by rfl) (by decide) J J J) J J ?_
    refine Rv J J J (U_call J J (within_p 0 (((Z : Nat) : Int) - 1) [(znL z)[k]] (some 1) (by first | assumption | omega | (simp; done) | (simp; omega))) J) J J ?_
    refine Rt J ?_
    refine Wcond J J (fun hc3 => ?_) (fun hc3 => ?_)
    · have hbt := hc3
      obtain ⟨m, hm⟩ : ∃ m : Nat, (znL z)[k] = (m : Int) := ⟨_, (Int.toNat_of_nonneg (inL1b hc3).1).symm⟩
      refine W_reg J ?_
      refine Rv J J J (U_move J) J J ?_
      refine Rv J J J (U_move J) J J ?_
      refine Rv J J J (U_fieldAddrR J) J J ?_
      refine Rv J J J (U_load1 J J J) J J ?_
      refine Rv J J J (U_build J J) J J ?_
      refine Rv J J J (U_buildSliceF (by rfl) (by decide) J J J) J J ?_
      refine Ra J J J (U_appO (b := 0) (m := 0) (cs' := (Q ++ [(m, h)]).flatMap plcC) (n' := (Q ++ [(m, h)]).length) J J (by simp) J (flat_len (z := 2) (fun _ => J) _) J J (by omega) (by rw [hm]; exact appF (f := plcC) Q (m, h)) (len1 _ _)) J J J ?_
      refine Rv J J J (U_assign J) J J ?_
      refine Re J ?_
      refine blkQ_n ?_
      refine thenQ_n ?_
      refine W_reg J ?_
      refine Rv J J J (U_add J J (w64e (m := ((k + 1 : Nat) : Int)) (by omega) (by omega) (by omega))) J J ?_
      refine Rv J J J (U_move J) J J ?_
      refine Rt J ?_
      exact againTo (T' := [(0, .rop [i64 ((H : Nat) : Int), i64 ((Z : Nat) : Int), .ros (ls.map boxesL) ls.length c, .ros ((chQ Z H ls).map rowsL) ((chQ Z H ls).length) none] 0), (3, .rop [i64 ((z : Nat) : Int), i64 ((h : Nat) : Int)] 0), (5, .out 0 (Q ++ [(m, h)]).length 2), (62, .ros ((znL z).map i64) 2 (some 2)), (63, i64 2), (64, i64 (((k + 1) : Nat) : Int))]) (H' := [(0, outB ((Q ++ [(m, h)]).flatMap plcC) 80 (Q ++ [(m, h)]).length)]) (n := 1) (2 - (k + 1)) ⟨k + 1, Q ++ [(m, h)], (by omega), (by first | (rw [bsT_t hz hck hm hbt, hi0_1, List.append_assoc]; done) | (rw [bsT_f hz hck hbt]; exact hi0_1)), (by assumption), J, J⟩ (by omega) (mapN [1]) ⟨eD J J, eD J J, e_ J J, eD J J, eD J J, eD J J, trivial⟩ ⟨rO (flatD (fun _ => J) _) J J, trivial⟩ J J J J (fun _ h => absurd h (Nat.not_lt_zero _))
    · have hc3' := Bool.eq_false_iff.1 hc3
      have hbt := hc3'
      refine W_skip J ?_
      refine blkQ_n ?_
      refine thenQ_n ?_
      refine W_reg J ?_
      refine Rv J J J (U_add J J (w64e (m := ((k + 1 : Nat) : Int)) (by omega) (by omega) (by omega))) J J ?_
      refine Rv J J J (U_move J) J J ?_
      refine Rt J ?_
      exact againTo (T' := [(0, .rop [i64 ((H : Nat) : Int), i64 ((Z : Nat) : Int), .ros (ls.map boxesL) ls.length c, .ros ((chQ Z H ls).map rowsL) ((chQ Z H ls).length) none] 0), (3, .rop [i64 ((z : Nat) : Int), i64 ((h : Nat) : Int)] 0), (5, .out 0 Q.length 2), (62, .ros ((znL z).map i64) 2 (some 2)), (63, i64 2), (64, i64 (((k + 1) : Nat) : Int))]) (H' := [(0, outB (Q.flatMap plcC) 80 Q.length)]) (n := 1) (2 - (k + 1)) ⟨k + 1, Q, (by omega), (by first | (rw [bsT_t hz hck hm hbt, hi0_1, List.append_assoc]; done) | (rw [bsT_f hz hck hbt]; exact hi0_1)), (by assumption), J, J⟩ (by omega) id ⟨eD J J, eD J J, e_ J J, eD J J, eD J J, eD J J, trivial⟩ ⟨rO (flatD (fun _ => J) _) J J, trivial⟩ J J J J (fun _ _ => J)
  · refine W_exit J ?_
    refine thenQ_x ?_
    refine thenQ_x ?_
    refine blkQ_x J ?_
    refine thenQ_n ?_
    refine Wsr J J ?_
    refine Rv J J J (U_move J) J J ?_
    refine Rv J J J (U_assign J) J J ?_
    refine Rt J ?_
    refine WfrO 0 (Q.flatMap plcC) J (flatD (fun _ => J) _) (T' := [(4, .ros (Q.flatMap plcC) Q.length none)]) (H' := []) ⟨fO J, trivial⟩ trivial ?_
    refine W_ret J ?_
    exact retL (rlT J rl0) (by first | rfl | (simp only [packA]; rw [hi0_1, show k = 2 by omega, bsT_2]; unfold bsP; simp only [show 1 < H by omega, show 2 < H by omega, if_true, if_false, List.nil_append, List.append_assoc, List.cons_append]; first | done | rfl)) J
theorem beside_p (H Z : Nat) (ls : List (List Bx)) (c : Option Nat) (z h : Nat) (hH : 1 ≤ H ∧ H ≤ 48) (hz : z < Z) (hZ : Z ≤ 24) (hh : h < H) : Pure Try.prog 102 [.rop [i64 (H : Nat), i64 (Z : Nat), landsA ls c, .ros ((chQ Z H ls).map rowsL) (chQ Z H ls).length none] 0, .agg [i64 (z : Nat), i64 (h : Nat)]] (plcsA (bsP Z H z h) none) := by
  rcases Nat.lt_or_ge 2 H with h2 | h2
  · exact beside3_p H Z ls c z h hH hz hZ hh h2
  · rcases Nat.lt_or_ge 1 H with h1 | h1
    · exact beside2_p H Z ls c z h hH hz hZ hh (by omega)
    · exact beside1_p H Z ls c z h hH hz hZ hh (by omega)
theorem bsP_in {Z H z h : Nat} (hz : z < Z) (hh : h < H) : ∀ p ∈ bsP Z H z h, p.1 < Z ∧ p.2 < H := by
  intro p hp
  have h1 := Nat.mod_lt (h + 1) (show 0 < H by omega)
  have h2 := Nat.mod_lt (h + H - 1) (show 0 < H by omega)
  simp only [bsP, List.mem_append] at hp
  rcases hp with ((hp | hp) | hp) | hp <;> (split at hp <;> simp only [List.mem_singleton, List.not_mem_nil] at hp) <;> (subst hp; simp only; omega)
theorem bsP_len {Z H z h : Nat} : (bsP Z H z h).length ≤ 4 := by
  simp only [bsP, List.length_append]
  repeat' split
  all_goals simp
end Go.Proofs.Ythlolelbmhfdbaa
end

section
namespace Go.Proofs.Ythlolelbmhfdbaa
set_option maxRecDepth 20000
open Go.AE
theorem plcQ_in {Z H : Nat} {p : Nat × Nat} (h : p ∈ plcQ Z H) : p.1 < Z ∧ p.2 < H := by
  obtain ⟨i, hi, rfl⟩ := List.mem_map.1 h
  have hi := List.mem_range.1 hi
  have hH : 0 < H := by rcases Nat.eq_zero_or_pos H with e | e; subst e; omega; exact e
  exact ⟨Nat.div_lt_of_lt_mul (by rw [Nat.mul_comm]; exact hi), Nat.mod_lt _ hH⟩
theorem bitQ_le {l : List Bx} {H z h : Nat} : bitQ l H z h ≤ 1 := by unfold bitQ; split <;> omega
theorem sum_le {α : Type} {f : α → Nat} {m : Nat} : ∀ {l : List α}, (∀ x ∈ l, f x ≤ m) → (l.map f).sum ≤ l.length * m
  | [], _ => by simp
  | a :: l, h => by
    have h1 := h a (by simp)
    have h2 := sum_le (l := l) fun x hx => h x (List.mem_cons_of_mem _ hx)
    rw [List.map_cons, List.sum_cons, List.length_cons, Nat.add_mul]; omega
theorem sum_snoc {α : Type} {f : α → Nat} {l : List α} {k : Nat} (hk : k < l.length) : ((l.take (k + 1)).map f).sum = ((l.take k).map f).sum + f l[k] := by
  rw [List.take_succ_eq_append_getElem hk, List.map_append, List.sum_append]; simp
def nbQ (Z H : Nat) (l : List Bx) (z h : Nat) : Nat := ((bsP Z H z h).map fun q => bitQ l H q.1 q.2).sum
theorem nbQ_le {Z H : Nat} {l : List Bx} {z h : Nat} : nbQ Z H l z h ≤ 4 := by
  have := sum_le (f := fun q : Nat × Nat => bitQ l H q.1 q.2) (m := 1) (l := bsP Z H z h) fun _ _ => bitQ_le
  have h2 := bsP_len (Z := Z) (H := H) (z := z) (h := h)
  unfold nbQ; omega
def brK (Z H : Nat) (la lb : List Bx) (i : Nat) : Nat := (((plcQ Z H).take i).map fun p => bitQ la H p.1 p.2 * nbQ Z H lb p.1 p.2).sum
def brQ (Z H : Nat) (la lb : List Bx) : Nat := ((plcQ Z H).map fun p => bitQ la H p.1 p.2 * nbQ Z H lb p.1 p.2).sum
theorem brK_le {Z H : Nat} {la lb : List Bx} {i : Nat} : brK Z H la lb i ≤ i * 4 := by
  have := sum_le (f := fun p : Nat × Nat => bitQ la H p.1 p.2 * nbQ Z H lb p.1 p.2) (m := 4) (l := (plcQ Z H).take i) fun p _ => by
    have h1 := bitQ_le (l := la) (H := H) (z := p.1) (h := p.2); have h2 := nbQ_le (Z := Z) (H := H) (l := lb) (z := p.1) (h := p.2)
    exact Nat.le_trans (Nat.mul_le_mul h1 h2) (by omega)
  have h2 : ((plcQ Z H).take i).length ≤ i := by simp; omega
  unfold brK
  have := Nat.mul_le_mul_right 4 h2; omega
theorem brK_0 {Z H i : Nat} {la lb : List Bx} (hi : i < (plcQ Z H).length) (e : bitQ la H (plcQ Z H)[i].1 (plcQ Z H)[i].2 = 0) : brK Z H la lb (i + 1) = brK Z H la lb i := by
  unfold brK; rw [sum_snoc hi, e]; simp
theorem brK_1 {Z H i : Nat} {la lb : List Bx} (hi : i < (plcQ Z H).length) (e : bitQ la H (plcQ Z H)[i].1 (plcQ Z H)[i].2 ≠ 0) : brK Z H la lb (i + 1) = brK Z H la lb i + nbQ Z H lb (plcQ Z H)[i].1 (plcQ Z H)[i].2 := by
  have := bitQ_le (l := la) (H := H) (z := (plcQ Z H)[i].1) (h := (plcQ Z H)[i].2)
  unfold brK; rw [sum_snoc hi, show bitQ la H (plcQ Z H)[i].1 (plcQ Z H)[i].2 = 1 by omega]; simp
theorem brK_all {Z H : Nat} {la lb : List Bx} : brK Z H la lb (plcQ Z H).length = brQ Z H la lb := by rw [brK, List.take_length]; rfl
theorem border_p (H Z : Nat) (ls : List (List Bx)) (c : Option Nat) (a b : Nat) (ha : a < ls.length) (hb : b < ls.length) (hH : 1 ≤ H ∧ H ≤ 48) (hZ : Z ≤ 24) : Pure Try.prog 80 [.rop [i64 (H : Nat), i64 (Z : Nat), landsA ls c, .ros ((chQ Z H ls).map rowsL) (chQ Z H ls).length none] 0, i64 (a : Nat), i64 (b : Nat)] (i64 ((brQ Z H ls[a] ls[b] : Nat) : Int)) := by
  refine pure_of_body Try.func80 (c := body Try.f80) J (by simp [Try.ntmps80]) fun w0 Φ0 => ?_
  refine Wsr J J ?_
  refine Rv J J J (U_boxF J J J) J J ?_
  refine Rv J J J (U_boxF J J J) J J ?_
  refine Rv J J J (U_boxF J J J) J J ?_
  refine Rv J J J (U_assign J) J J ?_
  refine Rt J ?_
  refine Wsr J J ?_
  refine Ra J J J (U_alloc) J J J ?_
  refine Rn J J J (U_store1 J J J J) J ?_
  refine Rt J ?_
  refine W_seq J ?_
  refine Wsr J J ?_
  refine Rv J J J (U_load1 J J J) J J ?_
  refine Rv J J J (U_call J J (places_p H Z ls c) J) J J ?_
  refine Rt J ?_
  refine W_block J ?_
  refine W_rangeI (T' := [(3, .rop [.rop [i64 ((H : Nat) : Int), i64 ((Z : Nat) : Int), .ros (ls.map boxesL) ls.length c, .ros ((chQ Z H ls).map rowsL) ((chQ Z H ls).length) none] 0] 0), (4, .rop [i64 ((a : Nat) : Int)] 0), (5, .rop [i64 ((b : Nat) : Int)] 0), (7, .ptr 0 0), (12, .fn 101 [] [.rop [.rop [i64 ((H : Nat) : Int), i64 ((Z : Nat) : Int), .ros (ls.map boxesL) ls.length c, .ros ((chQ Z H ls).map rowsL) ((chQ Z H ls).length) none] 0] 0])]) (n := 1) J J (places_it H Z ls c hH hZ) (fun i => [(0, some (.cells [i64 ((brK Z H ls[a] ls[b] i : Nat) : Int)] 3))]) ⟨eD J J, eD J J, eD J J, e_ J J, eD J J, trivial⟩ ⟨rD J J J, trivial⟩ J J J J J (fun i => ⟨rD J J J, trivial⟩) ?_ ?_
  · intro i x_ hx_ C_ hC_ N_ hN_
    obtain ⟨hi_, rfl⟩ := mapAt hx_
    have hpz := plcQ_in (List.getElem_mem hi_)
    have hil : i < (plcQ Z H).length := hi_
    have hilen := plcQ_len (Z := Z) (H := H)
    have hZH : Z * H ≤ 1152 := Nat.mul_le_mul hZ hH.2
    have hbk := brK_le (Z := Z) (H := H) (la := ls[a]) (lb := ls[b]) (i := i)
    have hbs := bsP_len (Z := Z) (H := H) (z := (plcQ Z H)[i].1) (h := (plcQ Z H)[i].2)
    obtain ⟨_, w0_, Wr_, Φ0_, ro_, nt_, k0_, ρ0_⟩ := C_
    have hC2_ : _ = Try.prog := hC_
    subst hC2_
    intro ρ_ Φ_ w_ lc_
    refine W_reg J ?_
    refine Ra J J J (U_alloc) J J J ?_
    refine Rn J J J (U_storeAll J J J J J J) J ?_
    refine Re J ?_
    refine ⟨rfl, ?_⟩
    refine W_block J ?_
    refine W_seq J ?_
    refine Wsr J J ?_
    refine Rv J J J (U_load1 J J J) J J ?_
    refine Rv J J J (U_load1 J J J) J J ?_
    refine Rv J J J (U_load2 J J J J) J J ?_
    refine Rv J J J (U_call J J (in_p H Z ls c a (((plcQ Z H)[i]).1) (((plcQ Z H)[i]).2) (by omega) (by omega) (by omega)) J) J J ?_
    refine Rv J J J (U_eql J J) J J ?_
    refine Rt J ?_
    refine WcondP J J (fun hc0 => ?_) (fun hc0 => ?_)
    · refine W_exit J ?_
      refine thenQ_x ?_
      refine blkQ_x J ?_
      refine ⟨rfl, ?_⟩
      exact hN_ _ _ ⟨(rD rfl (by first | (rw [brK_0 hi_ (by omega)]; rfl) | (rw [brK_1 hi_ (by omega), nbQ, ← hend]; rfl)) rfl), trivial⟩
    · refine W_skip J ?_
      refine thenQ_n ?_
      refine Wsr J J ?_
      refine Rv J J J (U_load1 J J J) J J ?_
      refine Rv J J J (U_load2 J J J J) J J ?_
      refine Rv J J J (U_call J J (beside_p H Z ls c (((plcQ Z H)[i]).1) (((plcQ Z H)[i]).2) (by omega) (by omega) (by omega) (by omega)) J) J J ?_
      refine Rv J J J (U_lenOf J len_ros) J J ?_
      refine Rv J J J (U_move J) J J ?_
      refine Rt J ?_
      refine W_block J ?_
      refine LoopTo (T' := [(3, .rop [.rop [i64 ((H : Nat) : Int), i64 ((Z : Nat) : Int), .ros (ls.map boxesL) ls.length c, .ros ((chQ Z H ls).map rowsL) ((chQ Z H ls).length) none] 0] 0), (5, .rop [i64 ((b : Nat) : Int)] 0), (7, .ptr 0 0), (21, .ros ((bsP Z H (((plcQ Z H)[i]).1) (((plcQ Z H)[i]).2)).flatMap plcC) ((bsP Z H (((plcQ Z H)[i]).1) (((plcQ Z H)[i]).2)).length) none), (22, i64 (((bsP Z H (((plcQ Z H)[i]).1) (((plcQ Z H)[i]).2)).length : Nat) : Int)), (23, i64 ((0 : Nat) : Int))]) (H' := [(0, some (.cells [i64 (((brK Z H ls[a] ls[b] i) : Nat) : Int)] 3)), (2, some (.loop .busy none [(3, .rop [.rop [i64 ((H : Nat) : Int), i64 ((Z : Nat) : Int), .ros (ls.map boxesL) ls.length c, .ros ((chQ Z H ls).map rowsL) ((chQ Z H ls).length) none] 0] 0), (4, .rop [i64 ((a : Nat) : Int)] 0), (5, .rop [i64 ((b : Nat) : Int)] 0), (7, .ptr 0 0), (12, .fn 101 [] [.rop [.rop [i64 ((H : Nat) : Int), i64 ((Z : Nat) : Int), .ros (ls.map boxesL) ls.length c, .ros ((chQ Z H ls).map rowsL) ((chQ Z H ls).length) none] 0] 0])] Try.f80.ntmps _ _ _ 1))]) (n := 3) J (fun mz_ qz_ => ∃ (k : Nat) (S : Nat), k ≤ (bsP Z H (plcQ Z H)[i].1 (plcQ Z H)[i].2).length ∧ (S = brK Z H ls[a] ls[b] i + (((bsP Z H (plcQ Z H)[i].1 (plcQ Z H)[i].2).take k).map fun q => bitQ ls[b] H q.1 q.2).sum) ∧ S ≤ brK Z H ls[a] ls[b] i + k ∧ mz_ = (bsP Z H (plcQ Z H)[i].1 (plcQ Z H)[i].2).length - k ∧ qz_ = ⟨[(3, .rop [.rop [i64 ((H : Nat) : Int), i64 ((Z : Nat) : Int), .ros (ls.map boxesL) ls.length c, .ros ((chQ Z H ls).map rowsL) ((chQ Z H ls).length) none] 0] 0), (5, .rop [i64 ((b : Nat) : Int)] 0), (7, .ptr 0 0), (21, .ros ((bsP Z H (((plcQ Z H)[i]).1) (((plcQ Z H)[i]).2)).flatMap plcC) ((bsP Z H (((plcQ Z H)[i]).1) (((plcQ Z H)[i]).2)).length) none), (22, i64 (((bsP Z H (((plcQ Z H)[i]).1) (((plcQ Z H)[i]).2)).length : Nat) : Int)), (23, i64 ((k : Nat) : Int))], [(0, some (.cells [i64 ((S : Nat) : Int)] 3)), (2, some (.loop .busy none [(3, .rop [.rop [i64 ((H : Nat) : Int), i64 ((Z : Nat) : Int), .ros (ls.map boxesL) ls.length c, .ros ((chQ Z H ls).map rowsL) ((chQ Z H ls).length) none] 0] 0), (4, .rop [i64 ((a : Nat) : Int)] 0), (5, .rop [i64 ((b : Nat) : Int)] 0), (7, .ptr 0 0), (12, .fn 101 [] [.rop [.rop [i64 ((H : Nat) : Int), i64 ((Z : Nat) : Int), .ros (ls.map boxesL) ls.length c, .ros ((chQ Z H ls).map rowsL) ((chQ Z H ls).length) none] 0] 0])] Try.f80.ntmps _ _ _ 1))], 3, []⟩) ⟨0, brK Z H ls[a] ls[b] i, (by omega), (by simp), (by omega), J, J⟩ id ⟨eD J J, eD J J, e_ J J, eD J J, eD J J, eD J J, trivial⟩ ⟨rD J J J, r_ J J J, trivial⟩ J J J J (fun _ _ => J) ?_
      rintro _ _ ⟨k, S, hi0_0, hi0_1, hi0_2, rfl, rfl⟩
      refine Wsr J J ?_
      refine Rv J J J (U_lss J J) J J ?_
      refine Rt J ?_
      refine W_seq J ?_
      refine WcondP J J (fun hc1 => ?_) (fun hc1 => ?_)
      · have hck : k < (bsP Z H (plcQ Z H)[i].1 (plcQ Z H)[i].2).length := by omega
        have hbp := bsP_in hpz.1 hpz.2 _ (List.getElem_mem hck)
        have hbq := bitQ_le (l := ls[b]) (H := H) (z := (bsP Z H (plcQ Z H)[i].1 (plcQ Z H)[i].2)[k].1) (h := (bsP Z H (plcQ Z H)[i].1 (plcQ Z H)[i].2)[k].2)
        refine W_skip J ?_
        refine thenQ_n ?_
        refine W_seq J ?_
        refine W_block J ?_
        refine Wsr J J ?_
        have hx1 : k < (bsP Z H (((plcQ Z H)[i]).1) (((plcQ Z H)[i]).2)).length := by omega
        refine Rv J J J (U_indexR (j := k) J J J hx1) J J ?_
        refine Rv J J J (U_load2 J J (pcG0 hx1) (pcG1 hx1)) J J ?_
        refine Ra J J J (U_alloc) J J J ?_
        refine Rn J J J (U_storeAll J J J J J J) J ?_
        refine Rt J ?_
        refine WfrN 3 J J (T' := [(3, .rop [.rop [i64 ((H : Nat) : Int), i64 ((Z : Nat) : Int), .ros (ls.map boxesL) ls.length c, .ros ((chQ Z H ls).map rowsL) ((chQ Z H ls).length) none] 0] 0), (5, .rop [i64 ((b : Nat) : Int)] 0), (7, .ptr 0 0), (10, .rop [i64 ((((bsP Z H (((plcQ Z H)[i]).1) (((plcQ Z H)[i]).2))[k]).1 : Nat) : Int), i64 ((((bsP Z H (((plcQ Z H)[i]).1) (((plcQ Z H)[i]).2))[k]).2 : Nat) : Int)] 0), (21, .ros ((bsP Z H (((plcQ Z H)[i]).1) (((plcQ Z H)[i]).2)).flatMap plcC) ((bsP Z H (((plcQ Z H)[i]).1) (((plcQ Z H)[i]).2)).length) none), (22, i64 (((bsP Z H (((plcQ Z H)[i]).1) (((plcQ Z H)[i]).2)).length : Nat) : Int)), (23, i64 ((k : Nat) : Int))]) (H' := [(0, some (.cells [i64 ((S : Nat) : Int)] 3)), (2, some (.loop .busy none [(3, .rop [.rop [i64 ((H : Nat) : Int), i64 ((Z : Nat) : Int), .ros (ls.map boxesL) ls.length c, .ros ((chQ Z H ls).map rowsL) ((chQ Z H ls).length) none] 0] 0), (4, .rop [i64 ((a : Nat) : Int)] 0), (5, .rop [i64 ((b : Nat) : Int)] 0), (7, .ptr 0 0), (12, .fn 101 [] [.rop [.rop [i64 ((H : Nat) : Int), i64 ((Z : Nat) : Int), .ros (ls.map boxesL) ls.length c, .ros ((chQ Z H ls).map rowsL) ((chQ Z H ls).length) none] 0] 0])] Try.f80.ntmps _ _ _ 1))]) ⟨⟨_, J, J⟩, ⟨_, J, J⟩, ⟨_, J, J⟩, ⟨_, J, J⟩, ⟨_, J, J⟩, ⟨_, J, J⟩, ⟨_, J, J⟩, trivial⟩ ⟨⟨J, rF J J⟩, ⟨J, rF J J⟩, trivial⟩ ?_
        refine Wdraw J (by kernel_rfl) (by kernel_rfl) ?_
        refine Dv J J J (U_load1 J J J) J J ?_
        refine Dv J J J (U_load1 J J J) J J ?_
        refine Dv J J J (U_load1 J J J) J J ?_
        refine Dv J J J (U_load2 J J J J) J J ?_
        refine Dv J J J (U_call J J (in_p H Z ls c b (((bsP Z H (((plcQ Z H)[i]).1) (((plcQ Z H)[i]).2))[k]).1) (((bsP Z H (((plcQ Z H)[i]).1) (((plcQ Z H)[i]).2))[k]).2) (by omega) (by omega) (by omega)) J) J J ?_
        refine Dv J J J (U_add J J (w64e (m := ((S + bitQ ls[b] H (((bsP Z H (((plcQ Z H)[i]).1) (((plcQ Z H)[i]).2))[k]).1) (((bsP Z H (((plcQ Z H)[i]).1) (((plcQ Z H)[i]).2))[k]).2) : Nat) : Int)) (by omega) (by omega) (by omega))) J J ?_
        refine Dn_ J J J (U_store1 J J J J) J J ?_
        refine Dr.nil J ?_
        refine blkQ_n ?_
        refine thenQ_n ?_
        refine W_reg J ?_
        refine Rv J J J (U_add J J (w64e (m := ((k + 1 : Nat) : Int)) (by omega) (by omega) (by omega))) J J ?_
        refine Rv J J J (U_move J) J J ?_
        refine Rt J ?_
        exact againTo (T' := [(3, .rop [.rop [i64 ((H : Nat) : Int), i64 ((Z : Nat) : Int), .ros (ls.map boxesL) ls.length c, .ros ((chQ Z H ls).map rowsL) ((chQ Z H ls).length) none] 0] 0), (5, .rop [i64 ((b : Nat) : Int)] 0), (7, .ptr 0 0), (21, .ros ((bsP Z H (((plcQ Z H)[i]).1) (((plcQ Z H)[i]).2)).flatMap plcC) ((bsP Z H (((plcQ Z H)[i]).1) (((plcQ Z H)[i]).2)).length) none), (22, i64 (((bsP Z H (((plcQ Z H)[i]).1) (((plcQ Z H)[i]).2)).length : Nat) : Int)), (23, i64 (((k + 1) : Nat) : Int))]) (H' := [(0, some (.cells [i64 (((S + bitQ ls[b] H (((bsP Z H (((plcQ Z H)[i]).1) (((plcQ Z H)[i]).2))[k]).1) (((bsP Z H (((plcQ Z H)[i]).1) (((plcQ Z H)[i]).2))[k]).2)) : Nat) : Int)] 3)), (2, some (.loop .busy none [(3, .rop [.rop [i64 ((H : Nat) : Int), i64 ((Z : Nat) : Int), .ros (ls.map boxesL) ls.length c, .ros ((chQ Z H ls).map rowsL) ((chQ Z H ls).length) none] 0] 0), (4, .rop [i64 ((a : Nat) : Int)] 0), (5, .rop [i64 ((b : Nat) : Int)] 0), (7, .ptr 0 0), (12, .fn 101 [] [.rop [.rop [i64 ((H : Nat) : Int), i64 ((Z : Nat) : Int), .ros (ls.map boxesL) ls.length c, .ros ((chQ Z H ls).map rowsL) ((chQ Z H ls).length) none] 0] 0])] Try.f80.ntmps _ _ _ 1))]) (n := 3) ((bsP Z H (plcQ Z H)[i].1 (plcQ Z H)[i].2).length - (k + 1)) ⟨k + 1, S + bitQ ls[b] H (((bsP Z H (((plcQ Z H)[i]).1) (((plcQ Z H)[i]).2))[k]).1) (((bsP Z H (((plcQ Z H)[i]).1) (((plcQ Z H)[i]).2))[k]).2), (by omega), (by rw [sum_snoc hck, ← Nat.add_assoc, ← hi0_1]), (by have := bitQ_le (l := ls[b]) (H := H) (z := (bsP Z H (plcQ Z H)[i].1 (plcQ Z H)[i].2)[k].1) (h := (bsP Z H (plcQ Z H)[i].1 (plcQ Z H)[i].2)[k].2); omega), J, J⟩ (by omega) id ⟨eD J J, eD J J, e_ J J, eD J J, eD J J, eD J J, trivial⟩ ⟨rD J J J, r_ J J J, trivial⟩ J J J J (fun _ _ => J)
      · have hend : S = brK Z H ls[a] ls[b] i + ((bsP Z H (plcQ Z H)[i].1 (plcQ Z H)[i].2).map fun q => bitQ ls[b] H q.1 q.2).sum := by rw [hi0_1, List.take_of_length_le (by omega)]
        refine W_exit J ?_
        refine thenQ_x ?_
        refine thenQ_x ?_
        refine blkQ_x J ?_
        refine blkQ_n ?_
        refine ⟨rfl, ?_⟩
        exact hN_ _ _ ⟨(rD rfl (by first | (rw [brK_0 hi_ (by omega)]; rfl) | (rw [brK_1 hi_ (by omega), nbQ, ← hend]; rfl)) rfl), trivial⟩
  rw [List.length_map]
  refine blkQ_n ?_
  refine thenQ_n ?_
  refine Wsr J J ?_
  refine Rv J J J (U_load1 J J J) J J ?_
  refine Rv J J J (U_assign J) J J ?_
  refine Rt J ?_
  refine W_ret J ?_
  exact retL (rlT J rl0) (by first | rfl | (simp only [packA]; rw [brK_all]; first | done | rfl)) J
end Go.Proofs.Ythlolelbmhfdbaa
end

section
namespace Go.Proofs.Ythlolelbmhfdbaa
set_option maxRecDepth 20000
open Go.AE
instance eq112 : TyEq Try.prog 112 (List.replicate 48 .i64) := ⟨by kernel_rfl, by kernel_rfl, by kernel_rfl⟩
def rowV (n : Nat) (r : Row) : List Int := (List.range n).map r
theorem rowV_len {n : Nat} {r : Row} : (rowV n r).length = n := by simp [rowV]
theorem rowV_get {n h : Nat} {r : Row} (hh : h < (rowV n r).length) : (rowV n r)[h] = r h := by simp [rowV]
theorem rowsLe {n k : Nat} {L : List Row} (hk : k < L.length) : k * n + n ≤ (L.flatMap (rowC n)).length := by
  rw [flat_len (z := n) (fun _ => rowC_len)]
  have := Nat.mul_le_mul_right n (show k + 1 ≤ L.length by omega)
  rw [Nat.add_mul] at this; omega
theorem rowLd {n : Nat} : ∀ {L : List Row} {k : Nat} (hk : k < L.length), ((L.flatMap (rowC n)).drop (k * n)).take n = (rowV n L[k]).map i64
  | [], k, hk => by simp at hk
  | r :: L, 0, _ => by
    rw [List.flatMap_cons, Nat.zero_mul, List.drop_zero, List.take_append_of_le_length (by rw [rowC_len]; exact Nat.le_refl _), List.take_of_length_le (by rw [rowC_len]; exact Nat.le_refl _)]
    simp [rowC, rowV]
  | r :: L, k + 1, hk => by
    rw [List.flatMap_cons, show (k + 1) * n = (rowC n r).length + k * n by rw [rowC_len, Nat.add_mul]; omega, List.drop_length_add_append]
    exact rowLd (by simpa using hk)
def metQ (Z H : Nat) (la lb : List Bx) : Bool := (plcQ Z H).any fun p => inL' la H p.1 p.2 && inL' lb H p.1 p.2
def nrQ (Z H : Nat) (la lb : List Bx) : Bool := metQ Z H la lb || decide (0 < brQ Z H la lb)
theorem plc_mem {Z H z h : Nat} (hz : z < Z) (hh : h < H) : (z, h) ∈ plcQ Z H := by
  have h1 : z * H + h < Z * H := by
    have := Nat.mul_le_mul_right H (show z + 1 ≤ Z by omega)
    rw [Nat.add_mul] at this; omega
  have e1 : (z * H + h) / H = z := by rw [Nat.add_comm, Nat.add_mul_div_right _ _ (by omega), Nat.div_eq_of_lt hh, Nat.zero_add]
  have e2 : (z * H + h) % H = h := by rw [Nat.add_comm, Nat.add_mul_mod_self_right, Nat.mod_eq_of_lt hh]
  exact List.mem_map.2 ⟨z * H + h, List.mem_range.2 h1, by rw [e1, e2]⟩
theorem met_true {Z H z h : Nat} {la lb : List Bx} (hz : z < Z) (hh : h < H) (e1 : inL' la H z h = true) (e2 : inL' lb H z h = true) : metQ Z H la lb = true :=
  List.any_eq_true.2 ⟨_, plc_mem hz hh, by rw [e1, e2]; rfl⟩
theorem met_false {Z H : Nat} {la lb : List Bx} (h : ∀ z h, z < Z → h < H → ¬ (inL' la H z h = true ∧ inL' lb H z h = true)) : metQ Z H la lb = false := by
  refine List.any_eq_false.2 fun p hp => ?_
  have := plcQ_in hp
  simpa using fun e1 e2 => h p.1 p.2 this.1 this.2 ⟨e1, e2⟩
theorem row_bit {Z H z h a : Nat} {ls : List (List Bx)} (ha : a < (chQ Z H ls).length) (hz : z < (chQ Z H ls)[a].length) (hh : h < (rowV 48 (chQ Z H ls)[a][z]).length) : (rowV 48 (chQ Z H ls)[a][z])[h] = if inL' (ls[a]'(by rw [chQ_len] at ha; exact ha)) H z h = true then 1 else 0 := by
  rw [rowV_get, row_val (chQ_get ha)]
theorem row_zero {Z H z h a : Nat} {ls : List (List Bx)} (ha : a < (chQ Z H ls).length) (hz : z < (chQ Z H ls)[a].length) (hh : h < 48) (e : rowV 48 (chQ Z H ls)[a][z] = List.replicate 48 0) : ¬ inL' (ls[a]'(by rw [chQ_len] at ha; exact ha)) H z h = true := by
  intro h2
  have h3 := row_bit ha hz (h := h) (by rw [rowV_len]; exact hh)
  rw [if_pos h2] at h3
  have h4 : (rowV 48 (chQ Z H ls)[a][z])[h]'(by rw [rowV_len]; exact hh) = 0 := by
    rw [List.getElem_of_eq e]; exact List.getElem_replicate _
  omega
theorem near_p (H Z : Nat) (ls : List (List Bx)) (c : Option Nat) (a b : Nat) (ha : a < ls.length) (hb : b < ls.length) (hH : 1 ≤ H ∧ H ≤ 48) (hZ : Z ≤ 24) : Pure Try.prog 82 [.rop [i64 (H : Nat), i64 (Z : Nat), landsA ls c, .ros ((chQ Z H ls).map rowsL) (chQ Z H ls).length none] 0, i64 (a : Nat), i64 (b : Nat)] (.bool (nrQ Z H ls[a] ls[b])) := by
  have hcl := chQ_len (Z := Z) (H := H) (ls := ls)
  have hca : a < (chQ Z H ls).length := by omega
  have hcb : b < (chQ Z H ls).length := by omega
  refine pure_of_body Try.func82 (c := body Try.f82) J (by simp [Try.ntmps82]) fun w0 Φ0 => ?_
  refine Wsr J J ?_
  refine Rv J J J (U_assign J) J J ?_
  refine Rt J ?_
  refine W_scope J ?_
  refine W_seq J ?_
  refine W_label J ?_
  refine thenQ_n ?_
  refine W_seq J ?_
  refine Wsr J J ?_
  refine Rv J J J (U_move J) J J ?_
  refine Rv J J J (U_nilCheckR J) J J ?_
  refine Rv J J J (U_fieldAddrR J) J J ?_
  refine Rv J J J (U_fieldAddrR J) J J ?_
  refine Rv J J J (U_load1 J J J) J J ?_
  refine Rv J J J (U_move J) J J ?_
  refine Rt J ?_
  refine W_block J ?_
  refine LoopTo (T' := [(0, .rop [i64 ((H : Nat) : Int), i64 ((Z : Nat) : Int), .ros (ls.map boxesL) ls.length c, .ros ((chQ Z H ls).map rowsL) ((chQ Z H ls).length) none] 0), (1, i64 ((a : Nat) : Int)), (2, i64 ((b : Nat) : Int)), (15, i64 ((Z : Nat) : Int)), (16, i64 ((0 : Nat) : Int))]) (H' := []) (n := 0) J (fun mz_ qz_ => ∃ (k : Nat), k ≤ Z ∧ ((∀ z h, z < k → h < H → ¬ (inL' ls[a] H z h = true ∧ inL' ls[b] H z h = true))) ∧ mz_ = Z - k ∧ qz_ = ⟨[(0, .rop [i64 ((H : Nat) : Int), i64 ((Z : Nat) : Int), .ros (ls.map boxesL) ls.length c, .ros ((chQ Z H ls).map rowsL) ((chQ Z H ls).length) none] 0), (1, i64 ((a : Nat) : Int)), (2, i64 ((b : Nat) : Int)), (15, i64 ((Z : Nat) : Int)), (16, i64 ((k : Nat) : Int))], [], 0, []⟩) ⟨0, (by omega), (fun z h hz => absurd hz (Nat.not_lt_zero _)), J, J⟩ id ⟨eD J J, eD J J, eD J J, eD J J, eD J J, trivial⟩ trivial J J J J (fun _ _ => J) ?_
  rintro _ _ ⟨k, hi0_0, hi0_1, rfl, rfl⟩
  refine Wsr J J ?_
  refine Rv J J J (U_lss J J) J J ?_
  refine Rt J ?_
  refine W_seq J ?_
  refine WcondP J J (fun hc0 => ?_) (fun hc0 => ?_)
  · have hck : k < Z := by omega
    have hza : (chQ Z H ls)[a].length = Z := by rw [chQ_get hca, rowsP_len]
    have hzb : (chQ Z H ls)[b].length = Z := by rw [chQ_get hcb, rowsP_len]
    have hva : (rowV 48 (chQ Z H ls)[a][k]).length = 48 := rowV_len
    have hvb : (rowV 48 (chQ Z H ls)[b][k]).length = 48 := rowV_len
    refine W_skip J ?_
    refine thenQ_n ?_
    refine W_seq J ?_
    refine W_block J ?_
    refine Wsr J J ?_
    refine Rv J J J (U_move J) J J ?_
    refine Rv J J J (U_assign J) J J ?_
    refine Rt J ?_
    refine W_seq J ?_
    refine WdrawL [22, 25, 28, 32, 35, 38] J (by kernel_rfl) (by kernel_rfl) ?_
    refine Dv J J J (U_move J) J J ?_
    refine Dv J J J (U_nilCheckR J) J J ?_
    refine Dv J J J (U_fieldAddrR J) J J ?_
    refine Dv J J J (U_load1 J J J) J J ?_
    refine Dv J J J (U_move J) J J ?_
    have hx1 : a < (chQ Z H ls).length := by omega
    refine Dv J J J (U_indexR (j := a) J J J (by omega)) J J ?_
    refine Dv J J J (U_load1 J J (getM hx1)) J J ?_
    refine Dv J J J (U_move J) J J ?_
    have hx2 : k < ((chQ Z H ls)[a]).length := by omega
    refine Dv J J J (U_indexR (j := k) J J J hx2) J J ?_
    refine Dv J J J (U_loadA J J (rowsLe hx2) (rowLd hx2)) J J ?_
    refine Dv J J J (U_move J) J J ?_
    refine Dv J J J (U_nilCheckR J) J J ?_
    refine Dv J J J (U_fieldAddrR J) J J ?_
    refine Dv J J J (U_load1 J J J) J J ?_
    refine Dv J J J (U_move J) J J ?_
    have hx3 : b < (chQ Z H ls).length := by omega
    refine Dv J J J (U_indexR (j := b) J J J (by omega)) J J ?_
    refine Dv J J J (U_load1 J J (getM hx3)) J J ?_
    refine Dv J J J (U_move J) J J ?_
    have hx4 : k < ((chQ Z H ls)[b]).length := by omega
    refine Dv J J J (U_indexR (j := k) J J J hx4) J J ?_
    refine Dv J J J (U_loadA J J (rowsLe hx4) (rowLd hx4)) J J ?_
    refine Da J J J (U_alloc) J J J J ?_
    refine Da J J J (U_alloc) J J J J ?_
    refine Dn_ J J J (U_storeAll J J J (by simp; omega) J (allOne (fun _ => J) _)) J J ?_
    refine Dn_ J J J (U_storeAll J J J (by simp; omega) J (allOne (fun _ => J) _)) J J ?_
    refine Dr.nil J ?_
    refine thenQ_n ?_
    refine WfrN 0 J (mapD (fun _ => J) _) (T' := [(0, .rop [i64 ((H : Nat) : Int), i64 ((Z : Nat) : Int), .ros (ls.map boxesL) ls.length c, .ros ((chQ Z H ls).map rowsL) ((chQ Z H ls).length) none] 0), (1, i64 ((a : Nat) : Int)), (2, i64 ((b : Nat) : Int)), (8, .rop ((rowV 48 ((chQ Z H ls)[a])[k]).map i64) 0), (9, .ptr 1 0), (15, i64 ((Z : Nat) : Int)), (16, i64 ((k : Nat) : Int))]) (H' := [(1, some (.cells ((rowV 48 ((chQ Z H ls)[b])[k]).map i64) 112))]) ⟨⟨_, J, J⟩, ⟨_, J, J⟩, ⟨_, J, J⟩, ⟨_, J, J⟩, ⟨_, J, J⟩, ⟨_, J, J⟩, ⟨_, J, J⟩, trivial⟩ ⟨⟨J, rFD (mapD (fun _ => J) _) J⟩, trivial⟩ ?_
    refine WfrN 1 J (mapD (fun _ => J) _) (T' := [(0, .rop [i64 ((H : Nat) : Int), i64 ((Z : Nat) : Int), .ros (ls.map boxesL) ls.length c, .ros ((chQ Z H ls).map rowsL) ((chQ Z H ls).length) none] 0), (1, i64 ((a : Nat) : Int)), (2, i64 ((b : Nat) : Int)), (8, .rop ((rowV 48 ((chQ Z H ls)[a])[k]).map i64) 0), (9, .rop ((rowV 48 ((chQ Z H ls)[b])[k]).map i64) 0), (15, i64 ((Z : Nat) : Int)), (16, i64 ((k : Nat) : Int))]) (H' := []) ⟨⟨_, J, J⟩, ⟨_, J, J⟩, ⟨_, J, J⟩, ⟨_, J, J⟩, ⟨_, J, J⟩, ⟨_, J, J⟩, ⟨_, J, J⟩, trivial⟩ trivial ?_
    refine W_seq J ?_
    refine W_seq J ?_
    refine Wjoin ⟨[(0, .rop [i64 ((H : Nat) : Int), i64 ((Z : Nat) : Int), .ros (ls.map boxesL) ls.length c, .ros ((chQ Z H ls).map rowsL) ((chQ Z H ls).length) none] 0), (1, i64 ((a : Nat) : Int)), (2, i64 ((b : Nat) : Int)), (8, .rop ((rowV 48 ((chQ Z H ls)[a])[k]).map i64) 0), (9, .rop ((rowV 48 ((chQ Z H ls)[b])[k]).map i64) 0), (15, i64 ((Z : Nat) : Int)), (16, i64 ((k : Nat) : Int)), (46, .bool ((decide ((rowV 48 ((chQ Z H ls)[a])[k]) = (List.replicate 48 (0 : Int)))) || (decide ((rowV 48 ((chQ Z H ls)[b])[k]) = (List.replicate 48 (0 : Int))))))], [], 0, []⟩ ?_ ?_
    · refine W_reg J ?_
      refine Rv J J J (U_loadAll J J (by simp; omega)) J J ?_
      refine Rv J J J (U_build J J) J J ?_
      refine Rv J J J (U_eqlA (p := (rowV 48 ((chQ Z H ls)[a])[k]) = (List.replicate 48 (0 : Int))) (ks := (List.replicate 48 .i64)) J J (numsOf_map (rowV 48 ((chQ Z H ls)[a])[k])) J (kindsA_map (n := 48) (by first | assumption | omega)) J Iff.rfl) J J ?_
      refine Rv J J J (U_move J) J J ?_
      refine Rsplit (t := 42) J (fun hg5 => ?_) (fun hg5 => ?_)
      · rw [hg5]
        have hg5' : (rowV 48 ((chQ Z H ls)[a])[k]) = (List.replicate 48 (0 : Int)) := of_decide_eq_true hg5
        refine Rs J J J J J ?_
        refine Rs J J J J J ?_
        refine Rs J J J J J ?_
        refine Rv J J J (U_pick_t J J) J J ?_
        refine Re J ?_
        exact joinTo id ⟨eD J J, eD J J, eD J J, eD J J, eD J J, eD J J, eD J J, eD J J, trivial⟩ trivial J J J J (fun _ _ => J)
      · rw [hg5]
        have hg5' : ¬ ((rowV 48 ((chQ Z H ls)[a])[k]) = (List.replicate 48 (0 : Int))) := of_decide_eq_false hg5
        refine Rv J J J (U_loadAll J J (by simp; omega)) J J ?_
        refine Rv J J J (U_build J J) J J ?_
        refine Rv J J J (U_eqlA (p := (rowV 48 ((chQ Z H ls)[b])[k]) = (List.replicate 48 (0 : Int))) (ks := (List.replicate 48 .i64)) J J (numsOf_map (rowV 48 ((chQ Z H ls)[b])[k])) J (kindsA_map (n := 48) (by first | assumption | omega)) J Iff.rfl) J J ?_
        refine Rv J J J (U_pick_f J J) J J ?_
        refine Re J ?_
        exact joinTo id ⟨eD J J, eD J J, eD J J, eD J J, eD J J, eD J J, eD J J, eD J J, trivial⟩ trivial J J J J (fun _ _ => J)
    refine thenQ_n ?_
    refine Wcond J J (fun hc1 => ?_) (fun hc1 => ?_)
    · have hzr : ∀ h, h < H → ¬ (inL' ls[a] H k h = true ∧ inL' ls[b] H k h = true) := by intro h hh h2; first | (simp at hc1; rcases hc1 with e | e; exact row_zero hca (by omega) (by omega) e h2.1; exact row_zero hcb (by omega) (by omega) e h2.2)
      refine W_exit J ?_
      refine thenQ_x ?_
      refine blkQ_x J ?_
      refine thenQ_n ?_
      refine W_reg J ?_
      refine Rv J J J (U_add J J (w64e (m := ((k + 1 : Nat) : Int)) (by omega) (by omega) (by omega))) J J ?_
      refine Rv J J J (U_move J) J J ?_
      refine Rt J ?_
      exact againTo (T' := [(0, .rop [i64 ((H : Nat) : Int), i64 ((Z : Nat) : Int), .ros (ls.map boxesL) ls.length c, .ros ((chQ Z H ls).map rowsL) ((chQ Z H ls).length) none] 0), (1, i64 ((a : Nat) : Int)), (2, i64 ((b : Nat) : Int)), (15, i64 ((Z : Nat) : Int)), (16, i64 (((k + 1) : Nat) : Int))]) (H' := []) (n := 0) (Z - (k + 1)) ⟨k + 1, (by omega), (by intro z h hz hh; rcases Nat.lt_succ_iff_lt_or_eq.1 hz with hz | rfl; exact hi0_1 z h hz hh; first | exact hzr h hh | exact hi1_1 h (by omega)), J, J⟩ (by omega) id ⟨eD J J, eD J J, eD J J, eD J J, eD J J, trivial⟩ trivial J J J J (fun _ _ => J)
    · have hc1' := Bool.eq_false_iff.1 hc1
      refine W_skip J ?_
      refine thenQ_n ?_
      refine Wsr J J ?_
      refine Rv J J J (U_move J) J J ?_
      refine Rv J J J (U_nilCheckR J) J J ?_
      refine Rv J J J (U_fieldAddrR J) J J ?_
      refine Rv J J J (U_fieldAddrR J) J J ?_
      refine Rv J J J (U_load1 J J J) J J ?_
      refine Rv J J J (U_move J) J J ?_
      refine Rt J ?_
      refine W_block J ?_
      refine LoopTo (T' := [(0, .rop [i64 ((H : Nat) : Int), i64 ((Z : Nat) : Int), .ros (ls.map boxesL) ls.length c, .ros ((chQ Z H ls).map rowsL) ((chQ Z H ls).length) none] 0), (1, i64 ((a : Nat) : Int)), (2, i64 ((b : Nat) : Int)), (8, .rop ((rowV 48 ((chQ Z H ls)[a])[k]).map i64) 0), (9, .rop ((rowV 48 ((chQ Z H ls)[b])[k]).map i64) 0), (15, i64 ((Z : Nat) : Int)), (16, i64 ((k : Nat) : Int)), (51, i64 ((H : Nat) : Int)), (52, i64 ((0 : Nat) : Int))]) (H' := []) (n := 0) J (fun mz_ qz_ => ∃ (j : Nat), j ≤ H ∧ ((∀ h, h < j → ¬ (inL' ls[a] H k h = true ∧ inL' ls[b] H k h = true))) ∧ mz_ = H - j ∧ qz_ = ⟨[(0, .rop [i64 ((H : Nat) : Int), i64 ((Z : Nat) : Int), .ros (ls.map boxesL) ls.length c, .ros ((chQ Z H ls).map rowsL) ((chQ Z H ls).length) none] 0), (1, i64 ((a : Nat) : Int)), (2, i64 ((b : Nat) : Int)), (8, .rop ((rowV 48 ((chQ Z H ls)[a])[k]).map i64) 0), (9, .rop ((rowV 48 ((chQ Z H ls)[b])[k]).map i64) 0), (15, i64 ((Z : Nat) : Int)), (16, i64 ((k : Nat) : Int)), (51, i64 ((H : Nat) : Int)), (52, i64 ((j : Nat) : Int))], [], 0, []⟩) ⟨0, (by omega), (fun h hh => absurd hh (Nat.not_lt_zero _)), J, J⟩ id ⟨eD J J, eD J J, eD J J, eD J J, eD J J, eD J J, eD J J, eD J J, eD J J, trivial⟩ trivial J J J J (fun _ _ => J) ?_
      rintro _ _ ⟨j, hi1_0, hi1_1, rfl, rfl⟩
      refine Wsr J J ?_
      refine Rv J J J (U_lss J J) J J ?_
      refine Rt J ?_
      refine W_seq J ?_
      refine WcondP J J (fun hc2 => ?_) (fun hc2 => ?_)
      · refine W_skip J ?_
        refine thenQ_n ?_
        refine W_seq J ?_
        refine W_block J ?_
        refine Wsr J J ?_
        refine Rv J J J (U_move J) J J ?_
        refine Rv J J J (U_assign J) J J ?_
        refine Rt J ?_
        refine W_seq J ?_
        refine Wjoin ⟨[(0, .rop [i64 ((H : Nat) : Int), i64 ((Z : Nat) : Int), .ros (ls.map boxesL) ls.length c, .ros ((chQ Z H ls).map rowsL) ((chQ Z H ls).length) none] 0), (1, i64 ((a : Nat) : Int)), (2, i64 ((b : Nat) : Int)), (8, .rop ((rowV 48 ((chQ Z H ls)[a])[k]).map i64) 0), (9, .rop ((rowV 48 ((chQ Z H ls)[b])[k]).map i64) 0), (15, i64 ((Z : Nat) : Int)), (16, i64 ((k : Nat) : Int)), (51, i64 ((H : Nat) : Int)), (52, i64 ((j : Nat) : Int)), (64, .bool ((decide (0 < ((rowV 48 ((chQ Z H ls)[a])[k])[j]))) && (decide (0 < ((rowV 48 ((chQ Z H ls)[b])[k])[j])))))], [], 0, []⟩ ?_ ?_
        · refine W_reg J ?_
          refine Rv J J J (U_move J) J J ?_
          have hx6 : j < (rowV 48 ((chQ Z H ls)[a])[k]).length := by omega
          refine Rv J J J (U_indexAR (j := j) J J J (by omega)) J J ?_
          refine Rv J J J (U_load1 J J (getM0 hx6)) J J ?_
          refine Rv J J J (U_gtr J J) J J ?_
          refine Rv J J J (U_move J) J J ?_
          refine Rsplit (t := 59) J (fun hg7 => ?_) (fun hg7 => ?_)
          · rw [hg7]
            have hg7' : 0 < ((rowV 48 ((chQ Z H ls)[a])[k])[j]) := of_decide_eq_true hg7
            refine Rv J J J (U_move J) J J ?_
            have hx8 : j < (rowV 48 ((chQ Z H ls)[b])[k]).length := by omega
            refine Rv J J J (U_indexAR (j := j) J J J (by omega)) J J ?_
            refine Rv J J J (U_load1 J J (getM0 hx8)) J J ?_
            refine Rv J J J (U_gtr J J) J J ?_
            refine Rv J J J (U_pick_t J J) J J ?_
            refine Re J ?_
            exact joinTo id ⟨eD J J, eD J J, eD J J, eD J J, eD J J, eD J J, eD J J, eD J J, eD J J, eD J J, trivial⟩ trivial J J J J (fun _ _ => J)
          · rw [hg7]
            have hg7' : ¬ (0 < ((rowV 48 ((chQ Z H ls)[a])[k])[j])) := of_decide_eq_false hg7
            refine Rs J J J J J ?_
            refine Rs J J J J J ?_
            refine Rs J J J J J ?_
            refine Rs J J J J J ?_
            refine Rv J J J (U_pick_f J J) J J ?_
            refine Re J ?_
            exact joinTo id ⟨eD J J, eD J J, eD J J, eD J J, eD J J, eD J J, eD J J, eD J J, eD J J, eD J J, trivial⟩ trivial J J J J (fun _ _ => J)
        refine thenQ_n ?_
        refine Wcond J J (fun hc3 => ?_) (fun hc3 => ?_)
        · have hba := row_bit hca (h := j) (show k < (chQ Z H ls)[a].length by omega) (by omega)
          have hbb := row_bit hcb (h := j) (show k < (chQ Z H ls)[b].length by omega) (by omega)
          have hmt := met_true (Z := Z) (H := H) (z := k) (h := j) (la := ls[a]) (lb := ls[b]) hck (by omega) (by simp at hc3; rw [hba, hbb] at hc3; by_cases e : inL' ls[a] H k j = true; exact e; rw [if_neg e] at hc3; omega) (by simp at hc3; rw [hba, hbb] at hc3; by_cases e : inL' ls[b] H k j = true; exact e; rw [if_neg e] at hc3; omega)
          refine Wsr J J ?_
          refine Rv J J J (U_assign J) J J ?_
          refine Rt J ?_
          refine W_ret J ?_
          refine blkQ_r ?_
          refine thenQ_r ?_
          refine thenQ_r ?_
          refine blkQ_r ?_
          refine blkQ_r ?_
          refine thenQ_r ?_
          refine thenQ_r ?_
          refine blkQ_r ?_
          refine thenQ_r ?_
          refine noGo_r ?_
          exact retL (rlT J rl0) (by first | rfl | (simp only [packA]; rw [nrQ, hmt, Bool.true_or]; first | done | rfl) | (simp only [packA]; rw [nrQ, hmf, Bool.false_or]; congr 1; rw [Bool.eq_iff_iff]; simp; first | done | rfl)) J
        · have hc3' := Bool.eq_false_iff.1 hc3
          have hba := row_bit hca (h := j) (show k < (chQ Z H ls)[a].length by omega) (by omega)
          have hbb := row_bit hcb (h := j) (show k < (chQ Z H ls)[b].length by omega) (by omega)
          have hnb : ¬ (inL' ls[a] H k j = true ∧ inL' ls[b] H k j = true) := by rintro ⟨e1, e2⟩; simp at hc3; rw [hba, hbb, if_pos e1, if_pos e2] at hc3; omega
          refine W_skip J ?_
          refine blkQ_n ?_
          refine thenQ_n ?_
          refine W_reg J ?_
          refine Rv J J J (U_add J J (w64e (m := ((j + 1 : Nat) : Int)) (by omega) (by omega) (by omega))) J J ?_
          refine Rv J J J (U_move J) J J ?_
          refine Rt J ?_
          exact againTo (T' := [(0, .rop [i64 ((H : Nat) : Int), i64 ((Z : Nat) : Int), .ros (ls.map boxesL) ls.length c, .ros ((chQ Z H ls).map rowsL) ((chQ Z H ls).length) none] 0), (1, i64 ((a : Nat) : Int)), (2, i64 ((b : Nat) : Int)), (8, .rop ((rowV 48 ((chQ Z H ls)[a])[k]).map i64) 0), (9, .rop ((rowV 48 ((chQ Z H ls)[b])[k]).map i64) 0), (15, i64 ((Z : Nat) : Int)), (16, i64 ((k : Nat) : Int)), (51, i64 ((H : Nat) : Int)), (52, i64 (((j + 1) : Nat) : Int))]) (H' := []) (n := 0) (H - (j + 1)) ⟨j + 1, (by omega), (by intro h hh; rcases Nat.lt_succ_iff_lt_or_eq.1 hh with hh | rfl; exact hi1_1 h hh; exact hnb), J, J⟩ (by omega) id ⟨eD J J, eD J J, eD J J, eD J J, eD J J, eD J J, eD J J, eD J J, eD J J, trivial⟩ trivial J J J J (fun _ _ => J)
      · refine W_exit J ?_
        refine thenQ_x ?_
        refine thenQ_x ?_
        refine blkQ_x J ?_
        refine blkQ_n ?_
        refine thenQ_n ?_
        refine W_reg J ?_
        refine Rv J J J (U_add J J (w64e (m := ((k + 1 : Nat) : Int)) (by omega) (by omega) (by omega))) J J ?_
        refine Rv J J J (U_move J) J J ?_
        refine Rt J ?_
        exact againTo (T' := [(0, .rop [i64 ((H : Nat) : Int), i64 ((Z : Nat) : Int), .ros (ls.map boxesL) ls.length c, .ros ((chQ Z H ls).map rowsL) ((chQ Z H ls).length) none] 0), (1, i64 ((a : Nat) : Int)), (2, i64 ((b : Nat) : Int)), (15, i64 ((Z : Nat) : Int)), (16, i64 (((k + 1) : Nat) : Int))]) (H' := []) (n := 0) (Z - (k + 1)) ⟨k + 1, (by omega), (by intro z h hz hh; rcases Nat.lt_succ_iff_lt_or_eq.1 hz with hz | rfl; exact hi0_1 z h hz hh; first | exact hzr h hh | exact hi1_1 h (by omega)), J, J⟩ (by omega) id ⟨eD J J, eD J J, eD J J, eD J J, eD J J, trivial⟩ trivial J J J J (fun _ _ => J)
  · have hmf := met_false (Z := Z) (H := H) (la := ls[a]) (lb := ls[b]) fun z h hz hh => hi0_1 z h (by omega) hh
    refine W_exit J ?_
    refine thenQ_x ?_
    refine thenQ_x ?_
    refine blkQ_x J ?_
    refine thenQ_n ?_
    refine Wsr J J ?_
    refine Rv J J J (U_move J) J J ?_
    refine Rv J J J (U_move J) J J ?_
    refine Rv J J J (U_move J) J J ?_
    refine Rv J J J (U_call J J (border_p H Z ls c a b (by omega) (by omega) (by omega) (by omega)) J) J J ?_
    refine Rv J J J (U_gtr J J) J J ?_
    refine Rv J J J (U_assign J) J J ?_
    refine Rt J ?_
    refine W_ret J ?_
    refine noGo_r ?_
    exact retL (rlT J rl0) (by first | rfl | (simp only [packA]; rw [nrQ, hmt, Bool.true_or]; first | done | rfl) | (simp only [packA]; rw [nrQ, hmf, Bool.false_or]; congr 1; rw [Bool.eq_iff_iff]; simp; first | done | rfl)) J
end Go.Proofs.Ythlolelbmhfdbaa
end

section
namespace Go.Proofs.Ythlolelbmhfdbaa
set_option maxRecDepth 20000
open Go.AE
theorem oddE : MEnc Try.prog 82 plcA n64 (0 : Nat) where
  inj a b h := by
    obtain ⟨a1, a2⟩ := a; obtain ⟨b1, b2⟩ := b
    simp only [plcA, AV.agg.injEq, List.cons.injEq, AV.int.injEq, true_and, and_true] at h
    rw [Int.ofNat.inj h.1, Int.ofNat.inj h.2]
  dk _ := rfl
  dv _ := rfl
  key := ⟨_, _, _, inferInstance, inferInstance, fun _ => rfl, .int .i64 0, fun _ => by kernel_rfl, fun _ _ _ => by simp [Con]⟩
abbrev Odds := List ((Nat × Nat) × Nat × Nat)
def cntQ (ls : List (List Bx)) (H : Nat) (p : Nat × Nat) : Nat := (ofQ ls H p.1 p.2 ls.length).length
def oddI (H : Nat) (ls : List (List Bx)) (i : Nat) : (Nat × Nat) × Nat × Nat := ((i / H, i % H), cntQ ls H (i / H, i % H), i)
def oddR (H : Nat) (ls : List (List Bx)) (k : Nat) : Odds := (List.range k).map (oddI H ls)
def oddQ (H : Nat) (ls : List (List Bx)) (k : Nat) : Odds := (oddR H ls k).filter fun e => !decide (e.2.1 = 1)
theorem oddR_succ {H : Nat} {ls : List (List Bx)} {k : Nat} : oddR H ls (k + 1) = oddR H ls k ++ [oddI H ls k] := by simp [oddR, List.range_succ]
theorem odd_inj {H : Nat} {ls : List (List Bx)} {i j : Nat} (h : (oddI H ls i).1 = (oddI H ls j).1) : i = j := by
  simp only [oddI, Prod.mk.injEq] at h
  rw [← Nat.div_add_mod i H, ← Nat.div_add_mod j H, h.1, h.2]
theorem oddR_ok {H : Nat} {ls : List (List Bx)} : ∀ k, MOk k (oddR H ls k) ∧ mget (oddR H ls k) (oddI H ls k).1 = none
  | 0 => ⟨MOk.nil, rfl⟩
  | k + 1 => by
    obtain ⟨h1, h2⟩ := oddR_ok (H := H) (ls := ls) k
    have h3 := h1.put (oddI H ls k).1 (oddI H ls k).2.1
    rw [mck, h2, mput_none h2] at h3
    refine ⟨by rw [oddR_succ]; exact h3, ?_⟩
    rw [mget_none]
    intro hm
    obtain ⟨e, he, h4⟩ := List.mem_map.1 hm
    obtain ⟨j, hj, rfl⟩ := List.mem_map.1 he
    have := odd_inj h4
    simp at hj; omega
theorem plcQ_at {Z H i : Nat} (h : i < (plcQ Z H).length) : (plcQ Z H)[i] = (i / H, i % H) := by simp [plcQ]
theorem odd_put {Z H : Nat} {ls : List (List Bx)} {k : Nat} (h : k < (plcQ Z H).length) : mput k (oddR H ls k) ((plcQ Z H)[k].1, (plcQ Z H)[k].2) (ofQ ls H (plcQ Z H)[k].1 (plcQ Z H)[k].2 ls.length).length = oddR H ls (k + 1) ∧ mck k (oddR H ls k) ((plcQ Z H)[k].1, (plcQ Z H)[k].2) = k + 1 := by
  rw [plcQ_at h]
  have h2 := (oddR_ok (H := H) (ls := ls) k).2
  have h2' : mget (oddR H ls k) ((k / H), (k % H)) = none := h2
  refine ⟨?_, by simp only [mck, h2']; rfl⟩
  show mput k (oddR H ls k) (k / H, k % H) _ = _
  rw [mput_none h2', oddR_succ]
  simp [oddI, cntQ]
def leftS (L P : Odds) : Odds := L.filter fun e => !(decide (e ∈ P) && decide (e.2.1 = 1))
theorem leftS_nil (L : Odds) : leftS L [] = L := by simp [leftS]
theorem leftS_mem {L P : Odds} {e : (Nat × Nat) × Nat × Nat} : e ∈ leftS L P ↔ e ∈ L ∧ ¬ (e ∈ P ∧ e.2.1 = 1) := by
  rw [leftS, List.mem_filter]
  by_cases h1 : e ∈ P <;> by_cases h2 : e.2.1 = 1 <;> simp [h1, h2]
theorem leftS_all {L P : Odds} (h : P.Perm L) : leftS L P = L.filter fun e => !decide (e.2.1 = 1) := by
  refine List.filter_congr fun e he => ?_
  simp [h.mem_iff.2 he]
theorem leftS_keep {L P : Odds} {e : (Nat × Nat) × Nat × Nat} (h : ¬ e.2.1 = 1) : leftS L (P ++ [e]) = leftS L P := by
  refine List.filter_congr fun x _ => ?_
  by_cases hx : x = e
  · subst hx; simp [h]
  · simp [hx]
theorem key_inj {L : Odds} {ck : Nat} (hL : MOk ck L) {x e : (Nat × Nat) × Nat × Nat} (hx : x ∈ L) (he : e ∈ L) (hk : x.1 = e.1) : x = e := by
  have h1 := (List.pairwise_map.1 hL.ky)
  obtain ⟨i, hi, rfl⟩ := List.getElem_of_mem hx
  obtain ⟨j, hj, rfl⟩ := List.getElem_of_mem he
  have h2 := List.pairwise_iff_getElem.1 h1
  rcases Nat.lt_trichotomy i j with h3 | h3 | h3
  · exact absurd hk (h2 i j hi hj h3)
  · subst h3; rfl
  · exact absurd hk.symm (h2 j i hj hi h3)
theorem leftS_drop {L P : Odds} {ck : Nat} (hL : MOk ck L) {e : (Nat × Nat) × Nat × Nat} (he : e ∈ L) (h : e.2.1 = 1) : mdel (leftS L P) e.1 = leftS L (P ++ [e]) := by
  unfold leftS
  rw [mdel_filter ((hL.filter _).ky), List.filter_filter]
  refine List.filter_congr fun x hx => ?_
  by_cases hxe : x = e
  · subst hxe; simp [h]
  · have hk : x.1 ≠ e.1 := fun hk => hxe (key_inj hL hx he hk)
    simp [hxe, hk]
theorem leftS_get {L P : Odds} {ck : Nat} (hL : MOk ck L) {e : (Nat × Nat) × Nat × Nat} (he : e ∈ leftS L P) : (mget (leftS L P) e.1).isSome = true := by
  have h := (mget_mem (L := leftS L P) (hL.filter _).ky (k := e.1) (v := e.2.1)).2 ⟨e.2.2, he⟩
  rw [h]; rfl
theorem rest_mem {L P R : Odds} {ck : Nat} (hL : MOk ck L) (hp : (P ++ R).Perm L) : ∀ e ∈ R, e ∈ leftS L P := fun e he => by
  refine leftS_mem.2 ⟨hp.mem_iff.1 (List.mem_append_right _ he), fun h => ?_⟩
  have h2 := (hp.map (·.2.2)).nodup_iff.2 hL.st
  rw [List.map_append, List.nodup_append] at h2
  exact absurd rfl (h2.2.2 _ (List.mem_map.2 ⟨e, h.1, rfl⟩) _ (List.mem_map.2 ⟨e, he, rfl⟩))
theorem oddM_p (H Z : Nat) (ls : List (List Bx)) (c : Option Nat) (hn : ls.length ≤ 10) (hH : 1 ≤ H ∧ H ≤ 48) (hZ : Z ≤ 24) : MutP Try.prog 67 [.rop [i64 (H : Nat), i64 (Z : Nat), landsA ls c, .ros ((chQ Z H ls).map rowsL) (chQ Z H ls).length none] 0] [] 0 (.mapl 0) [(0, some (.map (mE plcA n64 (oddQ H ls (plcQ Z H).length)) ((plcQ Z H).length)))] 1 := by
  have hL := (oddR_ok (H := H) (ls := ls) (plcQ Z H).length).1
  refine mut_of_body Try.func67 (c := body Try.f67) J (by decide) (by simp [Try.ntmps67]) fun w0 Φ0 ρ0 => ?_
  refine Wsr J J ?_
  refine Rv J J J (U_boxF J J J) J J ?_
  refine Rv J J J (U_assign J) J J ?_
  refine Rt J ?_
  refine Wsr J J ?_
  refine Ra J J J (U_makeMap) J J J ?_
  refine Ra J J J (U_alloc) J J J ?_
  refine Rn J J J (U_store1 J J J J) J ?_
  refine Rt J ?_
  refine W_seq J ?_
  refine Wsr J J ?_
  refine Rv J J J (U_load1 J J J) J J ?_
  refine Rv J J J (U_call J J (places_p H Z ls c) J) J J ?_
  refine Rt J ?_
  refine W_block J ?_
  refine W_rangeI (T' := [(1, .rop [.rop [i64 ((H : Nat) : Int), i64 ((Z : Nat) : Int), .ros (ls.map boxesL) ls.length c, .ros ((chQ Z H ls).map rowsL) ((chQ Z H ls).length) none] 0] 0), (3, .ptr 1 0), (9, .fn 101 [] [.rop [.rop [i64 ((H : Nat) : Int), i64 ((Z : Nat) : Int), .ros (ls.map boxesL) ls.length c, .ros ((chQ Z H ls).map rowsL) ((chQ Z H ls).length) none] 0] 0])]) (n := 2) J J (places_it H Z ls c hH hZ) (fun i => [(0, some (.map (mE plcA n64 (oddR H ls i)) i)), (1, some (.cells [.mapl 0] 82))]) ⟨eD J J, e_ J J, eD J J, trivial⟩ ⟨rMp (mE_data (fun _ => J) (fun _ => J) _) J J, r_ J J J, trivial⟩ J J J J J (fun i => ⟨rMp (mE_data (fun _ => J) (fun _ => J) _) J J, r_ J J J, trivial⟩) ?_ ?_
  · intro i x_ hx_ C_ hC_ N_ hN_
    obtain ⟨hi_, rfl⟩ := mapAt hx_
    have hpz := plcQ_in (List.getElem_mem hi_)
    have hil : i < (plcQ Z H).length := hi_
    have hilen := plcQ_len (Z := Z) (H := H)
    have hZH : Z * H ≤ 1152 := Nat.mul_le_mul hZ hH.2
    obtain ⟨_, w0_, Wr_, Φ0_, ro_, nt_, k0_, ρ0_⟩ := C_
    have hC2_ : _ = Try.prog := hC_
    subst hC2_
    intro ρ_ Φ_ w_ lc_
    refine W_reg J ?_
    refine Ra J J J (U_alloc) J J J ?_
    refine Rn J J J (U_storeAll J J J J J J) J ?_
    refine Re J ?_
    refine ⟨rfl, ?_⟩
    refine W_block J ?_
    refine Wdraw J (by kernel_rfl) (by kernel_rfl) ?_
    refine Dv J J J (U_load1 J J J) J J ?_
    refine Dv J J J (U_load2 J J J J) J J ?_
    refine Dv J J J (U_load1 J J J) J J ?_
    refine Dv J J J (U_load2 J J J J) J J ?_
    refine Dv J J J (U_call J J (of_p H Z ls c (((plcQ Z H)[i]).1) (((plcQ Z H)[i]).2) (by omega) (by omega) (by omega)) J) J J ?_
    refine Dv J J J (U_lenOf J len_ros) J J ?_
    refine Dn_ J J J (U_updM (k := (((plcQ Z H)[i]).1, ((plcQ Z H)[i]).2)) (v := (ofQ ls H (((plcQ Z H)[i]).1) (((plcQ Z H)[i]).2) ls.length).length) (L := oddR H ls i) oddE J J J J) J J ?_
    refine Dr.nil J ?_
    refine blkQ_n ?_
    refine ⟨rfl, ?_⟩
    exact hN_ _ _ ⟨(rMp' (mE_data (fun _ => rfl) (fun _ => rfl) _) rfl (congrArg (mE _ _) (odd_put hi_).1) (odd_put hi_).2 rfl), r_ rfl rfl rfl, trivial⟩
  rw [List.length_map]
  refine blkQ_n ?_
  refine thenQ_n ?_
  refine W_seq J ?_
  refine Wsr J J ?_
  refine Rv J J J (U_load1 J J J) J J ?_
  refine Ra J J J (U_rangeM Try.underlying82 J J) J J J ?_
  refine Rt J ?_
  refine W_block J ?_
  refine LoopTo (T' := [(3, .ptr 1 0), (18, .ptr 2 0)]) (H' := [(0, some (.map (mE plcA n64 (leftS (oddR H ls (plcQ Z H).length) [])) ((plcQ Z H).length))), (1, some (.cells [.mapl 0] 82)), (2, some (.iter (.mapl 0) ((plcQ Z H).length) (stamps []) ((plcQ Z H).length)))]) (n := 3) J (fun mz_ qz_ => ∃ (P : Odds) (Rs : Odds), (P ++ Rs).Perm (oddR H ls (plcQ Z H).length) ∧ mz_ = Rs.length ∧ qz_ = ⟨[(3, .ptr 1 0), (18, .ptr 2 0)], [(0, some (.map (mE plcA n64 (leftS (oddR H ls (plcQ Z H).length) P)) ((plcQ Z H).length))), (1, some (.cells [.mapl 0] 82)), (2, some (.iter (.mapl 0) ((plcQ Z H).length) (stamps P) ((plcQ Z H).length)))], 3, []⟩) ⟨[], oddR H ls (plcQ Z H).length, (List.Perm.refl _), J, J⟩ id ⟨e_ J J, e_ J J, trivial⟩ ⟨rMp' (mE_data (fun _ => J) (fun _ => J) _) J (congrArg (mE _ _) (leftS_nil _).symm) J J, r_ J J J, r_ J J J, trivial⟩ J J J J (fun _ _ => J) ?_
  rintro _ _ ⟨P, Rs, hi0_0, rfl, rfl⟩
  refine Wsr J J ?_
  refine RnextP (ek := plcA) (el := n64) (P := P) (R := Rs) (M := leftS (oddR H ls (plcQ Z H).length) P) hL hi0_0 (rest_mem hL hi0_0) (fun e he => (leftS_mem.1 he).1) J J J J J J J J J (fun hR_19 => ?_) (fun e R1_19 R2_19 he_19 hR_19 hp_19 => ?_)
  · refine Rv J J J (U_extract J J) J J ?_
    refine Rt J ?_
    refine W_seq J ?_
    refine Wcond J J (fun h => nomatch h) (fun _ => ?_)
    refine W_exit J ?_
    refine thenQ_x ?_
    refine thenQ_x ?_
    refine blkQ_x J ?_
    refine thenQ_n ?_
    refine Wsr J J ?_
    refine Rv J J J (U_load1 J J J) J J ?_
    refine Rv J J J (U_assign J) J J ?_
    refine Rt J ?_
    refine W_ret J ?_
    exact retTo (T' := [(2, .mapl 0)]) id ⟨e_ rfl rfl, trivial⟩ ⟨rMp' (mE_data (fun _ => rfl) (fun _ => rfl) _) rfl (congrArg (mE _ _) (leftS_all (by rw [hR_19, List.append_nil] at hi0_0; exact hi0_0))) rfl rfl, trivial⟩ rfl rfl (fun _ _ => rfl) (rlT rfl rl0) rfl
  · refine Rv J J J (U_extract J J) J J ?_
    refine Rt J ?_
    refine W_seq J ?_
    refine Wcond J J (fun _ => ?_) (fun h => nomatch h)
    refine W_skip J ?_
    refine thenQ_n ?_
    refine W_block J ?_
    refine Wsr J J ?_
    refine Rv J J J (U_entryM (e := e) (P := P) (M := (leftS (oddR H ls (plcQ Z H).length) P)) (ek := plcA) (el := n64) J J J ((hL.filter _).st) he_19) J J ?_
    refine Rv J J J (U_extract J J) J J ?_
    refine Rv J J J (U_extract J J) J J ?_
    refine Ra J J J (U_alloc) J J J ?_
    refine Rn J J J (U_storeAll J J J J J J) J ?_
    refine Rv J J J (U_assign J) J J ?_
    refine Rt J ?_
    refine WfrN 3 J J (T' := [(3, .ptr 1 0), (5, .rop [i64 ((e.1.1 : Nat) : Int), i64 ((e.1.2 : Nat) : Int)] 0), (6, i64 ((e.2.1 : Nat) : Int)), (18, .ptr 2 0)]) (H' := [(0, some (.map (mE plcA n64 (leftS (oddR H ls (plcQ Z H).length) P)) ((plcQ Z H).length))), (1, some (.cells [.mapl 0] 82)), (2, some (.iter (.mapl 0) ((plcQ Z H).length) (stamps (P ++ [e])) ((plcQ Z H).length)))]) ⟨⟨_, J, J⟩, ⟨_, J, J⟩, ⟨_, J, J⟩, ⟨_, J, J⟩, trivial⟩ ⟨⟨J, rFMp (mE_data (fun _ => J) (fun _ => J) _) J⟩, ⟨J, rF J J⟩, ⟨J, rF J J⟩, trivial⟩ ?_
    refine Wsr J J ?_
    refine Rv J J J (U_move J) J J ?_
    refine Rv J J J (U_eql J J) J J ?_
    refine Rt J ?_
    refine WcondP J J (fun hc1 => ?_) (fun hc1 => ?_)
    · refine W_reg J ?_
      refine Rv J J J (U_load1 J J J) J J ?_
      refine Rv J J J (U_load2 J J J J) J J ?_
      refine Rn J J J (U_delM (k := (e.1.1, e.1.2)) (L := leftS (oddR H ls (plcQ Z H).length) P) oddE J J J (leftS_get hL he_19)) J ?_
      refine Re J ?_
      refine blkQ_n ?_
      refine thenQ_n ?_
      exact againTo (T' := [(3, .ptr 1 0), (18, .ptr 2 0)]) (H' := [(0, some (.map (mE plcA n64 (leftS (oddR H ls (plcQ Z H).length) (P ++ [e]))) ((plcQ Z H).length))), (1, some (.cells [.mapl 0] 82)), (2, some (.iter (.mapl 0) ((plcQ Z H).length) (stamps (P ++ [e])) ((plcQ Z H).length)))]) (n := 3) ((R1_19 ++ R2_19).length) ⟨P ++ [e], R1_19 ++ R2_19, hp_19, J, J⟩ (by rw [hR_19]; simp) id ⟨e_ J J, e_ J J, trivial⟩ ⟨rMp' (mE_data (fun _ => J) (fun _ => J) _) J (by first | exact congrArg (mE _ _) (leftS_drop hL ((leftS_mem.1 he_19).1) (by exact_mod_cast hc1)) | exact congrArg (mE _ _) (leftS_keep (fun h => hc1 (by exact_mod_cast h))).symm) J J, r_ J J J, r_ J J J, trivial⟩ J J J J (fun _ _ => J)
    · refine W_skip J ?_
      refine blkQ_n ?_
      refine thenQ_n ?_
      exact againTo (T' := [(3, .ptr 1 0), (18, .ptr 2 0)]) (H' := [(0, some (.map (mE plcA n64 (leftS (oddR H ls (plcQ Z H).length) (P ++ [e]))) ((plcQ Z H).length))), (1, some (.cells [.mapl 0] 82)), (2, some (.iter (.mapl 0) ((plcQ Z H).length) (stamps (P ++ [e])) ((plcQ Z H).length)))]) (n := 3) ((R1_19 ++ R2_19).length) ⟨P ++ [e], R1_19 ++ R2_19, hp_19, J, J⟩ (by rw [hR_19]; simp) id ⟨e_ J J, e_ J J, trivial⟩ ⟨rMp' (mE_data (fun _ => J) (fun _ => J) _) J (by first | exact congrArg (mE _ _) (leftS_drop hL ((leftS_mem.1 he_19).1) (by exact_mod_cast hc1)) | exact congrArg (mE _ _) (leftS_keep (fun h => hc1 (by exact_mod_cast h))).symm) J J, r_ J J J, r_ J J J, trivial⟩ J J J J (fun _ _ => J)
end Go.Proofs.Ythlolelbmhfdbaa
end

section
namespace Go.Proofs.Ythlolelbmhfdbaa
set_option maxRecDepth 20000
open Go.AE
def fldQ (Z H : Nat) (l : List Bx) : List Nat := (List.range (Z * H)).map fun i => bitQ l H (i / H) (i % H)
theorem fldQ_len {Z H : Nat} {l : List Bx} : (fldQ Z H l).length = Z * H := by simp [fldQ]
theorem zh_div {H z h : Nat} (hh : h < H) : (z * H + h) / H = z ∧ (z * H + h) % H = h :=
  ⟨by rw [Nat.add_comm, Nat.add_mul_div_right _ _ (by omega), Nat.div_eq_of_lt hh, Nat.zero_add], by rw [Nat.add_comm, Nat.add_mul_mod_self_right, Nat.mod_eq_of_lt hh]⟩
end Go.Proofs.Ythlolelbmhfdbaa
end

section
namespace Go.Proofs.Ythlolelbmhfdbaa
set_option maxRecDepth 20000
open Go.AE
theorem fldQ_get {Z H i : Nat} {l : List Bx} (hi : i < (fldQ Z H l).length) : (fldQ Z H l)[i] = bitQ l H (i / H) (i % H) := by simp [fldQ]
theorem fldQ_le {Z H i : Nat} {l : List Bx} (hi : i < (fldQ Z H l).length) : (fldQ Z H l)[i] ≤ 1 := by rw [fldQ_get hi]; exact bitQ_le
end Go.Proofs.Ythlolelbmhfdbaa
end

section
namespace Go.Proofs.Ythlolelbmhfdbaa
set_option maxRecDepth 20000
open Go.AE
theorem opS_ok {s : Sk} {l : List Int} (h : opS s l = 0) : ∃ (H Z : Nat) (ls : List (List Bx)), s = ⟨H, Z, ls⟩ ∧ chkS ⟨H, Z, ls⟩ = 0 ∧ VS ⟨H, Z, ls⟩ H Z ∧ inL 0 ((ls.length : Int) - 1) l = true := by
  unfold opS at h
  split at h
  · rename_i h1; exact absurd h h1
  · rename_i h1
    have h1 := Decidable.not_not.1 h1
    split at h
    · rename_i h2
      obtain ⟨H, Z, hv⟩ := vs_of h1
      obtain ⟨a, b, ls⟩ := s
      have e1 := hv.h
      have e2 := hv.z
      simp only at e1 e2
      subst e1; subst e2
      exact ⟨H, Z, ls, rfl, h1, hv, h2⟩
    · cases h
theorem chk_ok {s : Sk} (h : chkS s = 0) : ∃ (H Z : Nat) (ls : List (List Bx)), s = ⟨H, Z, ls⟩ ∧ chkS ⟨H, Z, ls⟩ = 0 ∧ VS ⟨H, Z, ls⟩ H Z := by
  obtain ⟨H, Z, ls, h1, h2, h3, _⟩ := opS_ok (s := s) (l := []) (by rw [opS, if_neg (by simpa using h)]; rfl)
  exact ⟨H, Z, ls, h1, h2, h3⟩
theorem opS_nil {s : Sk} : opS s [] = chkS s := by
  unfold opS
  split
  · rfl
  · rename_i h; exact (Decidable.not_not.1 h).symm
theorem in1_ok {n : Nat} {a : Int} (h : inL 0 ((n : Int) - 1) [a] = true) : ∃ b : Nat, a = (b : Int) ∧ b < n := by
  have := inL1b h; exact ⟨a.toNat, by omega, by omega⟩
theorem inL2b {lo hi a b : Int} (h : inL lo hi [a, b] = true) : (lo ≤ a ∧ a ≤ hi) ∧ lo ≤ b ∧ b ≤ hi := by simpa [inL] using h
theorem opS_0 {H Z : Nat} {ls : List (List Bx)} {l : List Int} (hc : chkS ⟨H, Z, ls⟩ = 0) (h : inL 0 ((ls.length : Int) - 1) l = true) : opS ⟨H, Z, ls⟩ l = 0 := by
  rw [opS, if_neg (by simpa using hc), if_pos h]
theorem VS.hl {s : Sk} {H Z : Nat} (h : VS s H Z) : s.ls.length ≤ 1000000 := by have := h.ln; omega
theorem VS.hbl {s : Sk} {H Z : Nat} (h : VS s H Z) : ∀ l ∈ s.ls, l.length ≤ 1000000 := fun l hl => by have := h.lb l hl; omega
theorem openE_p (s : Sk) (c : Option Nat) (hl : s.ls.length ≤ 1000000) (hbl : ∀ l ∈ s.ls, l.length ≤ 1000000) (l : List Int) (d : Option Nat) (hl2 : l.length ≤ 1000000) (h : opS s l ≠ 0) : Pure Try.prog 63 [.agg [i64 s.h, i64 s.z, landsA s.ls c], intsA l d] (.tup [.nilp, i64 (opS s l)]) := by
  have := open_p s c hl hbl l d hl2
  rwa [if_neg h] at this
theorem openE0_p (s : Sk) (c : Option Nat) (hl : s.ls.length ≤ 1000000) (hbl : ∀ l ∈ s.ls, l.length ≤ 1000000) (h : opS s [] ≠ 0) : Pure Try.prog 63 [.agg [i64 s.h, i64 s.z, landsA s.ls c], .nils] (.tup [.nilp, i64 (opS s [])]) :=
  (openE_p s c hl hbl [] none (by simp) h).weak (leL_cons (le_refl _) (leL_cons le_nils (leL_refl _)))
theorem openG_p (H Z : Nat) (ls : List (List Bx)) (c : Option Nat) (hc : chkS ⟨H, Z, ls⟩ = 0) (hv : VS ⟨H, Z, ls⟩ H Z) (l : List Int) (d : Option Nat) (hl2 : l.length ≤ 1000000) (h : inL 0 ((ls.length : Int) - 1) l = true) : Pure Try.prog 63 [.agg [i64 (H : Nat), i64 (Z : Nat), landsA ls c], intsA l d] (.tup [.rop [i64 (H : Nat), i64 (Z : Nat), landsA ls c, .ros ((chQ Z H ls).map rowsL) (chQ Z H ls).length none] 0, i64 0]) := by
  have := open_p ⟨H, Z, ls⟩ c hv.hl hv.hbl l d hl2
  rw [opS_0 hc h, if_pos rfl] at this
  exact this
theorem openG0_p (H Z : Nat) (ls : List (List Bx)) (c : Option Nat) (hc : chkS ⟨H, Z, ls⟩ = 0) (hv : VS ⟨H, Z, ls⟩ H Z) : Pure Try.prog 63 [.agg [i64 (H : Nat), i64 (Z : Nat), landsA ls c], .nils] (.tup [.rop [i64 (H : Nat), i64 (Z : Nat), landsA ls c, .ros ((chQ Z H ls).map rowsL) (chQ Z H ls).length none] 0, i64 0]) :=
  (openG_p H Z ls c hc hv [] none (by simp) rfl).weak (leL_cons (le_refl _) (leL_cons le_nils (leL_refl _)))
theorem chkSG_p (H Z : Nat) (ls : List (List Bx)) (c : Option Nat) (hc : chkS ⟨H, Z, ls⟩ = 0) (hv : VS ⟨H, Z, ls⟩ H Z) : Pure Try.prog 22 [.agg [i64 (H : Nat), i64 (Z : Nat), landsA ls c]] (i64 0) := by
  have := chkS_p ⟨H, Z, ls⟩ c hv.hl hv.hbl
  rwa [hc] at this
def ofE (s : Sk) (h z : Int) : Int := if chkS s ≠ 0 then chkS s else if 0 ≤ h ∧ h < s.h ∧ 0 ≤ z ∧ z < s.z then 0 else 3
def ofR (s : Sk) (h z : Int) : List Int := if ofE s h z = 0 then ofQ s.ls s.h.toNat z.toNat h.toNat s.ls.length else []
theorem of_e (s : Sk) (c : Option Nat) (hl : s.ls.length ≤ 1000000) (hbl : ∀ l ∈ s.ls, l.length ≤ 1000000) (h z : Int) (hE : chkS s ≠ 0) : Pure Try.prog 18 [.agg [i64 s.h, i64 s.z, landsA s.ls c], i64 h, i64 z] (.tup [intsA ([] : List Int) none, i64 (chkS s)]) := by
  refine pure_of_body Try.func18 (c := body Try.f18) J (by simp [Try.ntmps18]) fun w0 Φ0 => ?_
  refine Wsr J J ?_
  refine Rv J J J (U_boxF J J J) J J ?_
  refine Rv J J J (U_assign J) J J ?_
  refine Rv J J J (U_assign J) J J ?_
  refine Rt J ?_
  refine Wsr J J ?_
  refine Rv J J J (U_load3 J J J J J) J J ?_
  refine Rv J J J (U_call J J (openE0_p s c hl hbl (by rw [opS_nil]; assumption)) J) J J ?_
  refine Rv J J J (U_move J) J J ?_
  refine Rv J J J (U_extract J J) J J ?_
  refine Rv J J J (U_extract J J) J J ?_
  refine Rv J J J (U_assign J) J J ?_
  refine Rv J J J (U_assign J) J J ?_
  refine Rt J ?_
  refine W_seq J ?_
  refine W_block J ?_
  refine Wsr J J ?_
  refine Rv J J J (U_move J) J J ?_
  refine Rv J J J (U_neq J J) J J ?_
  refine Rv J J J (U_assign J) J J ?_
  refine Rt J ?_
  refine WcondP J J (fun hc0 => ?_) (fun hc0 => absurd (by rw [opS_nil]; exact hE) hc0)
  refine Wsr J J ?_
  refine Rv J J J (U_move J) J J ?_
  refine Rv J J J (U_assign J) J J ?_
  refine Rv J J J (U_assign J) J J ?_
  refine Rt J ?_
  refine WweakT (j := 6) J (le_nils (cs := [])) ?_
  refine W_ret J ?_
  refine blkQ_r ?_
  refine thenQ_r ?_
  exact retL (rlT J (rlT J rl0)) (by first | rfl | (simp only [packA]; rw [opS_nil]; first | done | rfl)) J
theorem of_n (H Z : Nat) (ls : List (List Bx)) (c : Option Nat) (hc : chkS ⟨H, Z, ls⟩ = 0) (hv : VS ⟨H, Z, ls⟩ H Z) (h z : Int) (hn : ¬ (0 ≤ h ∧ h < (H : Int) ∧ 0 ≤ z ∧ z < (Z : Int))) : Pure Try.prog 18 [.agg [i64 (H : Nat), i64 (Z : Nat), landsA ls c], i64 h, i64 z] (.tup [intsA ([] : List Int) none, i64 3]) := by
  have hv' := hv
  obtain ⟨_, _, hH, hZ1, hln, hlb, hbx⟩ := hv'
  simp only at hln hlb hbx
  have hZ := hZ1.2
  have hHZ : Z * H ≤ 1152 := Nat.mul_le_mul hZ hH.2
  have hHZc : H * Z = Z * H := Nat.mul_comm _ _
  refine pure_of_body Try.func18 (c := body Try.f18) J (by simp [Try.ntmps18]) fun w0 Φ0 => ?_
  refine Wsr J J ?_
  refine Rv J J J (U_boxF J J J) J J ?_
  refine Rv J J J (U_assign J) J J ?_
  refine Rv J J J (U_assign J) J J ?_
  refine Rt J ?_
  refine Wsr J J ?_
  refine Rv J J J (U_load3 J J J J J) J J ?_
  refine Rv J J J (U_call J J (openG0_p H Z ls c hc hv) J) J J ?_
  refine Rv J J J (U_move J) J J ?_
  refine Rv J J J (U_extract J J) J J ?_
  refine Rv J J J (U_extract J J) J J ?_
  refine Rv J J J (U_assign J) J J ?_
  refine Rv J J J (U_assign J) J J ?_
  refine Rt J ?_
  refine W_seq J ?_
  refine W_block J ?_
  refine Wsr J J ?_
  refine Rv J J J (U_move J) J J ?_
  refine Rv J J J (U_neq J J) J J ?_
  refine Rv J J J (U_assign J) J J ?_
  refine Rt J ?_
  refine WcondP J J (fun h => absurd h (by decide)) (fun _ => ?_)
  refine W_seq J ?_
  refine Wjoin ⟨[(1, i64 h), (2, i64 z), (8, .rop [i64 ((H : Nat) : Int), i64 ((Z : Nat) : Int), .ros (ls.map boxesL) ls.length c, .ros ((chQ Z H ls).map rowsL) ((chQ Z H ls).length) none] 0), (19, .bool ((!(inL 0 (((H : Nat) : Int) - 1) [h])) || (!(inL 0 (((Z : Nat) : Int) - 1) [z]))))], [], 0, []⟩ ?_ ?_
  · refine W_reg J ?_
    refine Rv J J J (U_fieldAddrR J) J J ?_
    refine Rv J J J (U_load1 J J J) J J ?_
    refine Rv J J J (U_sub J J (w64 (by omega) (by omega))) J J ?_
    refine Rv J J J (U_move J) J J ?_
    refine Rv J J J (U_buildSliceF (by rfl) (by decide) J J J) J J ?_
    refine Rv J J J (U_call J J (within_p 0 (((H : Nat) : Int) - 1) [h] (some 1) (by first | assumption | omega | (simp; done) | (simp; omega))) J) J J ?_
    refine Rv J J J (U_not J) J J ?_
    refine Rv J J J (U_move J) J J ?_
    refine Rsplit (t := 27) J (fun hg1 => ?_) (fun hg1 => ?_)
    · rw [hg1]
      refine Rs J J J J J ?_
      refine Rs J J J J J ?_
      refine Rs J J J J J ?_
      refine Rs J J J J J ?_
      refine Rs J J J J J ?_
      refine Rs J J J J J ?_
      refine Rs J J J J J ?_
      refine Rv J J J (U_pick_t J J) J J ?_
      refine Rv J J J (U_assign J) J J ?_
      refine Re J ?_
      exact joinTo id ⟨eD J J, eD J J, eD J J, eD J J, trivial⟩ trivial J J J J (fun _ _ => J)
    · rw [hg1]
      refine Rv J J J (U_fieldAddrR J) J J ?_
      refine Rv J J J (U_load1 J J J) J J ?_
      refine Rv J J J (U_sub J J (w64 (by omega) (by omega))) J J ?_
      refine Rv J J J (U_move J) J J ?_
      refine Rv J J J (U_buildSliceF (by rfl) (by decide) J J J) J J ?_
      refine Rv J J J (U_call J J (within_p 0 (((Z : Nat) : Int) - 1) [z] (some 1) (by first | assumption | omega | (simp; done) | (simp; omega))) J) J J ?_
      refine Rv J J J (U_not J) J J ?_
      refine Rv J J J (U_pick_f J J) J J ?_
      refine Rv J J J (U_assign J) J J ?_
      refine Re J ?_
      exact joinTo id ⟨eD J J, eD J J, eD J J, eD J J, trivial⟩ trivial J J J J (fun _ _ => J)
  refine thenQ_n ?_
  refine Wcond J J (fun hc1 => ?_) (fun hc1 => absurd hc1 (by simp [inL]; omega))
  refine Wsr J J ?_
  refine Rv J J J (U_assign J) J J ?_
  refine Rv J J J (U_assign J) J J ?_
  refine Rt J ?_
  refine WweakT (j := 6) J (le_nils (cs := [])) ?_
  refine W_ret J ?_
  refine blkQ_r ?_
  refine thenQ_r ?_
  exact retL (rlT J (rlT J rl0)) (by first | rfl | (simp only [packA]; rfl; first | done | rfl)) J
theorem of_g (H Z : Nat) (ls : List (List Bx)) (c : Option Nat) (hc : chkS ⟨H, Z, ls⟩ = 0) (hv : VS ⟨H, Z, ls⟩ H Z) (h z : Nat) (hh : h < H) (hz : z < Z) : Pure Try.prog 18 [.agg [i64 (H : Nat), i64 (Z : Nat), landsA ls c], i64 (h : Nat), i64 (z : Nat)] (.tup [intsA (ofQ ls H z h ls.length) none, i64 0]) := by
  have hv' := hv
  obtain ⟨_, _, hH, hZ1, hln, hlb, hbx⟩ := hv'
  simp only at hln hlb hbx
  have hZ := hZ1.2
  have hHZ : Z * H ≤ 1152 := Nat.mul_le_mul hZ hH.2
  have hHZc : H * Z = Z * H := Nat.mul_comm _ _
  refine pure_of_body Try.func18 (c := body Try.f18) J (by simp [Try.ntmps18]) fun w0 Φ0 => ?_
  refine Wsr J J ?_
  refine Rv J J J (U_boxF J J J) J J ?_
  refine Rv J J J (U_assign J) J J ?_
  refine Rv J J J (U_assign J) J J ?_
  refine Rt J ?_
  refine Wsr J J ?_
  refine Rv J J J (U_load3 J J J J J) J J ?_
  refine Rv J J J (U_call J J (openG0_p H Z ls c hc hv) J) J J ?_
  refine Rv J J J (U_move J) J J ?_
  refine Rv J J J (U_extract J J) J J ?_
  refine Rv J J J (U_extract J J) J J ?_
  refine Rv J J J (U_assign J) J J ?_
  refine Rv J J J (U_assign J) J J ?_
  refine Rt J ?_
  refine W_seq J ?_
  refine W_block J ?_
  refine Wsr J J ?_
  refine Rv J J J (U_move J) J J ?_
  refine Rv J J J (U_neq J J) J J ?_
  refine Rv J J J (U_assign J) J J ?_
  refine Rt J ?_
  refine WcondP J J (fun h => absurd h (by decide)) (fun _ => ?_)
  refine W_seq J ?_
  refine Wjoin ⟨[(1, i64 ((h : Nat) : Int)), (2, i64 ((z : Nat) : Int)), (8, .rop [i64 ((H : Nat) : Int), i64 ((Z : Nat) : Int), .ros (ls.map boxesL) ls.length c, .ros ((chQ Z H ls).map rowsL) ((chQ Z H ls).length) none] 0), (19, .bool ((!(inL 0 (((H : Nat) : Int) - 1) [((h : Nat) : Int)])) || (!(inL 0 (((Z : Nat) : Int) - 1) [((z : Nat) : Int)]))))], [], 0, []⟩ ?_ ?_
  · refine W_reg J ?_
    refine Rv J J J (U_fieldAddrR J) J J ?_
    refine Rv J J J (U_load1 J J J) J J ?_
    refine Rv J J J (U_sub J J (w64 (by omega) (by omega))) J J ?_
    refine Rv J J J (U_move J) J J ?_
    refine Rv J J J (U_buildSliceF (by rfl) (by decide) J J J) J J ?_
    refine Rv J J J (U_call J J (within_p 0 (((H : Nat) : Int) - 1) [((h : Nat) : Int)] (some 1) (by first | assumption | omega | (simp; done) | (simp; omega))) J) J J ?_
    refine Rv J J J (U_not J) J J ?_
    refine Rv J J J (U_move J) J J ?_
    refine Rsplit (t := 27) J (fun hg1 => ?_) (fun hg1 => ?_)
    · rw [hg1]
      refine Rs J J J J J ?_
      refine Rs J J J J J ?_
      refine Rs J J J J J ?_
      refine Rs J J J J J ?_
      refine Rs J J J J J ?_
      refine Rs J J J J J ?_
      refine Rs J J J J J ?_
      refine Rv J J J (U_pick_t J J) J J ?_
      refine Rv J J J (U_assign J) J J ?_
      refine Re J ?_
      exact joinTo id ⟨eD J J, eD J J, eD J J, eD J J, trivial⟩ trivial J J J J (fun _ _ => J)
    · rw [hg1]
      refine Rv J J J (U_fieldAddrR J) J J ?_
      refine Rv J J J (U_load1 J J J) J J ?_
      refine Rv J J J (U_sub J J (w64 (by omega) (by omega))) J J ?_
      refine Rv J J J (U_move J) J J ?_
      refine Rv J J J (U_buildSliceF (by rfl) (by decide) J J J) J J ?_
      refine Rv J J J (U_call J J (within_p 0 (((Z : Nat) : Int) - 1) [((z : Nat) : Int)] (some 1) (by first | assumption | omega | (simp; done) | (simp; omega))) J) J J ?_
      refine Rv J J J (U_not J) J J ?_
      refine Rv J J J (U_pick_f J J) J J ?_
      refine Rv J J J (U_assign J) J J ?_
      refine Re J ?_
      exact joinTo id ⟨eD J J, eD J J, eD J J, eD J J, trivial⟩ trivial J J J J (fun _ _ => J)
  refine thenQ_n ?_
  refine Wcond J J (fun hc1 => absurd hc1 (by simp [inL]; omega)) (fun hc1 => ?_)
  refine W_skip J ?_
  refine blkQ_n ?_
  refine thenQ_n ?_
  refine Wsr J J ?_
  refine Rv J J J (U_move J) J J ?_
  refine Rv J J J (U_move J) J J ?_
  refine Rv J J J (U_move J) J J ?_
  refine Rv J J J (U_build J J) J J ?_
  refine Rv J J J (U_call J J (of_p H Z ls c z h (by omega) (by omega) (by omega)) J) J J ?_
  refine Rv J J J (U_assign J) J J ?_
  refine Rv J J J (U_assign J) J J ?_
  refine Rt J ?_
  refine W_ret J ?_
  exact retL (rlT J (rlT J rl0)) J J
theorem ofA_p (s : Sk) (c : Option Nat) (hl : s.ls.length ≤ 1000000) (hbl : ∀ l ∈ s.ls, l.length ≤ 1000000) (h z : Int) : Pure Try.prog 18 [.agg [i64 s.h, i64 s.z, landsA s.ls c], i64 h, i64 z] (.tup [intsA (ofR s h z) none, i64 (ofE s h z)]) := by
  by_cases hE : chkS s = 0
  · obtain ⟨H, Z, ls, rfl, hc, hv⟩ := chk_ok hE
    by_cases hn : 0 ≤ h ∧ h < (H : Int) ∧ 0 ≤ z ∧ z < (Z : Int)
    · have e1 : ofE ⟨H, Z, ls⟩ h z = 0 := by rw [ofE, if_neg (by simpa using hE), if_pos hn]
      have e2 : ofR ⟨H, Z, ls⟩ h z = _ := if_pos e1
      rw [e2, e1]
      obtain ⟨h', rfl⟩ : ∃ m : Nat, h = (m : Int) := ⟨h.toNat, by omega⟩
      obtain ⟨z', rfl⟩ : ∃ m : Nat, z = (m : Int) := ⟨z.toNat, by omega⟩
      exact of_g H Z ls c hc hv h' z' (by omega) (by omega)
    · have e1 : ofE ⟨H, Z, ls⟩ h z = 3 := by rw [ofE, if_neg (by simpa using hE), if_neg hn]
      have e2 : ofR ⟨H, Z, ls⟩ h z = _ := if_neg (by rw [e1]; decide)
      rw [e2, e1]
      exact of_n H Z ls c hc hv h z hn
  · have e1 : ofE s h z = chkS s := by rw [ofE, if_pos hE]
    have e2 : ofR s h z = _ := if_neg (by rw [e1]; exact hE)
    rw [e2, e1]
    exact of_e s c hl hbl h z hE
end Go.Proofs.Ythlolelbmhfdbaa
end

section
namespace Go.Proofs.Ythlolelbmhfdbaa
set_option maxRecDepth 20000
open Go.AE
def fltQ (Z H : Nat) (ls : List (List Bx)) : Option (Nat × Nat) := (plcQ Z H).find? fun p => !decide (cntQ ls H p = 1)
def num (H : Nat) (p : Nat × Nat) : Nat := p.1 * H + p.2
theorem num_at {Z H i : Nat} (h : i < (plcQ Z H).length) : num H (plcQ Z H)[i] = i := by
  rw [plcQ_at h, num]; simp only; rw [Nat.mul_comm]; exact Nat.div_add_mod i H
theorem flt_some {Z H : Nat} {ls : List (List Bx)} {i : Nat} (h : i < (plcQ Z H).length) (h1 : ∀ j (hj : j < (plcQ Z H).length), j < i → cntQ ls H (plcQ Z H)[j] = 1) (h2 : cntQ ls H (plcQ Z H)[i] ≠ 1) : fltQ Z H ls = some (plcQ Z H)[i] := by
  rw [fltQ, List.find?_eq_some_iff_getElem]
  exact ⟨by simpa using h2, i, h, rfl, fun j hj => by simpa using h1 j (by omega) hj⟩
theorem flt_none {Z H : Nat} {ls : List (List Bx)} (h1 : ∀ j (hj : j < (plcQ Z H).length), cntQ ls H (plcQ Z H)[j] = 1) : fltQ Z H ls = none := by
  rw [fltQ, List.find?_eq_none]
  intro p hp
  obtain ⟨j, hj, rfl⟩ := List.getElem_of_mem hp
  simpa using h1 j hj
theorem oddQ_mem {H k : Nat} {ls : List (List Bx)} {e : (Nat × Nat) × Nat × Nat} : e ∈ oddQ H ls k ↔ ∃ i, i < k ∧ e = oddI H ls i ∧ cntQ ls H (i / H, i % H) ≠ 1 := by
  rw [oddQ, List.mem_filter]
  constructor
  · rintro ⟨h1, h2⟩
    obtain ⟨i, hi, rfl⟩ := List.mem_map.1 h1
    exact ⟨i, List.mem_range.1 hi, rfl, fun h3 => by have h4 : decide (cntQ ls H (i / H, i % H) = 1) = false := (by rw [Bool.not_eq_true'] at h2; exact h2); rw [decide_eq_false_iff_not] at h4; exact h4 h3⟩
  · rintro ⟨i, hi, rfl, h2⟩
    exact ⟨List.mem_map.2 ⟨i, List.mem_range.2 hi, rfl⟩, by show (!decide (cntQ ls H (i / H, i % H) = 1)) = true; simpa using h2⟩
theorem oddQ_ok {H k : Nat} {ls : List (List Bx)} : MOk k (oddQ H ls k) := (oddR_ok k).1.filter _
theorem flt_nil {Z H : Nat} {ls : List (List Bx)} (h : (oddQ H ls (plcQ Z H).length).length = 0) : fltQ Z H ls = none := flt_none fun j hj => Decidable.byContradiction fun h2 => by
  rw [plcQ_at hj] at h2
  have := oddQ_mem.2 ⟨j, hj, rfl, h2⟩
  rw [List.eq_nil_of_length_eq_zero h] at this
  exact absurd this List.not_mem_nil
def aheadP (p q : Nat × Nat) : Prop := p.1 < q.1 ∨ p.1 = q.1 ∧ p.2 < q.2
theorem ahead_num {H : Nat} {p q : Nat × Nat} (h1 : p.2 < H) (h2 : q.2 < H) : aheadP p q ↔ num H p < num H q := by
  unfold aheadP num
  rcases Nat.lt_trichotomy p.1 q.1 with h | h | h
  · have := Nat.mul_le_mul_right H (show p.1 + 1 ≤ q.1 by omega)
    rw [Nat.add_mul] at this; constructor <;> omega
  · rw [h]; constructor <;> omega
  · have := Nat.mul_le_mul_right H (show q.1 + 1 ≤ p.1 by omega)
    rw [Nat.add_mul] at this; constructor <;> omega
theorem flt_min {Z H : Nat} {ls : List (List Bx)} {P : Odds} {q : Nat × Nat} (hp : P.Perm (oddQ H ls (plcQ Z H).length)) (h1 : ∃ e ∈ P, e.1 = q) (h2 : ∀ e ∈ P, ¬ aheadP e.1 q) (hq : q.1 < Z ∧ q.2 < H) : fltQ Z H ls = some q ∧ cntQ ls H q = (mget (oddQ H ls (plcQ Z H).length) q).getD 0 := by
  obtain ⟨e, he, rfl⟩ := h1
  have he' := hp.mem_iff.1 he
  obtain ⟨i, hi, rfl, hc⟩ := oddQ_mem.1 he'
  have e1 : (oddI H ls i).1 = (plcQ Z H)[i] := (plcQ_at hi).symm
  constructor
  · rw [e1]
    refine flt_some hi (fun j hj hji => Decidable.byContradiction fun h3 => ?_) (by rw [plcQ_at hi]; exact hc)
    rw [plcQ_at hj] at h3
    have h4 := hp.mem_iff.2 (oddQ_mem.2 ⟨j, hj, rfl, h3⟩)
    refine h2 _ h4 ?_
    have h5 : (oddI H ls j).1 = (plcQ Z H)[j] := (plcQ_at hj).symm
    have h6 := plcQ_in (List.getElem_mem hj)
    rw [e1, h5, ahead_num h6.2 (by rw [← e1]; exact hq.2), num_at, num_at]; exact hji
  · have h7 : mget (oddQ H ls (plcQ Z H).length) (oddI H ls i).1 = some (oddI H ls i).2.1 := (mget_mem oddQ_ok.ky).2 ⟨(oddI H ls i).2.2, he'⟩
    rw [h7]; rfl
theorem oddQ_in {Z H : Nat} {ls : List (List Bx)} {e : (Nat × Nat) × Nat × Nat} (h : e ∈ oddQ H ls (plcQ Z H).length) : e.1.1 < Z ∧ e.1.2 < H := by
  obtain ⟨i, hi, rfl, _⟩ := oddQ_mem.1 h
  have := plcQ_in (List.getElem_mem hi)
  rw [plcQ_at hi] at this; exact this
def fltR (s : Sk) : Int × Int × Int × Int := if chkS s ≠ 0 then (0, 0, 0, chkS s) else match fltQ s.z.toNat s.h.toNat s.ls with
  | none => (0, 0, 0, 5)
  | some p => (p.2, p.1, cntQ s.ls s.h.toNat p, 0)
theorem fltR_e {s : Sk} (h : chkS s ≠ 0) : fltR s = (0, 0, 0, chkS s) := if_pos h
theorem fltR_n {H Z : Nat} {ls : List (List Bx)} (hc : chkS ⟨H, Z, ls⟩ = 0) (h : fltQ Z H ls = none) : fltR ⟨H, Z, ls⟩ = (0, 0, 0, 5) := by
  have e : fltQ (⟨H, Z, ls⟩ : Sk).z.toNat (⟨H, Z, ls⟩ : Sk).h.toNat (⟨H, Z, ls⟩ : Sk).ls = none := h
  rw [fltR, if_neg (by simpa using hc), e]
theorem fltR_s {H Z : Nat} {ls : List (List Bx)} {p : Nat × Nat} (hc : chkS ⟨H, Z, ls⟩ = 0) (h : fltQ Z H ls = some p) : fltR ⟨H, Z, ls⟩ = ((p.2 : Int), (p.1 : Int), (cntQ ls H p : Int), 0) := by
  have e : fltQ (⟨H, Z, ls⟩ : Sk).z.toNat (⟨H, Z, ls⟩ : Sk).h.toNat (⟨H, Z, ls⟩ : Sk).ls = some p := h
  rw [fltR, if_neg (by simpa using hc), e]; rfl
theorem rMM {σ σ' : Nat → Nat} {n b ck : Nat} {es : List (AV × AV × Nat)} {H : AH} (hd : dataE es) (h : gt H (σ b) = (some (.map es ck) : Option ABlk).map (ABlk.ren σ')) (hb : b.blt n = true) : rowTo σ n b (some (.map es ck)) H :=
  rMp hd (by rw [h]; simp only [Option.map_some, ABlk.ren, renE_data es hd]) hb
theorem ahead_tr {x e q : Nat × Nat} (h1 : aheadP x e) (h2 : aheadP e q) : aheadP x q := by unfold aheadP at *; omega
theorem aheadT {P : Odds} {e : (Nat × Nat) × Nat × Nat} {q : Nat × Nat} {b : Bool} (h1 : b = !P.isEmpty) (h2 : b = true → ∀ x ∈ P, ¬ aheadP x.1 q) (h : b = false ∨ aheadP e.1 q) : ∀ x ∈ P ++ [e], ¬ aheadP x.1 (e.1.1, e.1.2) := by
  intro x hx h4
  rcases List.mem_append.1 hx with hx | hx
  · cases hb : b with
    | false =>
      rw [hb] at h1
      cases P with
      | nil => cases hx
      | cons y l => cases h1
    | true =>
      rcases h with h | h
      · rw [hb] at h; cases h
      · exact h2 hb x hx (ahead_tr h4 h)
  · rw [List.mem_singleton.1 hx] at h4
    unfold aheadP at h4; simp only at h4; omega
theorem aheadE {P O : Odds} {b : Bool} (h1 : b = !P.isEmpty) (h2 : P.length = O.length) (h3 : ¬ ((O.length : Nat) : Int) = 0) : b = true := by
  rw [h1]
  cases P with
  | nil => exact absurd (by rw [← h2]; rfl) h3
  | cons x l => rfl
theorem flt_e (s : Sk) (c : Option Nat) (hl : s.ls.length ≤ 1000000) (hbl : ∀ l ∈ s.ls, l.length ≤ 1000000) (hE : chkS s ≠ 0) : Pure Try.prog 20 [.agg [i64 s.h, i64 s.z, landsA s.ls c]] (.tup [i64 0, i64 0, i64 0, i64 (chkS s)]) := by
  refine pure_of_body Try.func20 (c := body Try.f20) J (by simp [Try.ntmps20]) fun w0 Φ0 => ?_
  refine Wsr J J ?_
  refine Rv J J J (U_boxF J J J) J J ?_
  refine Rv J J J (U_assign J) J J ?_
  refine Rv J J J (U_assign J) J J ?_
  refine Rv J J J (U_assign J) J J ?_
  refine Rv J J J (U_assign J) J J ?_
  refine Rt J ?_
  refine Wsr J J ?_
  refine Rv J J J (U_load3 J J J J J) J J ?_
  refine Rv J J J (U_call J J (openE0_p s c hl hbl (by rw [opS_nil]; assumption)) J) J J ?_
  refine Rv J J J (U_move J) J J ?_
  refine Rv J J J (U_extract J J) J J ?_
  refine Rv J J J (U_extract J J) J J ?_
  refine Rv J J J (U_assign J) J J ?_
  refine Rv J J J (U_assign J) J J ?_
  refine Rt J ?_
  refine W_seq J ?_
  refine Wsr J J ?_
  refine Rv J J J (U_move J) J J ?_
  refine Rv J J J (U_neq J J) J J ?_
  refine Rt J ?_
  refine WcondP J J (fun hc0 => ?_) (fun hc0 => absurd (by rw [opS_nil]; exact hE) hc0)
  refine Wsr J J ?_
  refine Rv J J J (U_move J) J J ?_
  refine Rv J J J (U_assign J) J J ?_
  refine Rv J J J (U_assign J) J J ?_
  refine Rv J J J (U_assign J) J J ?_
  refine Rv J J J (U_assign J) J J ?_
  refine Rt J ?_
  refine W_ret J ?_
  refine thenQ_r ?_
  exact retL (rlT J (rlT J (rlT J (rlT J rl0)))) (by first | rfl | (simp only [packA]; rw [opS_nil]; first | done | rfl)) J
theorem flt_g (H Z : Nat) (ls : List (List Bx)) (c : Option Nat) (hc : chkS ⟨H, Z, ls⟩ = 0) (hv : VS ⟨H, Z, ls⟩ H Z) : Pure Try.prog 20 [.agg [i64 (H : Nat), i64 (Z : Nat), landsA ls c]] (.tup [i64 (fltR ⟨H, Z, ls⟩).1, i64 (fltR ⟨H, Z, ls⟩).2.1, i64 (fltR ⟨H, Z, ls⟩).2.2.1, i64 (fltR ⟨H, Z, ls⟩).2.2.2]) := by
  have hv' := hv
  obtain ⟨_, _, hH, hZ1, hln, hlb, hbx⟩ := hv'
  simp only at hln hlb hbx
  have hZ := hZ1.2
  have hHZ : Z * H ≤ 1152 := Nat.mul_le_mul hZ hH.2
  have hHZc : H * Z = Z * H := Nat.mul_comm _ _
  refine pure_of_body Try.func20 (c := body Try.f20) J (by simp [Try.ntmps20]) fun w0 Φ0 => ?_
  refine Wsr J J ?_
  refine Rv J J J (U_boxF J J J) J J ?_
  refine Rv J J J (U_assign J) J J ?_
  refine Rv J J J (U_assign J) J J ?_
  refine Rv J J J (U_assign J) J J ?_
  refine Rv J J J (U_assign J) J J ?_
  refine Rt J ?_
  refine Wsr J J ?_
  refine Rv J J J (U_load3 J J J J J) J J ?_
  refine Rv J J J (U_call J J (openG0_p H Z ls c hc hv) J) J J ?_
  refine Rv J J J (U_move J) J J ?_
  refine Rv J J J (U_extract J J) J J ?_
  refine Rv J J J (U_extract J J) J J ?_
  refine Rv J J J (U_assign J) J J ?_
  refine Rv J J J (U_assign J) J J ?_
  refine Rt J ?_
  refine W_seq J ?_
  refine Wsr J J ?_
  refine Rv J J J (U_move J) J J ?_
  refine Rv J J J (U_neq J J) J J ?_
  refine Rt J ?_
  refine WcondP J J (fun h => absurd h (by decide)) (fun _ => ?_)
  refine W_skip J ?_
  refine thenQ_n ?_
  refine Wsr J J ?_
  refine Rv J J J (U_move J) J J ?_
  refine Ra J J J (U_callT (mapN []) J J (oddM_p H Z ls c (by omega) (by omega) (by omega)) J J trivial J J) J J J ?_
  refine Rto (T' := [(21, .mapl 0)]) (H' := [(0, some (.map (mE plcA n64 (oddQ H ls (plcQ Z H).length)) ((plcQ Z H).length)))]) (n := 1) id ⟨e_ J J, trivial⟩ ⟨rMM (mE_data (fun _ => J) (fun _ => J) _) J J, trivial⟩ J J J J (fun _ _ => J) ?_
  refine Rv J J J (U_assign J) J J ?_
  refine Rt J ?_
  refine W_seq J ?_
  refine Wsr J J ?_
  refine Rv J J J (U_move J) J J ?_
  refine Rv J J J (U_lenM (L := oddQ H ls (plcQ Z H).length) (ek := plcA) (el := n64) Try.underlying82 J J) J J ?_
  refine Rv J J J (U_eql J J) J J ?_
  refine Rt J ?_
  refine WcondP J J (fun hc1 => ?_) (fun hc1 => ?_)
  · refine Wsr J J ?_
    refine Rv J J J (U_assign J) J J ?_
    refine Rv J J J (U_assign J) J J ?_
    refine Rv J J J (U_assign J) J J ?_
    refine Rv J J J (U_assign J) J J ?_
    refine Rt J ?_
    refine W_ret J ?_
    refine thenQ_r ?_
    exact retL (rlT J (rlT J (rlT J (rlT J rl0)))) (by first | rfl | (simp only [packA]; rw [fltR_s hc hfm.1, hfm.2]; first | done | rfl) | (simp only [packA]; rw [fltR_n hc (flt_nil (by omega))]; first | done | rfl)) J
  · refine W_skip J ?_
    refine thenQ_n ?_
    refine Wsr J J ?_
    refine Ra J J J (U_alloc) J J J ?_
    refine Rt J ?_
    refine Wsr J J ?_
    refine Rv J J J (U_assign J) J J ?_
    refine Rt J ?_
    refine W_seq J ?_
    refine Wsr J J ?_
    refine Rv J J J (U_move J) J J ?_
    refine Ra J J J (U_rangeM Try.underlying82 J J) J J J ?_
    refine Rt J ?_
    refine W_block J ?_
    refine LoopTo (T' := [(8, .mapl 0), (9, .ptr 1 0), (10, .bool false), (26, .ptr 2 0)]) (H' := [(0, some (.map (mE plcA n64 (oddQ H ls (plcQ Z H).length)) ((plcQ Z H).length))), (1, some (.cells [i64 (((0, 0).1 : Nat) : Int), i64 (((0, 0).2 : Nat) : Int)] 80)), (2, some (.iter (.mapl 0) ((plcQ Z H).length) (stamps []) ((plcQ Z H).length)))]) (n := 3) J (fun mz_ qz_ => ∃ (P : Odds) (Rm : Odds) (q : Nat × Nat) (b : Bool), (P ++ Rm).Perm (oddQ H ls (plcQ Z H).length) ∧ b = !P.isEmpty ∧ ((b = true → ∃ e ∈ P, e.1 = q)) ∧ ((b = true → ∀ e ∈ P, ¬ aheadP e.1 q)) ∧ (q.1 < Z ∧ q.2 < H) ∧ mz_ = Rm.length ∧ qz_ = ⟨[(8, .mapl 0), (9, .ptr 1 0), (10, .bool b), (26, .ptr 2 0)], [(0, some (.map (mE plcA n64 (oddQ H ls (plcQ Z H).length)) ((plcQ Z H).length))), (1, some (.cells [i64 ((q.1 : Nat) : Int), i64 ((q.2 : Nat) : Int)] 80)), (2, some (.iter (.mapl 0) ((plcQ Z H).length) (stamps P) ((plcQ Z H).length)))], 3, []⟩) ⟨[], (oddQ H ls (plcQ Z H).length), (0, 0), false, (List.Perm.refl _), J, nofun, nofun, (by omega), J, J⟩ id ⟨e_ J J, e_ J J, eD J J, e_ J J, trivial⟩ ⟨rMp (mE_data (fun _ => J) (fun _ => J) _) J J, rD J J J, r_ J J J, trivial⟩ J J J J (fun _ _ => J) ?_
    rintro _ _ ⟨P, Rm, q, b, hi0_0, hi0_1, hi0_2, hi0_3, hi0_4, rfl, rfl⟩
    refine Wsr J J ?_
    refine RnextP (ek := plcA) (el := n64) (P := P) (R := Rm) (M := oddQ H ls (plcQ Z H).length) oddQ_ok hi0_0 (fun x hx => hi0_0.mem_iff.1 (List.mem_append_right _ hx)) (fun x hx => hx) J J J J J J J J J (fun hR_27 => ?_) (fun e R1_27 R2_27 he_27 hR_27 hp_27 => ?_)
    · have hPp : P.Perm (oddQ H ls (plcQ Z H).length) := by rw [hR_27, List.append_nil] at hi0_0; exact hi0_0
      have hPl := hPp.length_eq
      have hbt : b = true := aheadE hi0_1 hPl hc1
      have hfm := flt_min hPp (hi0_2 hbt) (hi0_3 hbt) hi0_4
      refine Rv J J J (U_extract J J) J J ?_
      refine Rt J ?_
      refine W_seq J ?_
      refine Wcond J J (fun h => nomatch h) (fun _ => ?_)
      refine W_exit J ?_
      refine thenQ_x ?_
      refine thenQ_x ?_
      refine blkQ_x J ?_
      refine thenQ_n ?_
      refine W_seq J ?_
      refine Wdraw J (by kernel_rfl) (by kernel_rfl) ?_
      refine Dv J J J (U_fieldAddr J) J J ?_
      refine Dv J J J (U_load1 J J J) J J ?_
      refine Dv J J J (U_fieldAddr J) J J ?_
      refine Dv J J J (U_load1 J J J) J J ?_
      refine Dv J J J (U_move J) J J ?_
      refine Dv J J J (U_load2 J J J J) J J ?_
      refine Dv J J J (U_lookupM (k := (q.1, q.2)) (L := oddQ H ls (plcQ Z H).length) oddE J J J J) J J ?_
      refine Dv J J J (U_assign J) J J ?_
      refine Dv J J J (U_assign J) J J ?_
      refine Dv J J J (U_assign J) J J ?_
      refine Dv J J J (U_assign J) J J ?_
      refine Dr.nil J ?_
      refine thenQ_n ?_
      refine W_ret J ?_
      exact retL (rlT J (rlT J (rlT J (rlT J rl0)))) (by first | rfl | (simp only [packA]; rw [fltR_s hc hfm.1, hfm.2]; first | done | rfl) | (simp only [packA]; rw [fltR_n hc (flt_nil (by omega))]; first | done | rfl)) J
    · have hez := oddQ_in he_27
      have hI1t : true = !(P ++ [e]).isEmpty := by simp
      refine Rv J J J (U_extract J J) J J ?_
      refine Rt J ?_
      refine W_seq J ?_
      refine Wcond J J (fun _ => ?_) (fun h => nomatch h)
      refine W_skip J ?_
      refine thenQ_n ?_
      refine W_block J ?_
      refine Wsr J J ?_
      refine Rv J J J (U_entryM (e := e) (P := P) (M := (oddQ H ls (plcQ Z H).length)) (ek := plcA) (el := n64) J J J oddQ_ok.st he_27) J J ?_
      refine Rv J J J (U_extract J J) J J ?_
      refine Ra J J J (U_alloc) J J J ?_
      refine Rn J J J (U_storeAll J J J J J J) J ?_
      refine Rt J ?_
      refine W_seq J ?_
      refine Wjoin ⟨[(8, .mapl 0), (9, .ptr 1 0), (10, .bool b), (11, .ptr 3 0), (26, .ptr 2 0), (53, .bool ((!b) || ((decide (((e.1.1 : Nat) : Int) < ((q.1 : Nat) : Int))) || ((decide (((e.1.1 : Nat) : Int) = ((q.1 : Nat) : Int))) && (decide (((e.1.2 : Nat) : Int) < ((q.2 : Nat) : Int)))))))], [(0, some (.map (mE plcA n64 (oddQ H ls (plcQ Z H).length)) ((plcQ Z H).length))), (1, some (.cells [i64 ((q.1 : Nat) : Int), i64 ((q.2 : Nat) : Int)] 80)), (2, some (.iter (.mapl 0) ((plcQ Z H).length) (stamps (P ++ [e])) ((plcQ Z H).length))), (3, some (.cells [i64 ((e.1.1 : Nat) : Int), i64 ((e.1.2 : Nat) : Int)] 80))], 4, []⟩ ?_ ?_
      · refine W_reg J ?_
        refine Rv J J J (U_move J) J J ?_
        refine Rv J J J (U_not J) J J ?_
        refine Rv J J J (U_move J) J J ?_
        refine Rsplit (t := 33) J (fun hg1 => ?_) (fun hg1 => ?_)
        · rw [hg1]
          refine Rs J J J J J ?_
          refine Rs J J J J J ?_
          refine Rs J J J J J ?_
          refine Rs J J J J J ?_
          refine Rs J J J J J ?_
          refine Rv J J J (U_pick_t J J) J J ?_
          refine Rv J J J (U_move J) J J ?_
          refine Rs J J J J J ?_
          refine Rs J J J J J ?_
          refine Rs J J J J J ?_
          refine Rs J J J J J ?_
          refine Rs J J J J J ?_
          refine Rs J J J J J ?_
          refine Rs J J J J J ?_
          refine Rs J J J J J ?_
          refine Rs J J J J J ?_
          refine Rs J J J J J ?_
          refine Rs J J J J J ?_
          refine Rs J J J J J ?_
          refine Rv J J J (U_pick_t J J) J J ?_
          refine Re J ?_
          exact joinTo id ⟨e_ J J, e_ J J, eD J J, e_ J J, e_ J J, eD J J, trivial⟩ ⟨rMp (mE_data (fun _ => J) (fun _ => J) _) J J, rD J J J, r_ J J J, rD J J J, trivial⟩ J J J J (fun _ _ => J)
        · rw [hg1]
          refine Rv J J J (U_fieldAddr J) J J ?_
          refine Rv J J J (U_load1 J J J) J J ?_
          refine Rv J J J (U_fieldAddr J) J J ?_
          refine Rv J J J (U_load1 J J J) J J ?_
          refine Rv J J J (U_lss J J) J J ?_
          refine Rv J J J (U_pick_f J J) J J ?_
          refine Rv J J J (U_move J) J J ?_
          refine Rsplit (t := 40) J (fun hg2 => ?_) (fun hg2 => ?_)
          · rw [hg2]
            have hg2' : ((e.1.1 : Nat) : Int) < ((q.1 : Nat) : Int) := of_decide_eq_true hg2
            refine Rs J J J J J ?_
            refine Rs J J J J J ?_
            refine Rs J J J J J ?_
            refine Rs J J J J J ?_
            refine Rs J J J J J ?_
            refine Rs J J J J J ?_
            refine Rs J J J J J ?_
            refine Rs J J J J J ?_
            refine Rs J J J J J ?_
            refine Rs J J J J J ?_
            refine Rs J J J J J ?_
            refine Rs J J J J J ?_
            refine Rv J J J (U_pick_t J J) J J ?_
            refine Re J ?_
            exact joinTo id ⟨e_ J J, e_ J J, eD J J, e_ J J, e_ J J, eD J J, trivial⟩ ⟨rMp (mE_data (fun _ => J) (fun _ => J) _) J J, rD J J J, r_ J J J, rD J J J, trivial⟩ J J J J (fun _ _ => J)
          · rw [hg2]
            have hg2' : ¬ (((e.1.1 : Nat) : Int) < ((q.1 : Nat) : Int)) := of_decide_eq_false hg2
            refine Rv J J J (U_fieldAddr J) J J ?_
            refine Rv J J J (U_load1 J J J) J J ?_
            refine Rv J J J (U_fieldAddr J) J J ?_
            refine Rv J J J (U_load1 J J J) J J ?_
            refine Rv J J J (U_eql J J) J J ?_
            refine Rv J J J (U_move J) J J ?_
            refine Rsplit (t := 46) J (fun hg3 => ?_) (fun hg3 => ?_)
            · rw [hg3]
              have hg3' : ((e.1.1 : Nat) : Int) = ((q.1 : Nat) : Int) := of_decide_eq_true hg3
              refine Rv J J J (U_fieldAddr J) J J ?_
              refine Rv J J J (U_load1 J J J) J J ?_
              refine Rv J J J (U_fieldAddr J) J J ?_
              refine Rv J J J (U_load1 J J J) J J ?_
              refine Rv J J J (U_lss J J) J J ?_
              refine Rv J J J (U_pick_t J J) J J ?_
              refine Rv J J J (U_pick_f J J) J J ?_
              refine Re J ?_
              exact joinTo id ⟨e_ J J, e_ J J, eD J J, e_ J J, e_ J J, eD J J, trivial⟩ ⟨rMp (mE_data (fun _ => J) (fun _ => J) _) J J, rD J J J, r_ J J J, rD J J J, trivial⟩ J J J J (fun _ _ => J)
            · rw [hg3]
              have hg3' : ¬ (((e.1.1 : Nat) : Int) = ((q.1 : Nat) : Int)) := of_decide_eq_false hg3
              refine Rs J J J J J ?_
              refine Rs J J J J J ?_
              refine Rs J J J J J ?_
              refine Rs J J J J J ?_
              refine Rs J J J J J ?_
              refine Rv J J J (U_pick_f J J) J J ?_
              refine Rv J J J (U_pick_f J J) J J ?_
              refine Re J ?_
              exact joinTo id ⟨e_ J J, e_ J J, eD J J, e_ J J, e_ J J, eD J J, trivial⟩ ⟨rMp (mE_data (fun _ => J) (fun _ => J) _) J J, rD J J J, r_ J J J, rD J J J, trivial⟩ J J J J (fun _ _ => J)
      refine thenQ_n ?_
      refine Wcond J J (fun hc3 => ?_) (fun hc3 => ?_)
      · have hhd : b = false ∨ aheadP e.1 q := by simp at hc3; unfold aheadP; rcases hc3 with h | h | h; exact .inl h; exact .inr (.inl (by omega)); exact .inr (.inr (by omega))
        have hI1 := hI1t
        have hI2 : true = true → ∃ x ∈ P ++ [e], x.1 = (e.1.1, e.1.2) := fun _ => ⟨e, by simp, rfl⟩
        have hI3 : true = true → ∀ x ∈ P ++ [e], ¬ aheadP x.1 (e.1.1, e.1.2) := fun _ => aheadT hi0_1 hi0_3 hhd
        have hI4 : ((e.1.1, e.1.2) : Nat × Nat).1 < Z ∧ ((e.1.1, e.1.2) : Nat × Nat).2 < H := hez
        refine W_reg J ?_
        refine Rv J J J (U_load2 J J J J) J J ?_
        refine Rn J J J (U_storeAll J J J J J J) J ?_
        refine Rv J J J (U_assign J) J J ?_
        refine Re J ?_
        refine blkQ_n ?_
        refine thenQ_n ?_
        exact againTo (T' := [(8, .mapl 0), (9, .ptr 1 0), (10, .bool true), (26, .ptr 2 0)]) (H' := [(0, some (.map (mE plcA n64 (oddQ H ls (plcQ Z H).length)) ((plcQ Z H).length))), (1, some (.cells [i64 ((e.1.1 : Nat) : Int), i64 ((e.1.2 : Nat) : Int)] 80)), (2, some (.iter (.mapl 0) ((plcQ Z H).length) (stamps (P ++ [e])) ((plcQ Z H).length)))]) (n := 3) ((R1_27 ++ R2_27).length) ⟨P ++ [e], R1_27 ++ R2_27, e.1, true, hp_27, hI1, hI2, hI3, hI4, J, J⟩ (by rw [hR_27]; simp) id ⟨e_ J J, e_ J J, eD J J, e_ J J, trivial⟩ ⟨rMp (mE_data (fun _ => J) (fun _ => J) _) J J, rD J J J, r_ J J J, trivial⟩ J J J J (fun _ _ => J)
      · have hc3' := Bool.eq_false_iff.1 hc3
        have hnf : b = true ∧ ¬ aheadP e.1 q := by simp at hc3; refine ⟨hc3.1, ?_⟩; unfold aheadP; intro h; rcases h with h | h; have := hc3.2.1; omega; have := hc3.2.2 (by omega); omega
        have hI1 : b = !(P ++ [e]).isEmpty := by rw [hnf.1]; exact hI1t
        have hI2 : b = true → ∃ x ∈ P ++ [e], x.1 = q := fun h => by obtain ⟨x, hx, hx2⟩ := hi0_2 h; exact ⟨x, List.mem_append_left _ hx, hx2⟩
        have hI3 : b = true → ∀ x ∈ P ++ [e], ¬ aheadP x.1 q := by intro h x hx; rcases List.mem_append.1 hx with hx | hx; exact hi0_3 h x hx; rw [List.mem_singleton.1 hx]; exact hnf.2
        have hI4 := hi0_4
        refine W_skip J ?_
        refine blkQ_n ?_
        refine thenQ_n ?_
        exact againTo (T' := [(8, .mapl 0), (9, .ptr 1 0), (10, .bool b), (26, .ptr 2 0)]) (H' := [(0, some (.map (mE plcA n64 (oddQ H ls (plcQ Z H).length)) ((plcQ Z H).length))), (1, some (.cells [i64 ((q.1 : Nat) : Int), i64 ((q.2 : Nat) : Int)] 80)), (2, some (.iter (.mapl 0) ((plcQ Z H).length) (stamps (P ++ [e])) ((plcQ Z H).length)))]) (n := 3) ((R1_27 ++ R2_27).length) ⟨P ++ [e], R1_27 ++ R2_27, q, b, hp_27, hI1, hI2, hI3, hI4, J, J⟩ (by rw [hR_27]; simp) id ⟨e_ J J, e_ J J, eD J J, e_ J J, trivial⟩ ⟨rMp (mE_data (fun _ => J) (fun _ => J) _) J J, rD J J J, r_ J J J, trivial⟩ J J J J (fun _ _ => J)
end Go.Proofs.Ythlolelbmhfdbaa
end

section
namespace Go.Proofs.Ythlolelbmhfdbaa
set_option maxRecDepth 20000
open Go.AE
def onceQ (s : Sk) : Int := if (fltR s).2.2.2 = 0 then 19 else if (fltR s).2.2.2 = 5 then 0 else (fltR s).2.2.2
theorem fltA_p (s : Sk) (c : Option Nat) (hl : s.ls.length ≤ 1000000) (hbl : ∀ l ∈ s.ls, l.length ≤ 1000000) : Pure Try.prog 20 [.agg [i64 s.h, i64 s.z, landsA s.ls c]] (.tup [i64 (fltR s).1, i64 (fltR s).2.1, i64 (fltR s).2.2.1, i64 (fltR s).2.2.2]) := by
  by_cases hE : chkS s = 0
  · obtain ⟨H, Z, ls, rfl, hc, hv⟩ := chk_ok hE
    exact flt_g H Z ls c hc hv
  · rw [fltR_e hE]
    exact flt_e s c hl hbl hE
theorem onceA_p (s : Sk) (c : Option Nat) (hl : s.ls.length ≤ 1000000) (hbl : ∀ l ∈ s.ls, l.length ≤ 1000000) : Pure Try.prog 25 [.agg [i64 s.h, i64 s.z, landsA s.ls c]] (i64 (onceQ s)) := by
  refine pure_of_body Try.func25 (c := body Try.f25) J (by simp [Try.ntmps25]) fun w0 Φ0 => ?_
  refine Wsr J J ?_
  refine Rv J J J (U_boxF J J J) J J ?_
  refine Rv J J J (U_assign J) J J ?_
  refine Rt J ?_
  refine Wsr J J ?_
  refine Rv J J J (U_load3 J J J J J) J J ?_
  refine Rv J J J (U_call J J (fltA_p s c hl hbl) J) J J ?_
  refine Rv J J J (U_move J) J J ?_
  refine Rv J J J (U_extract J J) J J ?_
  refine Rv J J J (U_extract J J) J J ?_
  refine Rv J J J (U_extract J J) J J ?_
  refine Rv J J J (U_extract J J) J J ?_
  refine Rv J J J (U_assign J) J J ?_
  refine Rv J J J (U_assign J) J J ?_
  refine Rv J J J (U_assign J) J J ?_
  refine Rv J J J (U_assign J) J J ?_
  refine Rt J ?_
  refine W_seq J ?_
  refine Wsr J J ?_
  refine Rv J J J (U_move J) J J ?_
  refine Rt J ?_
  refine W_block J ?_
  refine Wsr J J ?_
  refine Rv J J J (U_eql J J) J J ?_
  refine Rv J J J (U_assign J) J J ?_
  refine Rt J ?_
  refine WcondP J J (fun hc0 => ?_) (fun hc0 => ?_)
  · have hon : onceQ s = 19 := if_pos hc0
    refine Wsr J J ?_
    refine Rv J J J (U_assign J) J J ?_
    refine Rt J ?_
    refine W_ret J ?_
    refine blkQ_r ?_
    refine thenQ_r ?_
    exact retL (rlT J rl0) (by first | rfl | (simp only [packA]; rw [hon]; first | done | rfl)) J
  · refine Wsr J J ?_
    refine Rv J J J (U_eql J J) J J ?_
    refine Rv J J J (U_assign J) J J ?_
    refine Rt J ?_
    refine WcondP J J (fun hc1 => ?_) (fun hc1 => ?_)
    · have hon : onceQ s = 0 := by rw [onceQ, if_neg hc0, if_pos hc1]
      refine Wsr J J ?_
      refine Rv J J J (U_assign J) J J ?_
      refine Rt J ?_
      refine W_ret J ?_
      refine blkQ_r ?_
      refine thenQ_r ?_
      exact retL (rlT J rl0) (by first | rfl | (simp only [packA]; rw [hon]; first | done | rfl)) J
    · have hon : onceQ s = (fltR s).2.2.2 := by rw [onceQ, if_neg hc0, if_neg hc1]
      refine W_skip J ?_
      refine blkQ_n ?_
      refine thenQ_n ?_
      refine Wsr J J ?_
      refine Rv J J J (U_move J) J J ?_
      refine Rv J J J (U_assign J) J J ?_
      refine Rt J ?_
      refine W_ret J ?_
      exact retL (rlT J rl0) (by first | rfl | (simp only [packA]; rw [hon]; first | done | rfl)) J
end Go.Proofs.Ythlolelbmhfdbaa
end

section
namespace Go.Proofs.Ythlolelbmhfdbaa
set_option maxRecDepth 20000
open Go.AE
def sizQ (Z H : Nat) (l : List Bx) : Nat := (fldQ Z H l).sum
theorem sumN_snoc {l : List Nat} {k : Nat} (hk : k < l.length) : (l.take (k + 1)).sum = (l.take k).sum + l[k] := by
  rw [List.take_succ_eq_append_getElem hk, List.sum_append]; simp
theorem fldQ_sum_le {Z H : Nat} {l : List Bx} (k : Nat) : ((fldQ Z H l).take k).sum ≤ k := by
  induction k with
  | zero => simp
  | succ k ih =>
    by_cases hk : k < (fldQ Z H l).length
    · rw [sumN_snoc hk]; have := fldQ_le hk; omega
    · rw [List.take_of_length_le (by omega)]; rw [List.take_of_length_le (by omega)] at ih; omega
theorem fld_plc {Z H i : Nat} {l : List Bx} (hi : i < (plcQ Z H).length) : bitQ l H (plcQ Z H)[i].1 (plcQ Z H)[i].2 = (fldQ Z H l)[i]'(by rw [fldQ_len, ← plcQ_len]; exact hi) := by
  rw [plcQ_at hi, fldQ_get]
abbrev lndQ (ls : List (List Bx)) (a : Int) : List Bx := ls.getD a.toNat []
theorem lnd_at {ls : List (List Bx)} {a : Nat} (h : a < ls.length) : lndQ ls (a : Int) = ls[a] := by simp [lndQ, h]
def sizR (s : Sk) (a : Int) : Int := if opS s [a] = 0 then (sizQ s.z.toNat s.h.toNat (lndQ s.ls a) : Nat) else 0
theorem sizR_e {s : Sk} {a : Int} (h : opS s [a] ≠ 0) : sizR s a = 0 := if_neg h
theorem opS_a {H Z : Nat} {ls : List (List Bx)} (hc : chkS ⟨H, Z, ls⟩ = 0) {a : Nat} (ha : a < ls.length) : opS ⟨H, Z, ls⟩ [(a : Int)] = 0 := opS_0 hc (by rw [inL1]; simp; omega)
theorem opS_ab {H Z : Nat} {ls : List (List Bx)} (hc : chkS ⟨H, Z, ls⟩ = 0) {a b : Nat} (ha : a < ls.length) (hb : b < ls.length) : opS ⟨H, Z, ls⟩ [(a : Int), (b : Int)] = 0 := opS_0 hc (by simp [inL]; omega)
theorem sizR_g {H Z : Nat} {ls : List (List Bx)} (hc : chkS ⟨H, Z, ls⟩ = 0) {a : Nat} (ha : a < ls.length) : sizR ⟨H, Z, ls⟩ (a : Int) = (sizQ Z H ls[a] : Nat) := by
  rw [sizR, if_pos (opS_a hc ha), lnd_at ha]; rfl
def brdE (s : Sk) (a b : Int) : Int := if opS s [a, b] ≠ 0 then opS s [a, b] else if a = b then 15 else 0
def brdR (s : Sk) (a b : Int) : Int := if brdE s a b = 0 then (brQ s.z.toNat s.h.toNat (lndQ s.ls a) (lndQ s.ls b) : Nat) else 0
theorem brdR_g {H Z : Nat} {ls : List (List Bx)} (hc : chkS ⟨H, Z, ls⟩ = 0) {a b : Nat} (ha : a < ls.length) (hb : b < ls.length) (hn : a ≠ b) : brdE ⟨H, Z, ls⟩ (a : Int) (b : Int) = 0 ∧ brdR ⟨H, Z, ls⟩ (a : Int) (b : Int) = (brQ Z H ls[a] ls[b] : Nat) := by
  have e1 : brdE ⟨H, Z, ls⟩ (a : Int) (b : Int) = 0 := by rw [brdE, if_neg (by simpa using opS_ab hc ha hb), if_neg (by omega)]
  exact ⟨e1, by rw [brdR, if_pos e1, lnd_at ha, lnd_at hb]; rfl⟩
theorem brdR_q {H Z : Nat} {ls : List (List Bx)} (hc : chkS ⟨H, Z, ls⟩ = 0) {a : Nat} (ha : a < ls.length) : brdE ⟨H, Z, ls⟩ (a : Int) (a : Int) = 15 ∧ brdR ⟨H, Z, ls⟩ (a : Int) (a : Int) = 0 := by
  have e1 : brdE ⟨H, Z, ls⟩ (a : Int) (a : Int) = 15 := by rw [brdE, if_neg (by simpa using opS_ab hc ha ha), if_pos rfl]
  exact ⟨e1, by rw [brdR, if_neg (by rw [e1]; decide)]⟩
theorem brdR_e {s : Sk} {a b : Int} (h : opS s [a, b] ≠ 0) : brdE s a b = opS s [a, b] ∧ brdR s a b = 0 := by
  have e1 : brdE s a b = opS s [a, b] := by rw [brdE, if_pos h]
  exact ⟨e1, by rw [brdR, if_neg (by rw [e1]; exact h)]⟩
def neiK (Z H : Nat) (ls : List (List Bx)) (a k : Nat) : List Int := ((List.range k).filter fun i => decide (i ≠ a) && nrQ Z H (ls.getD a []) (ls.getD i [])).map fun (i : Nat) => (i : Int)
theorem neiK_t {Z H : Nat} {ls : List (List Bx)} {a k : Nat} (ha : a < ls.length) (hk : k < ls.length) (h1 : k ≠ a) (h2 : nrQ Z H ls[a] ls[k] = true) : neiK Z H ls a (k + 1) = neiK Z H ls a k ++ [((k : Nat) : Int)] := by
  have e1 : ls.getD a [] = ls[a] := by rw [List.getD_eq_getElem?_getD, List.getElem?_eq_getElem ha]; rfl
  have e2 : ls.getD k [] = ls[k] := by rw [List.getD_eq_getElem?_getD, List.getElem?_eq_getElem hk]; rfl
  rw [neiK, List.range_succ, List.filter_append, List.map_append, List.filter_cons_of_pos (by rw [e1, e2, h2]; simpa using h1)]; rfl
theorem neiK_f {Z H : Nat} {ls : List (List Bx)} {a k : Nat} (ha : a < ls.length) (hk : k < ls.length) (h : ¬ (k ≠ a ∧ nrQ Z H ls[a] ls[k] = true)) : neiK Z H ls a (k + 1) = neiK Z H ls a k := by
  have e1 : ls.getD a [] = ls[a] := by rw [List.getD_eq_getElem?_getD, List.getElem?_eq_getElem ha]; rfl
  have e2 : ls.getD k [] = ls[k] := by rw [List.getD_eq_getElem?_getD, List.getElem?_eq_getElem hk]; rfl
  rw [neiK, List.range_succ, List.filter_append, List.map_append, List.filter_cons_of_neg (by rw [e1, e2]; simpa using h)]; exact List.append_nil _
theorem neiK_len {Z H : Nat} {ls : List (List Bx)} {a k : Nat} : (neiK Z H ls a k).length ≤ k := by
  rw [neiK, List.length_map]; exact Nat.le_trans (List.length_filter_le _ _) (by simp)
def neiR (s : Sk) (a : Int) : List Int := if opS s [a] = 0 then neiK s.z.toNat s.h.toNat s.ls a.toNat s.ls.length else []
theorem neiR_g {H Z : Nat} {ls : List (List Bx)} (hc : chkS ⟨H, Z, ls⟩ = 0) {a : Nat} (ha : a < ls.length) : neiR ⟨H, Z, ls⟩ (a : Int) = neiK Z H ls a ls.length := by
  rw [neiR, if_pos (opS_a hc ha)]; rfl
theorem siz_e (s : Sk) (c : Option Nat) (hl : s.ls.length ≤ 1000000) (hbl : ∀ l ∈ s.ls, l.length ≤ 1000000) (a : Int) (hE : opS s [a] ≠ 0) : Pure Try.prog 27 [.agg [i64 s.h, i64 s.z, landsA s.ls c], i64 a] (.tup [i64 0, i64 (opS s [a])]) := by
  refine pure_of_body Try.func27 (c := body Try.f27) J (by simp [Try.ntmps27]) fun w0 Φ0 => ?_
  refine Wsr J J ?_
  refine Rv J J J (U_boxF J J J) J J ?_
  refine Rv J J J (U_boxF J J J) J J ?_
  refine Rv J J J (U_assign J) J J ?_
  refine Rv J J J (U_assign J) J J ?_
  refine Rt J ?_
  refine Wsr J J ?_
  refine Rv J J J (U_load3 J J J J J) J J ?_
  refine Rv J J J (U_load1 J J J) J J ?_
  refine Rv J J J (U_buildSliceF (by rfl) (by decide) J J J) J J ?_
  refine Rv J J J (U_call J J (openE_p s c hl hbl [a] (some 1) (by first | assumption | omega | (simp; done) | (simp; omega)) hE) J) J J ?_
  refine Rv J J J (U_move J) J J ?_
  refine Rv J J J (U_extract J J) J J ?_
  refine Rv J J J (U_extract J J) J J ?_
  refine Ra J J J (U_alloc) J J J ?_
  refine Rn J J J (U_store1 J J J J) J ?_
  refine Rv J J J (U_assign J) J J ?_
  refine Rt J ?_
  refine WfrN 0 J J (T' := [(3, .rop [i64 a] 0), (6, .rop [.nilp] 0), (7, i64 (opS s [a]))]) (H' := []) ⟨⟨_, J, J⟩, ⟨_, J, J⟩, ⟨_, J, J⟩, trivial⟩ trivial ?_
  refine W_seq J ?_
  refine Wsr J J ?_
  refine Rv J J J (U_move J) J J ?_
  refine Rv J J J (U_neq J J) J J ?_
  refine Rt J ?_
  refine WcondP J J (fun hc0 => ?_) (fun hc0 => absurd (hE) hc0)
  refine Wsr J J ?_
  refine Rv J J J (U_move J) J J ?_
  refine Rv J J J (U_assign J) J J ?_
  refine Rv J J J (U_assign J) J J ?_
  refine Rt J ?_
  refine W_ret J ?_
  refine thenQ_r ?_
  exact retL (rlT J (rlT J rl0)) J J
theorem nei_e (s : Sk) (c : Option Nat) (hl : s.ls.length ≤ 1000000) (hbl : ∀ l ∈ s.ls, l.length ≤ 1000000) (a : Int) (hE : opS s [a] ≠ 0) : Pure Try.prog 33 [.agg [i64 s.h, i64 s.z, landsA s.ls c], i64 a] (.tup [intsA ([] : List Int) none, i64 (opS s [a])]) := by
  refine pure_of_body Try.func33 (c := body Try.f33) J (by simp [Try.ntmps33]) fun w0 Φ0 => ?_
  refine Wsr J J ?_
  refine Rv J J J (U_boxF J J J) J J ?_
  refine Rv J J J (U_assign J) J J ?_
  refine Rv J J J (U_assign J) J J ?_
  refine Rt J ?_
  refine Wsr J J ?_
  refine Rv J J J (U_load3 J J J J J) J J ?_
  refine Rv J J J (U_move J) J J ?_
  refine Rv J J J (U_buildSliceF (by rfl) (by decide) J J J) J J ?_
  refine Rv J J J (U_call J J (openE_p s c hl hbl [a] (some 1) (by first | assumption | omega | (simp; done) | (simp; omega)) hE) J) J J ?_
  refine Rv J J J (U_move J) J J ?_
  refine Rv J J J (U_extract J J) J J ?_
  refine Rv J J J (U_extract J J) J J ?_
  refine Rv J J J (U_assign J) J J ?_
  refine Rv J J J (U_assign J) J J ?_
  refine Rt J ?_
  refine W_seq J ?_
  refine Wsr J J ?_
  refine Rv J J J (U_move J) J J ?_
  refine Rv J J J (U_neq J J) J J ?_
  refine Rt J ?_
  refine WcondP J J (fun hc0 => ?_) (fun hc0 => absurd (hE) hc0)
  refine Wsr J J ?_
  refine Rv J J J (U_move J) J J ?_
  refine Rv J J J (U_assign J) J J ?_
  refine Rv J J J (U_assign J) J J ?_
  refine Rt J ?_
  refine WweakT (j := 4) J (le_nils (cs := [])) ?_
  refine W_ret J ?_
  refine thenQ_r ?_
  exact retL (rlT J (rlT J rl0)) (by first | rfl | (simp only [packA]; rfl; first | done | rfl)) J
theorem brd_e (s : Sk) (c : Option Nat) (hl : s.ls.length ≤ 1000000) (hbl : ∀ l ∈ s.ls, l.length ≤ 1000000) (a b : Int) (hE : opS s [a, b] ≠ 0) : Pure Try.prog 31 [.agg [i64 s.h, i64 s.z, landsA s.ls c], i64 a, i64 b] (.tup [i64 0, i64 (opS s [a, b])]) := by
  refine pure_of_body Try.func31 (c := body Try.f31) J (by simp [Try.ntmps31]) fun w0 Φ0 => ?_
  refine Wsr J J ?_
  refine Rv J J J (U_boxF J J J) J J ?_
  refine Rv J J J (U_assign J) J J ?_
  refine Rv J J J (U_assign J) J J ?_
  refine Rt J ?_
  refine Wsr J J ?_
  refine Rv J J J (U_load3 J J J J J) J J ?_
  refine Rv J J J (U_move J) J J ?_
  refine Rv J J J (U_move J) J J ?_
  refine Rv J J J (U_buildSliceF (by rfl) (by decide) J J J) J J ?_
  refine Rv J J J (U_call J J (openE_p s c hl hbl [a, b] (some 2) (by first | assumption | omega | (simp; done) | (simp; omega)) hE) J) J J ?_
  refine Rv J J J (U_move J) J J ?_
  refine Rv J J J (U_extract J J) J J ?_
  refine Rv J J J (U_extract J J) J J ?_
  refine Rv J J J (U_assign J) J J ?_
  refine Rv J J J (U_assign J) J J ?_
  refine Rt J ?_
  refine W_seq J ?_
  refine W_block J ?_
  refine Wsr J J ?_
  refine Rv J J J (U_move J) J J ?_
  refine Rv J J J (U_neq J J) J J ?_
  refine Rv J J J (U_assign J) J J ?_
  refine Rt J ?_
  refine WcondP J J (fun hc0 => ?_) (fun hc0 => absurd (hE) hc0)
  refine Wsr J J ?_
  refine Rv J J J (U_move J) J J ?_
  refine Rv J J J (U_assign J) J J ?_
  refine Rv J J J (U_assign J) J J ?_
  refine Rt J ?_
  refine W_ret J ?_
  refine blkQ_r ?_
  refine thenQ_r ?_
  exact retL (rlT J (rlT J rl0)) J J
theorem siz_g (H Z : Nat) (ls : List (List Bx)) (c : Option Nat) (hc : chkS ⟨H, Z, ls⟩ = 0) (hv : VS ⟨H, Z, ls⟩ H Z) (a : Nat) (ha : a < ls.length) : Pure Try.prog 27 [.agg [i64 (H : Nat), i64 (Z : Nat), landsA ls c], i64 (a : Nat)] (.tup [i64 ((sizQ Z H ls[a] : Nat) : Int), i64 0]) := by
  have hv' := hv
  obtain ⟨_, _, hH, hZ1, hln, hlb, hbx⟩ := hv'
  simp only at hln hlb hbx
  have hZ := hZ1.2
  have hHZ : Z * H ≤ 1152 := Nat.mul_le_mul hZ hH.2
  have hHZc : H * Z = Z * H := Nat.mul_comm _ _
  have hfl : (fldQ Z H ls[a]).length = Z * H := fldQ_len
  refine pure_of_body Try.func27 (c := body Try.f27) J (by simp [Try.ntmps27]) fun w0 Φ0 => ?_
  refine Wsr J J ?_
  refine Rv J J J (U_boxF J J J) J J ?_
  refine Rv J J J (U_boxF J J J) J J ?_
  refine Rv J J J (U_assign J) J J ?_
  refine Rv J J J (U_assign J) J J ?_
  refine Rt J ?_
  refine Wsr J J ?_
  refine Rv J J J (U_load3 J J J J J) J J ?_
  refine Rv J J J (U_load1 J J J) J J ?_
  refine Rv J J J (U_buildSliceF (by rfl) (by decide) J J J) J J ?_
  refine Rv J J J (U_call J J (openG_p H Z ls c hc hv [((a : Nat) : Int)] (some 1) (by first | assumption | omega | (simp; done) | (simp; omega)) (by first | assumption | (rw [inL1]; simp; omega) | (simp [inL]; omega))) J) J J ?_
  refine Rv J J J (U_move J) J J ?_
  refine Rv J J J (U_extract J J) J J ?_
  refine Rv J J J (U_extract J J) J J ?_
  refine Ra J J J (U_alloc) J J J ?_
  refine Rn J J J (U_store1 J J J J) J ?_
  refine Rv J J J (U_assign J) J J ?_
  refine Rt J ?_
  refine WfrN 0 J J (T' := [(3, .rop [i64 ((a : Nat) : Int)] 0), (6, .rop [.rop [i64 ((H : Nat) : Int), i64 ((Z : Nat) : Int), .ros (ls.map boxesL) ls.length c, .ros ((chQ Z H ls).map rowsL) ((chQ Z H ls).length) none] 0] 0), (7, i64 0)]) (H' := []) ⟨⟨_, J, J⟩, ⟨_, J, J⟩, ⟨_, J, J⟩, trivial⟩ trivial ?_
  refine W_seq J ?_
  refine Wsr J J ?_
  refine Rv J J J (U_move J) J J ?_
  refine Rv J J J (U_neq J J) J J ?_
  refine Rt J ?_
  refine WcondP J J (fun h => absurd h (by decide)) (fun _ => ?_)
  refine W_skip J ?_
  refine thenQ_n ?_
  refine Wsr J J ?_
  refine Ra J J J (U_alloc) J J J ?_
  refine Rn J J J (U_store1 J J J J) J ?_
  refine Rt J ?_
  refine W_seq J ?_
  refine Wsr J J ?_
  refine Rv J J J (U_load1 J J J) J J ?_
  refine Rv J J J (U_call J J (places_p H Z ls c) J) J J ?_
  refine Rt J ?_
  refine W_block J ?_
  refine W_rangeI (T' := [(3, .rop [i64 ((a : Nat) : Int)] 0), (6, .rop [.rop [i64 ((H : Nat) : Int), i64 ((Z : Nat) : Int), .ros (ls.map boxesL) ls.length c, .ros ((chQ Z H ls).map rowsL) ((chQ Z H ls).length) none] 0] 0), (8, .ptr 1 0), (21, .fn 101 [] [.rop [.rop [i64 ((H : Nat) : Int), i64 ((Z : Nat) : Int), .ros (ls.map boxesL) ls.length c, .ros ((chQ Z H ls).map rowsL) ((chQ Z H ls).length) none] 0] 0])]) (n := 2) J J (places_it H Z ls c hH hZ) (fun i => [(1, some (.cells [i64 ((((fldQ Z H ls[a]).take i).sum : Nat) : Int)] 3))]) ⟨eD J J, eD J J, e_ J J, eD J J, trivial⟩ ⟨rD J J J, trivial⟩ J J J J J (fun i => ⟨rD J J J, trivial⟩) ?_ ?_
  · intro i x_ hx_ C_ hC_ N_ hN_
    obtain ⟨hi_, rfl⟩ := mapAt hx_
    have hpz := plcQ_in (List.getElem_mem hi_)
    have hil : i < (plcQ Z H).length := hi_
    have hilen := plcQ_len (Z := Z) (H := H)
    have hZH : Z * H ≤ 1152 := Nat.mul_le_mul hZ hH.2
    have hfs := fldQ_sum_le (Z := Z) (H := H) (l := ls[a]) i
    have hbq := bitQ_le (l := ls[a]) (H := H) (z := (plcQ Z H)[i].1) (h := (plcQ Z H)[i].2)
    obtain ⟨_, w0_, Wr_, Φ0_, ro_, nt_, k0_, ρ0_⟩ := C_
    have hC2_ : _ = Try.prog := hC_
    subst hC2_
    intro ρ_ Φ_ w_ lc_
    refine W_reg J ?_
    refine Ra J J J (U_alloc) J J J ?_
    refine Rn J J J (U_storeAll J J J J J J) J ?_
    refine Re J ?_
    refine ⟨rfl, ?_⟩
    refine W_block J ?_
    refine Wdraw J (by kernel_rfl) (by kernel_rfl) ?_
    refine Dv J J J (U_load1 J J J) J J ?_
    refine Dv J J J (U_load1 J J J) J J ?_
    refine Dv J J J (U_load1 J J J) J J ?_
    refine Dv J J J (U_load2 J J J J) J J ?_
    refine Dv J J J (U_call J J (in_p H Z ls c a (((plcQ Z H)[i]).1) (((plcQ Z H)[i]).2) (by omega) (by omega) (by omega)) J) J J ?_
    refine Dv J J J (U_add J J (w64e (m := ((((fldQ Z H ls[a]).take i).sum + bitQ ls[a] H (((plcQ Z H)[i]).1) (((plcQ Z H)[i]).2) : Nat) : Int)) (by omega) (by omega) (by omega))) J J ?_
    refine Dn_ J J J (U_store1 J J J J) J J ?_
    refine Dr.nil J ?_
    refine blkQ_n ?_
    refine ⟨rfl, ?_⟩
    exact hN_ _ _ ⟨(rD rfl (by rw [sumN_snoc (by omega), ← fld_plc hi_]; rfl) rfl), trivial⟩
  rw [List.length_map]
  refine blkQ_n ?_
  refine thenQ_n ?_
  refine Wsr J J ?_
  refine Rv J J J (U_load1 J J J) J J ?_
  refine Rv J J J (U_assign J) J J ?_
  refine Rv J J J (U_assign J) J J ?_
  refine Rt J ?_
  refine W_ret J ?_
  exact retL (rlT J (rlT J rl0)) (by first | rfl | (simp only [packA]; rw [List.take_of_length_le (by rw [fldQ_len, plcQ_len]; exact Nat.le_refl _)]; first | done | rfl)) J
theorem brd_g (H Z : Nat) (ls : List (List Bx)) (c : Option Nat) (hc : chkS ⟨H, Z, ls⟩ = 0) (hv : VS ⟨H, Z, ls⟩ H Z) (a b : Nat) (ha : a < ls.length) (hb : b < ls.length) (hn : a ≠ b) : Pure Try.prog 31 [.agg [i64 (H : Nat), i64 (Z : Nat), landsA ls c], i64 (a : Nat), i64 (b : Nat)] (.tup [i64 ((brQ Z H ls[a] ls[b] : Nat) : Int), i64 0]) := by
  have hv' := hv
  obtain ⟨_, _, hH, hZ1, hln, hlb, hbx⟩ := hv'
  simp only at hln hlb hbx
  have hZ := hZ1.2
  have hHZ : Z * H ≤ 1152 := Nat.mul_le_mul hZ hH.2
  have hHZc : H * Z = Z * H := Nat.mul_comm _ _
  refine pure_of_body Try.func31 (c := body Try.f31) J (by simp [Try.ntmps31]) fun w0 Φ0 => ?_
  refine Wsr J J ?_
  refine Rv J J J (U_boxF J J J) J J ?_
  refine Rv J J J (U_assign J) J J ?_
  refine Rv J J J (U_assign J) J J ?_
  refine Rt J ?_
  refine Wsr J J ?_
  refine Rv J J J (U_load3 J J J J J) J J ?_
  refine Rv J J J (U_move J) J J ?_
  refine Rv J J J (U_move J) J J ?_
  refine Rv J J J (U_buildSliceF (by rfl) (by decide) J J J) J J ?_
  refine Rv J J J (U_call J J (openG_p H Z ls c hc hv [((a : Nat) : Int), ((b : Nat) : Int)] (some 2) (by first | assumption | omega | (simp; done) | (simp; omega)) (by first | assumption | (rw [inL1]; simp; omega) | (simp [inL]; omega))) J) J J ?_
  refine Rv J J J (U_move J) J J ?_
  refine Rv J J J (U_extract J J) J J ?_
  refine Rv J J J (U_extract J J) J J ?_
  refine Rv J J J (U_assign J) J J ?_
  refine Rv J J J (U_assign J) J J ?_
  refine Rt J ?_
  refine W_seq J ?_
  refine W_block J ?_
  refine Wsr J J ?_
  refine Rv J J J (U_move J) J J ?_
  refine Rv J J J (U_neq J J) J J ?_
  refine Rv J J J (U_assign J) J J ?_
  refine Rt J ?_
  refine WcondP J J (fun h => absurd h (by decide)) (fun _ => ?_)
  refine Wsr J J ?_
  refine Rv J J J (U_move J) J J ?_
  refine Rv J J J (U_move J) J J ?_
  refine Rv J J J (U_eql J J) J J ?_
  refine Rv J J J (U_assign J) J J ?_
  refine Rt J ?_
  refine WcondP J J (fun hc1 => absurd hc1 (by omega)) (fun hc1 => ?_)
  refine W_skip J ?_
  refine blkQ_n ?_
  refine thenQ_n ?_
  refine Wsr J J ?_
  refine Rv J J J (U_move J) J J ?_
  refine Rv J J J (U_move J) J J ?_
  refine Rv J J J (U_move J) J J ?_
  refine Rv J J J (U_call J J (border_p H Z ls c a b (by omega) (by omega) (by omega) (by omega)) J) J J ?_
  refine Rv J J J (U_assign J) J J ?_
  refine Rv J J J (U_assign J) J J ?_
  refine Rt J ?_
  refine W_ret J ?_
  exact retL (rlT J (rlT J rl0)) J J
theorem brd_q (H Z : Nat) (ls : List (List Bx)) (c : Option Nat) (hc : chkS ⟨H, Z, ls⟩ = 0) (hv : VS ⟨H, Z, ls⟩ H Z) (a : Nat) (ha : a < ls.length) : Pure Try.prog 31 [.agg [i64 (H : Nat), i64 (Z : Nat), landsA ls c], i64 (a : Nat), i64 (a : Nat)] (.tup [i64 0, i64 15]) := by
  have hv' := hv
  obtain ⟨_, _, hH, hZ1, hln, hlb, hbx⟩ := hv'
  simp only at hln hlb hbx
  have hZ := hZ1.2
  have hHZ : Z * H ≤ 1152 := Nat.mul_le_mul hZ hH.2
  have hHZc : H * Z = Z * H := Nat.mul_comm _ _
  refine pure_of_body Try.func31 (c := body Try.f31) J (by simp [Try.ntmps31]) fun w0 Φ0 => ?_
  refine Wsr J J ?_
  refine Rv J J J (U_boxF J J J) J J ?_
  refine Rv J J J (U_assign J) J J ?_
  refine Rv J J J (U_assign J) J J ?_
  refine Rt J ?_
  refine Wsr J J ?_
  refine Rv J J J (U_load3 J J J J J) J J ?_
  refine Rv J J J (U_move J) J J ?_
  refine Rv J J J (U_move J) J J ?_
  refine Rv J J J (U_buildSliceF (by rfl) (by decide) J J J) J J ?_
  refine Rv J J J (U_call J J (openG_p H Z ls c hc hv [((a : Nat) : Int), ((a : Nat) : Int)] (some 2) (by first | assumption | omega | (simp; done) | (simp; omega)) (by first | assumption | (rw [inL1]; simp; omega) | (simp [inL]; omega))) J) J J ?_
  refine Rv J J J (U_move J) J J ?_
  refine Rv J J J (U_extract J J) J J ?_
  refine Rv J J J (U_extract J J) J J ?_
  refine Rv J J J (U_assign J) J J ?_
  refine Rv J J J (U_assign J) J J ?_
  refine Rt J ?_
  refine W_seq J ?_
  refine W_block J ?_
  refine Wsr J J ?_
  refine Rv J J J (U_move J) J J ?_
  refine Rv J J J (U_neq J J) J J ?_
  refine Rv J J J (U_assign J) J J ?_
  refine Rt J ?_
  refine WcondP J J (fun h => absurd h (by decide)) (fun _ => ?_)
  refine Wsr J J ?_
  refine Rv J J J (U_move J) J J ?_
  refine Rv J J J (U_move J) J J ?_
  refine Rv J J J (U_eql J J) J J ?_
  refine Rv J J J (U_assign J) J J ?_
  refine Rt J ?_
  refine WcondP J J (fun hc1 => ?_) (fun hc1 => absurd (J) hc1)
  refine Wsr J J ?_
  refine Rv J J J (U_assign J) J J ?_
  refine Rv J J J (U_assign J) J J ?_
  refine Rt J ?_
  refine W_ret J ?_
  refine blkQ_r ?_
  refine thenQ_r ?_
  exact retL (rlT J (rlT J rl0)) J J
theorem nei_g (H Z : Nat) (ls : List (List Bx)) (c : Option Nat) (hc : chkS ⟨H, Z, ls⟩ = 0) (hv : VS ⟨H, Z, ls⟩ H Z) (a : Nat) (ha : a < ls.length) : Pure Try.prog 33 [.agg [i64 (H : Nat), i64 (Z : Nat), landsA ls c], i64 (a : Nat)] (.tup [intsA (neiK Z H ls a ls.length) none, i64 0]) := by
  have hv' := hv
  obtain ⟨_, _, hH, hZ1, hln, hlb, hbx⟩ := hv'
  simp only at hln hlb hbx
  have hZ := hZ1.2
  have hHZ : Z * H ≤ 1152 := Nat.mul_le_mul hZ hH.2
  have hHZc : H * Z = Z * H := Nat.mul_comm _ _
  refine pure_of_body Try.func33 (c := body Try.f33) J (by simp [Try.ntmps33]) fun w0 Φ0 => ?_
  refine Wsr J J ?_
  refine Rv J J J (U_boxF J J J) J J ?_
  refine Rv J J J (U_assign J) J J ?_
  refine Rv J J J (U_assign J) J J ?_
  refine Rt J ?_
  refine Wsr J J ?_
  refine Rv J J J (U_load3 J J J J J) J J ?_
  refine Rv J J J (U_move J) J J ?_
  refine Rv J J J (U_buildSliceF (by rfl) (by decide) J J J) J J ?_
  refine Rv J J J (U_call J J (openG_p H Z ls c hc hv [((a : Nat) : Int)] (some 1) (by first | assumption | omega | (simp; done) | (simp; omega)) (by first | assumption | (rw [inL1]; simp; omega) | (simp [inL]; omega))) J) J J ?_
  refine Rv J J J (U_move J) J J ?_
  refine Rv J J J (U_extract J J) J J ?_
  refine Rv J J J (U_extract J J) J J ?_
  refine Rv J J J (U_assign J) J J ?_
  refine Rv J J J (U_assign J) J J ?_
  refine Rt J ?_
  refine W_seq J ?_
  refine Wsr J J ?_
  refine Rv J J J (U_move J) J J ?_
  refine Rv J J J (U_neq J J) J J ?_
  refine Rt J ?_
  refine WcondP J J (fun h => absurd h (by decide)) (fun _ => ?_)
  refine W_skip J ?_
  refine thenQ_n ?_
  refine Wsr J J ?_
  refine Rv J J J (U_assign J) J J ?_
  refine Rt J ?_
  refine W_seq J ?_
  refine Wsr J J ?_
  refine Rv J J J (U_fieldAddrR J) J J ?_
  refine Rv J J J (U_load1 J J J) J J ?_
  refine Rv J J J (U_lenOf J len_ros) J J ?_
  refine Rv J J J (U_move J) J J ?_
  refine Rt J ?_
  refine W_block J ?_
  refine LoopTo (T' := [(1, i64 ((a : Nat) : Int)), (6, .rop [i64 ((H : Nat) : Int), i64 ((Z : Nat) : Int), .ros (ls.map boxesL) ls.length c, .ros ((chQ Z H ls).map rowsL) ((chQ Z H ls).length) none] 0), (8, .out 0 [].length 1), (22, i64 ((ls.length : Nat) : Int)), (23, i64 ((0 : Nat) : Int))]) (H' := [(0, outB ([].map i64) 3 [].length)]) (n := 1) J (fun mz_ qz_ => ∃ (i : Nat) (l : List Int), i ≤ ls.length ∧ l = neiK Z H ls a i ∧ mz_ = ls.length - i ∧ qz_ = ⟨[(1, i64 ((a : Nat) : Int)), (6, .rop [i64 ((H : Nat) : Int), i64 ((Z : Nat) : Int), .ros (ls.map boxesL) ls.length c, .ros ((chQ Z H ls).map rowsL) ((chQ Z H ls).length) none] 0), (8, .out 0 l.length 1), (22, i64 ((ls.length : Nat) : Int)), (23, i64 ((i : Nat) : Int))], [(0, outB (l.map i64) 3 l.length)], 1, []⟩) ⟨0, [], (by omega), J, J, J⟩ id ⟨eD J J, eD J J, eW J le_nils_out J, eD J J, eD J J, trivial⟩ ⟨rO0 J, trivial⟩ J J J J (fun _ _ => J) ?_
  rintro _ _ ⟨i, l, hi0_0, hi0_1, rfl, rfl⟩
  have hll : l.length ≤ i := by rw [hi0_1]; exact neiK_len
  refine Wsr J J ?_
  refine Rv J J J (U_lss J J) J J ?_
  refine Rt J ?_
  refine W_seq J ?_
  refine WcondP J J (fun hc1 => ?_) (fun hc1 => ?_)
  · have hck : i < ls.length := by omega
    refine W_skip J ?_
    refine thenQ_n ?_
    refine W_seq J ?_
    refine W_block J ?_
    refine Wsr J J ?_
    refine Rv J J J (U_move J) J J ?_
    refine Rv J J J (U_assign J) J J ?_
    refine Rt J ?_
    refine W_seq J ?_
    refine Wjoin ⟨[(1, i64 ((a : Nat) : Int)), (6, .rop [i64 ((H : Nat) : Int), i64 ((Z : Nat) : Int), .ros (ls.map boxesL) ls.length c, .ros ((chQ Z H ls).map rowsL) ((chQ Z H ls).length) none] 0), (8, .out 0 l.length 1), (9, i64 ((i : Nat) : Int)), (22, i64 ((ls.length : Nat) : Int)), (23, i64 ((i : Nat) : Int)), (34, .bool ((decide (((i : Nat) : Int) ≠ ((a : Nat) : Int))) && (nrQ Z H ls[a] ls[i])))], [(0, outB (l.map i64) 3 l.length)], 1, []⟩ ?_ ?_
    · refine W_reg J ?_
      refine Rv J J J (U_move J) J J ?_
      refine Rv J J J (U_move J) J J ?_
      refine Rv J J J (U_neq J J) J J ?_
      refine Rv J J J (U_move J) J J ?_
      refine Rsplit (t := 29) J (fun hg1 => ?_) (fun hg1 => ?_)
      · rw [hg1]
        have hg1' : ((i : Nat) : Int) ≠ ((a : Nat) : Int) := of_decide_eq_true hg1
        refine Rv J J J (U_move J) J J ?_
        refine Rv J J J (U_move J) J J ?_
        refine Rv J J J (U_move J) J J ?_
        refine Rv J J J (U_call J J (near_p H Z ls c a i (by omega) (by omega) (by omega) (by omega)) J) J J ?_
        refine Rv J J J (U_pick_t J J) J J ?_
        refine Re J ?_
        exact joinTo id ⟨eD J J, eD J J, e_ J J, eD J J, eD J J, eD J J, eD J J, trivial⟩ ⟨rO (mapD (fun _ => J) _) J J, trivial⟩ J J J J (fun _ _ => J)
      · rw [hg1]
        have hg1' : ¬ (((i : Nat) : Int) ≠ ((a : Nat) : Int)) := of_decide_eq_false hg1
        refine Rs J J J J J ?_
        refine Rs J J J J J ?_
        refine Rs J J J J J ?_
        refine Rs J J J J J ?_
        refine Rv J J J (U_pick_f J J) J J ?_
        refine Re J ?_
        exact joinTo id ⟨eD J J, eD J J, e_ J J, eD J J, eD J J, eD J J, eD J J, trivial⟩ ⟨rO (mapD (fun _ => J) _) J J, trivial⟩ J J J J (fun _ _ => J)
    refine thenQ_n ?_
    refine Wcond J J (fun hc2 => ?_) (fun hc2 => ?_)
    · have hbt : i ≠ a ∧ nrQ Z H ls[a] ls[i] = true := by simp at hc2; exact ⟨fun e => hc2.1 (by omega), hc2.2⟩
      refine W_reg J ?_
      refine Rv J J J (U_move J) J J ?_
      refine Rv J J J (U_move J) J J ?_
      refine Rv J J J (U_lenOf J len_out) J J ?_
      refine Rv J J J (U_move J) J J ?_
      refine Rv J J J (U_lenOf J len_out) J J ?_
      refine Rv J J J (U_sliceO3 J J J (by simp) (by simp)) J J ?_
      refine Rv J J J (U_move J) J J ?_
      refine Rv J J J (U_buildSliceF (by rfl) (by decide) J J J) J J ?_
      refine Ra J J J (U_appO (b := 0) (m := 0) (cs' := (l ++ [((i : Nat) : Int)]).map i64) (n' := (l ++ [((i : Nat) : Int)]).length) J J (by simp) J (map_len1 _) J J (by omega) (appM _ _) (len1 _ _)) J J J ?_
      refine Rv J J J (U_assign J) J J ?_
      refine Re J ?_
      refine blkQ_n ?_
      refine thenQ_n ?_
      refine W_reg J ?_
      refine Rv J J J (U_add J J (w64e (m := ((i + 1 : Nat) : Int)) (by omega) (by omega) (by omega))) J J ?_
      refine Rv J J J (U_move J) J J ?_
      refine Rt J ?_
      exact againTo (T' := [(1, i64 ((a : Nat) : Int)), (6, .rop [i64 ((H : Nat) : Int), i64 ((Z : Nat) : Int), .ros (ls.map boxesL) ls.length c, .ros ((chQ Z H ls).map rowsL) ((chQ Z H ls).length) none] 0), (8, .out 0 (l ++ [((i : Nat) : Int)]).length 1), (22, i64 ((ls.length : Nat) : Int)), (23, i64 (((i + 1) : Nat) : Int))]) (H' := [(0, outB ((l ++ [((i : Nat) : Int)]).map i64) 3 (l ++ [((i : Nat) : Int)]).length)]) (n := 1) (ls.length - (i + 1)) ⟨i + 1, l ++ [((i : Nat) : Int)], (by omega), (by first | (rw [neiK_t ha hck hbt.1 hbt.2, hi0_1]; done) | (rw [neiK_f ha hck hbt]; exact hi0_1)), J, J⟩ (by omega) (mapN [1]) ⟨eD J J, eD J J, e_ J J, eD J J, eD J J, trivial⟩ ⟨rO (mapD (fun _ => J) _) J J, trivial⟩ J J J J (fun _ h => absurd h (Nat.not_lt_zero _))
    · have hc2' := Bool.eq_false_iff.1 hc2
      have hbt : ¬ (i ≠ a ∧ nrQ Z H ls[a] ls[i] = true) := by rintro ⟨h1, h2⟩; simp [h2] at hc2; omega
      refine W_skip J ?_
      refine blkQ_n ?_
      refine thenQ_n ?_
      refine W_reg J ?_
      refine Rv J J J (U_add J J (w64e (m := ((i + 1 : Nat) : Int)) (by omega) (by omega) (by omega))) J J ?_
      refine Rv J J J (U_move J) J J ?_
      refine Rt J ?_
      exact againTo (T' := [(1, i64 ((a : Nat) : Int)), (6, .rop [i64 ((H : Nat) : Int), i64 ((Z : Nat) : Int), .ros (ls.map boxesL) ls.length c, .ros ((chQ Z H ls).map rowsL) ((chQ Z H ls).length) none] 0), (8, .out 0 l.length 1), (22, i64 ((ls.length : Nat) : Int)), (23, i64 (((i + 1) : Nat) : Int))]) (H' := [(0, outB (l.map i64) 3 l.length)]) (n := 1) (ls.length - (i + 1)) ⟨i + 1, l, (by omega), (by first | (rw [neiK_t ha hck hbt.1 hbt.2, hi0_1]; done) | (rw [neiK_f ha hck hbt]; exact hi0_1)), J, J⟩ (by omega) id ⟨eD J J, eD J J, e_ J J, eD J J, eD J J, trivial⟩ ⟨rO (mapD (fun _ => J) _) J J, trivial⟩ J J J J (fun _ _ => J)
  · refine W_exit J ?_
    refine thenQ_x ?_
    refine thenQ_x ?_
    refine blkQ_x J ?_
    refine thenQ_n ?_
    refine Wsr J J ?_
    refine Rv J J J (U_move J) J J ?_
    refine Rv J J J (U_assign J) J J ?_
    refine Rv J J J (U_assign J) J J ?_
    refine Rt J ?_
    refine WfrO 0 (l.map i64) J (mapD (fun _ => J) _) (T' := [(4, .ros (l.map i64) l.length none), (5, i64 0)]) (H' := []) ⟨fO J, fD J J, trivial⟩ trivial ?_
    refine W_ret J ?_
    exact retL (rlT J (rlT J rl0)) (by first | rfl | (simp only [packA]; rw [hi0_1, show i = ls.length by omega]; first | done | rfl)) J
theorem sizA_p (s : Sk) (c : Option Nat) (hl : s.ls.length ≤ 1000000) (hbl : ∀ l ∈ s.ls, l.length ≤ 1000000) (a : Int) : Pure Try.prog 27 [.agg [i64 s.h, i64 s.z, landsA s.ls c], i64 a] (.tup [i64 (sizR s a), i64 (opS s [a])]) := by
  by_cases hE : opS s [a] = 0
  · obtain ⟨H, Z, ls, rfl, hc, hv, hin⟩ := opS_ok hE
    obtain ⟨a, rfl, ha⟩ := in1_ok hin
    rw [sizR_g hc ha, hE]
    exact siz_g H Z ls c hc hv a ha
  · rw [sizR_e hE]
    exact siz_e s c hl hbl a hE
theorem neiA_p (s : Sk) (c : Option Nat) (hl : s.ls.length ≤ 1000000) (hbl : ∀ l ∈ s.ls, l.length ≤ 1000000) (a : Int) : Pure Try.prog 33 [.agg [i64 s.h, i64 s.z, landsA s.ls c], i64 a] (.tup [intsA (neiR s a) none, i64 (opS s [a])]) := by
  by_cases hE : opS s [a] = 0
  · obtain ⟨H, Z, ls, rfl, hc, hv, hin⟩ := opS_ok hE
    obtain ⟨a, rfl, ha⟩ := in1_ok hin
    rw [neiR_g hc ha, hE]
    exact nei_g H Z ls c hc hv a ha
  · have e : neiR s a = [] := if_neg hE
    rw [e]
    exact nei_e s c hl hbl a hE
theorem brdA_p (s : Sk) (c : Option Nat) (hl : s.ls.length ≤ 1000000) (hbl : ∀ l ∈ s.ls, l.length ≤ 1000000) (a b : Int) : Pure Try.prog 31 [.agg [i64 s.h, i64 s.z, landsA s.ls c], i64 a, i64 b] (.tup [i64 (brdR s a b), i64 (brdE s a b)]) := by
  by_cases hE : opS s [a, b] = 0
  · obtain ⟨H, Z, ls, rfl, hc, hv, hin⟩ := opS_ok hE
    have h2 := inL2b hin
    obtain ⟨a, rfl⟩ : ∃ m : Nat, a = (m : Int) := ⟨a.toNat, by omega⟩
    obtain ⟨b, rfl⟩ : ∃ m : Nat, b = (m : Int) := ⟨b.toNat, by omega⟩
    by_cases hn : a = b
    · subst hn
      rw [(brdR_q hc (by omega)).1, (brdR_q hc (by omega)).2]
      exact brd_q H Z ls c hc hv a (by omega)
    · rw [(brdR_g hc (by omega) (by omega) hn).1, (brdR_g hc (by omega) (by omega) hn).2]
      exact brd_g H Z ls c hc hv a b (by omega) (by omega) hn
  · rw [(brdR_e hE).1, (brdR_e hE).2]
    exact brd_e s c hl hbl a b hE
end Go.Proofs.Ythlolelbmhfdbaa
end
