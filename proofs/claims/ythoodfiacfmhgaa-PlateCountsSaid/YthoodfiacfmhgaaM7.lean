import Derived.Test.YthoodfiacfmhgaaM6
import Derived.Test.YthoodfiacfmhgaaM4
set_option linter.all false
section
/- Contracts of package plate: least forms. -/
namespace Go.Proofs.Ythoodfiacfmhgaa
set_option maxRecDepth 20000
open Go.AE
theorem eqSelf {a : Int} : (a != a) = false := by simp
/-- Two lists, by their first numbers that are not the same. -/
def cmpL : List Int → List Int → Int
  | [], [] => 0
  | [], _ :: _ => -1
  | _ :: _, [] => 1
  | a :: s, b :: t => if a < b then -1 else if b < a then 1 else cmpL s t
def cmpI (a b : Int) : Int := if a < b then -1 else if b < a then 1 else 0
theorem cmpL_lt {a b : List Int} {k : Nat} (h1 : k < a.length) (h2 : k < b.length) (h : cmpI a[k] b[k] ≠ 0) : cmpL (a.drop k) (b.drop k) = cmpI a[k] b[k] := by
  rw [List.drop_eq_getElem_cons h1, List.drop_eq_getElem_cons h2, cmpL]
  unfold cmpI at h ⊢
  split
  · rfl
  · split
    · rfl
    · rename_i h3 h4; rw [if_neg h3, if_neg h4] at h; exact absurd rfl h
theorem cmpL_eq {a b : List Int} {k : Nat} (h1 : k < a.length) (h2 : k < b.length) (h : cmpI a[k] b[k] = 0) : cmpL (a.drop k) (b.drop k) = cmpL (a.drop (k + 1)) (b.drop (k + 1)) := by
  rw [List.drop_eq_getElem_cons h1, List.drop_eq_getElem_cons h2, cmpL]
  unfold cmpI at h
  split
  · rename_i h3; rw [if_pos h3] at h; cases h
  · rename_i h3; rw [if_neg h3] at h
    split
    · rename_i h4; rw [if_pos h4] at h; cases h
    · rfl
theorem cmpL_end1 {a b : List Int} {k : Nat} (h1 : k < a.length) (h2 : b.length ≤ k) : cmpL (a.drop k) (b.drop k) = 1 := by
  rw [List.drop_eq_getElem_cons h1, List.drop_eq_nil_of_le h2, cmpL]
theorem cmpL_end2 {a b : List Int} {k : Nat} (h1 : a.length ≤ k) (h2 : k < b.length) : cmpL (a.drop k) (b.drop k) = -1 := by
  rw [List.drop_eq_nil_of_le h1, List.drop_eq_getElem_cons h2, cmpL]
theorem cmpL_end3 {a b : List Int} {k : Nat} (h1 : a.length ≤ k) (h2 : b.length ≤ k) : cmpL (a.drop k) (b.drop k) = 0 := by
  rw [List.drop_eq_nil_of_le h1, List.drop_eq_nil_of_le h2, cmpL]
theorem isNaN_p (a : Int) : Pure Try.prog 98 [i64 a] (.bool false) := by
  refine pure_of_body Try.func98 (c := body Try.f98) rfl (by simp [Try.ntmps98]) fun w0 Φ0 => ?_
  refine W_seq rfl ?_
  refine W_reg rfl ?_
  refine Rv rfl rfl rfl (U_assign rfl) rfl rfl ?_
  refine Re rfl ?_
  refine thenQ_n ?_
  refine W_seq rfl ?_
  refine W_reg rfl ?_
  refine Rv rfl rfl rfl (U_move rfl) rfl rfl ?_
  refine Rv rfl rfl rfl (U_move rfl) rfl rfl ?_
  refine Rv rfl rfl rfl (U_neq rfl rfl) rfl rfl ?_
  refine Rv rfl rfl rfl (U_assign rfl) rfl rfl ?_
  refine Re rfl ?_
  refine thenQ_n ?_
  refine W_ret rfl ?_
  exact retL (rlT rfl rl0) (by first | rfl | (simp only [packA]; simp; first | done | rfl)) rfl
theorem cmp_p (a b : Int) : Pure Try.prog 96 [i64 a, i64 b] (i64 (cmpI a b)) := by
  refine pure_of_body Try.func96 (c := body Try.f96) rfl (by simp [Try.ntmps96]) fun w0 Φ0 => ?_
  refine W_seq rfl ?_
  refine W_reg rfl ?_
  refine Rv rfl rfl rfl (U_assign rfl) rfl rfl ?_
  refine Re rfl ?_
  refine thenQ_n ?_
  refine W_seq rfl ?_
  refine W_reg rfl ?_
  refine Rv rfl rfl rfl (U_move rfl) rfl rfl ?_
  refine Rv rfl rfl rfl (U_call rfl rfl (isNaN_p a) rfl) rfl rfl ?_
  refine Rv rfl rfl rfl (U_assign rfl) rfl rfl ?_
  refine Re rfl ?_
  refine thenQ_n ?_
  refine W_seq rfl ?_
  refine W_reg rfl ?_
  refine Rv rfl rfl rfl (U_move rfl) rfl rfl ?_
  refine Rv rfl rfl rfl (U_call rfl rfl (isNaN_p b) rfl) rfl rfl ?_
  refine Rv rfl rfl rfl (U_assign rfl) rfl rfl ?_
  refine Re rfl ?_
  refine thenQ_n ?_
  refine W_seq rfl ?_
  refine W_seq rfl ?_
  refine W_reg rfl ?_
  refine Rv rfl rfl rfl (U_move rfl) rfl rfl ?_
  refine Re rfl ?_
  refine thenQ_n ?_
  refine Wcond rfl rfl (fun h => nomatch h) (fun _ => ?_)
  refine W_skip rfl ?_
  refine thenQ_n ?_
  refine W_seq rfl ?_
  refine W_seq rfl ?_
  refine W_reg rfl ?_
  refine Rv rfl rfl rfl (U_move rfl) rfl rfl ?_
  refine Re rfl ?_
  refine thenQ_n ?_
  refine Wcond rfl rfl (fun h => nomatch h) (fun _ => ?_)
  refine W_skip rfl ?_
  refine thenQ_n ?_
  refine W_seq rfl ?_
  refine W_seq rfl ?_
  refine W_reg rfl ?_
  refine Rv rfl rfl rfl (U_move rfl) rfl rfl ?_
  refine Rv rfl rfl rfl (U_move rfl) rfl rfl ?_
  refine Rv rfl rfl rfl (U_lss rfl rfl) rfl rfl ?_
  refine Re rfl ?_
  refine thenQ_n ?_
  refine WcondP rfl rfl (fun hc3 => ?_) (fun hc3 => ?_)
  · refine W_seq rfl ?_
    refine W_reg rfl ?_
    refine Rv rfl rfl rfl (U_assign rfl) rfl rfl ?_
    refine Re rfl ?_
    refine thenQ_n ?_
    refine W_ret rfl ?_
    refine thenQ_r ?_
    exact retL (rlT rfl rl0) (by first | rfl | (simp only [packA]; rw [cmpI, if_pos (by omega)]; first | done | rfl) | (simp only [packA]; rw [cmpI, if_neg (by omega), if_pos (by omega)]; first | done | rfl) | (simp only [packA]; rw [cmpI, if_neg (by omega), if_neg (by omega)]; first | done | rfl)) rfl
  · refine W_skip rfl ?_
    refine thenQ_n ?_
    refine W_seq rfl ?_
    refine W_seq rfl ?_
    refine W_reg rfl ?_
    refine Rv rfl rfl rfl (U_move rfl) rfl rfl ?_
    refine Rv rfl rfl rfl (U_move rfl) rfl rfl ?_
    refine Rv rfl rfl rfl (U_gtr rfl rfl) rfl rfl ?_
    refine Re rfl ?_
    refine thenQ_n ?_
    refine WcondP rfl rfl (fun hc4 => ?_) (fun hc4 => ?_)
    · refine W_seq rfl ?_
      refine W_reg rfl ?_
      refine Rv rfl rfl rfl (U_assign rfl) rfl rfl ?_
      refine Re rfl ?_
      refine thenQ_n ?_
      refine W_ret rfl ?_
      refine thenQ_r ?_
      exact retL (rlT rfl rl0) (by first | rfl | (simp only [packA]; rw [cmpI, if_pos (by omega)]; first | done | rfl) | (simp only [packA]; rw [cmpI, if_neg (by omega), if_pos (by omega)]; first | done | rfl) | (simp only [packA]; rw [cmpI, if_neg (by omega), if_neg (by omega)]; first | done | rfl)) rfl
    · refine W_skip rfl ?_
      refine thenQ_n ?_
      refine W_seq rfl ?_
      refine W_reg rfl ?_
      refine Rv rfl rfl rfl (U_assign rfl) rfl rfl ?_
      refine Re rfl ?_
      refine thenQ_n ?_
      refine W_ret rfl ?_
      exact retL (rlT rfl rl0) (by first | rfl | (simp only [packA]; rw [cmpI, if_pos (by omega)]; first | done | rfl) | (simp only [packA]; rw [cmpI, if_neg (by omega), if_pos (by omega)]; first | done | rfl) | (simp only [packA]; rw [cmpI, if_neg (by omega), if_neg (by omega)]; first | done | rfl)) rfl
theorem cmpL_p (a b : List Int) (c d : Option Nat) (ha : a.length ≤ 1000000) (hb : b.length ≤ 1000000) : Pure Try.prog 84 [intsA a c, intsA b d] (i64 (cmpL a b)) := by
  refine pure_of_body Try.func84 (c := body Try.f84) rfl (by simp [Try.ntmps84]) fun w0 Φ0 => ?_
  refine W_seq rfl ?_
  refine W_reg rfl ?_
  refine Rv rfl rfl rfl (U_assign rfl) rfl rfl ?_
  refine Re rfl ?_
  refine thenQ_n ?_
  refine W_seq rfl ?_
  refine W_seq rfl ?_
  refine W_reg rfl ?_
  refine Rv rfl rfl rfl (U_move rfl) rfl rfl ?_
  refine Rv rfl rfl rfl (U_lenOf rfl len_ros) rfl rfl ?_
  refine Rv rfl rfl rfl (U_move rfl) rfl rfl ?_
  refine Re rfl ?_
  refine thenQ_n ?_
  refine W_block rfl ?_
  refine LoopTo (T' := [(0, .ros (a.map i64) a.length c), (1, .ros (b.map i64) b.length d), (9, .ros (a.map i64) a.length c), (10, i64 ((a.length : Nat) : Int)), (11, i64 ((0 : Nat) : Int))]) (H' := []) (n := 0) rfl (fun mz_ qz_ => ∃ (k : Nat), k ≤ a.length ∧ cmpL a b = cmpL (a.drop k) (b.drop k) ∧ k ≤ b.length ∧ mz_ = a.length - k ∧ qz_ = ⟨[(0, .ros (a.map i64) a.length c), (1, .ros (b.map i64) b.length d), (9, .ros (a.map i64) a.length c), (10, i64 ((a.length : Nat) : Int)), (11, i64 ((k : Nat) : Int))], [], 0, []⟩) ⟨0, (by omega), rfl, (Nat.zero_le _), rfl, rfl⟩ id ⟨eD rfl rfl, eD rfl rfl, eD rfl rfl, eD rfl rfl, eD rfl rfl, trivial⟩ trivial rfl rfl rfl rfl (fun _ _ => rfl) ?_
  rintro _ _ ⟨k, hi0_0, hi0_1, hi0_2, rfl, rfl⟩
  refine W_seq rfl ?_
  refine W_reg rfl ?_
  refine Rv rfl rfl rfl (U_lss rfl rfl) rfl rfl ?_
  refine Re rfl ?_
  refine thenQ_n ?_
  refine W_seq rfl ?_
  refine WcondP rfl rfl (fun hc0 => ?_) (fun hc0 => ?_)
  · have hck : k < a.length := by omega
    refine W_skip rfl ?_
    refine thenQ_n ?_
    refine W_seq rfl ?_
    refine W_block rfl ?_
    refine W_seq rfl ?_
    refine W_reg rfl ?_
    refine Rv rfl rfl rfl (U_move rfl) rfl rfl ?_
    have hx1 : k < a.length := by omega
    refine Rv rfl rfl rfl (U_indexR (j := k) rfl rfl rfl hx1) rfl rfl ?_
    refine Rv rfl rfl rfl (U_load1 rfl rfl (getM hx1)) rfl rfl ?_
    refine Rv rfl rfl rfl (U_assign rfl) rfl rfl ?_
    refine Rv rfl rfl rfl (U_assign rfl) rfl rfl ?_
    refine Re rfl ?_
    refine thenQ_n ?_
    refine W_seq rfl ?_
    refine W_seq rfl ?_
    refine W_reg rfl ?_
    refine Rv rfl rfl rfl (U_move rfl) rfl rfl ?_
    refine Rv rfl rfl rfl (U_move rfl) rfl rfl ?_
    refine Rv rfl rfl rfl (U_lenOf rfl len_ros) rfl rfl ?_
    refine Rv rfl rfl rfl (U_geq rfl rfl) rfl rfl ?_
    refine Re rfl ?_
    refine thenQ_n ?_
    refine WcondP rfl rfl (fun hc1 => ?_) (fun hc1 => ?_)
    · refine W_seq rfl ?_
      refine W_reg rfl ?_
      refine Rv rfl rfl rfl (U_assign rfl) rfl rfl ?_
      refine Re rfl ?_
      refine thenQ_n ?_
      refine W_ret rfl ?_
      refine thenQ_r ?_
      refine blkQ_r ?_
      refine thenQ_r ?_
      refine thenQ_r ?_
      refine blkQ_r ?_
      refine thenQ_r ?_
      exact retL (rlT rfl rl0) (by first | rfl | (simp only [packA]; rw [hi0_1, cmpL_end1 hck (by omega)]; first | done | rfl) | (simp only [packA]; rw [hi0_1, cmpL_lt hck hck2 (by omega)]; first | done | rfl) | (simp only [packA]; rw [hi0_1, cmpL_end2 (by omega) (by omega)]; first | done | rfl) | (simp only [packA]; rw [hi0_1, cmpL_end3 (by omega) (by omega)]; first | done | rfl)) rfl
    · have hck2 : k < b.length := by omega
      refine W_skip rfl ?_
      refine thenQ_n ?_
      refine W_seq rfl ?_
      refine W_reg rfl ?_
      refine Rv rfl rfl rfl (U_move rfl) rfl rfl ?_
      refine Rv rfl rfl rfl (U_move rfl) rfl rfl ?_
      have hx2 : k < b.length := by omega
      refine Rv rfl rfl rfl (U_indexR (j := k) rfl rfl rfl hx2) rfl rfl ?_
      refine Rv rfl rfl rfl (U_load1 rfl rfl (getM hx2)) rfl rfl ?_
      refine Rv rfl rfl rfl (U_assign rfl) rfl rfl ?_
      refine Re rfl ?_
      refine thenQ_n ?_
      refine W_seq rfl ?_
      refine W_reg rfl ?_
      refine Rv rfl rfl rfl (U_move rfl) rfl rfl ?_
      refine Rv rfl rfl rfl (U_move rfl) rfl rfl ?_
      refine Rv rfl rfl rfl (U_call rfl rfl (cmp_p a[k] b[k]) rfl) rfl rfl ?_
      refine Rv rfl rfl rfl (U_assign rfl) rfl rfl ?_
      refine Re rfl ?_
      refine thenQ_n ?_
      refine W_seq rfl ?_
      refine W_reg rfl ?_
      refine Rv rfl rfl rfl (U_move rfl) rfl rfl ?_
      refine Rv rfl rfl rfl (U_neq rfl rfl) rfl rfl ?_
      refine Re rfl ?_
      refine thenQ_n ?_
      refine WcondP rfl rfl (fun hc2 => ?_) (fun hc2 => ?_)
      · refine W_seq rfl ?_
        refine W_reg rfl ?_
        refine Rv rfl rfl rfl (U_move rfl) rfl rfl ?_
        refine Rv rfl rfl rfl (U_assign rfl) rfl rfl ?_
        refine Re rfl ?_
        refine thenQ_n ?_
        refine W_ret rfl ?_
        refine blkQ_r ?_
        refine thenQ_r ?_
        refine thenQ_r ?_
        refine blkQ_r ?_
        refine thenQ_r ?_
        exact retL (rlT rfl rl0) (by first | rfl | (simp only [packA]; rw [hi0_1, cmpL_end1 hck (by omega)]; first | done | rfl) | (simp only [packA]; rw [hi0_1, cmpL_lt hck hck2 (by omega)]; first | done | rfl) | (simp only [packA]; rw [hi0_1, cmpL_end2 (by omega) (by omega)]; first | done | rfl) | (simp only [packA]; rw [hi0_1, cmpL_end3 (by omega) (by omega)]; first | done | rfl)) rfl
      · rw [Decidable.not_not] at hc2
        have hz : cmpI a[k] b[k] = 0 := by omega
        refine W_skip rfl ?_
        refine blkQ_n ?_
        refine thenQ_n ?_
        refine W_reg rfl ?_
        refine Rv rfl rfl rfl (U_add rfl rfl (w64e (m := ((k + 1 : Nat) : Int)) (by omega) (by omega) (by omega))) rfl rfl ?_
        refine Rv rfl rfl rfl (U_move rfl) rfl rfl ?_
        refine Re rfl ?_
        refine thenQ_n ?_
        exact againTo (T' := [(0, .ros (a.map i64) a.length c), (1, .ros (b.map i64) b.length d), (9, .ros (a.map i64) a.length c), (10, i64 ((a.length : Nat) : Int)), (11, i64 (((k + 1) : Nat) : Int))]) (H' := []) (n := 0) (a.length - (k + 1)) ⟨k + 1, (by omega), (hi0_1.trans (cmpL_eq hck hck2 hz)), (by omega), rfl, rfl⟩ (by omega) id ⟨eD rfl rfl, eD rfl rfl, eD rfl rfl, eD rfl rfl, eD rfl rfl, trivial⟩ trivial rfl rfl rfl rfl (fun _ _ => rfl)
  · refine W_exit rfl ?_
    refine thenQ_x ?_
    refine thenQ_x ?_
    refine blkQ_x rfl ?_
    refine thenQ_n ?_
    refine W_seq rfl ?_
    refine W_seq rfl ?_
    refine W_reg rfl ?_
    refine Rv rfl rfl rfl (U_move rfl) rfl rfl ?_
    refine Rv rfl rfl rfl (U_lenOf rfl len_ros) rfl rfl ?_
    refine Rv rfl rfl rfl (U_move rfl) rfl rfl ?_
    refine Rv rfl rfl rfl (U_lenOf rfl len_ros) rfl rfl ?_
    refine Rv rfl rfl rfl (U_lss rfl rfl) rfl rfl ?_
    refine Re rfl ?_
    refine thenQ_n ?_
    refine WcondP rfl rfl (fun hc3 => ?_) (fun hc3 => ?_)
    · refine W_seq rfl ?_
      refine W_reg rfl ?_
      refine Rv rfl rfl rfl (U_assign rfl) rfl rfl ?_
      refine Re rfl ?_
      refine thenQ_n ?_
      refine W_ret rfl ?_
      refine thenQ_r ?_
      exact retL (rlT rfl rl0) (by first | rfl | (simp only [packA]; rw [hi0_1, cmpL_end1 hck (by omega)]; first | done | rfl) | (simp only [packA]; rw [hi0_1, cmpL_lt hck hck2 (by omega)]; first | done | rfl) | (simp only [packA]; rw [hi0_1, cmpL_end2 (by omega) (by omega)]; first | done | rfl) | (simp only [packA]; rw [hi0_1, cmpL_end3 (by omega) (by omega)]; first | done | rfl)) rfl
    · refine W_skip rfl ?_
      refine thenQ_n ?_
      refine W_seq rfl ?_
      refine W_reg rfl ?_
      refine Rv rfl rfl rfl (U_assign rfl) rfl rfl ?_
      refine Re rfl ?_
      refine thenQ_n ?_
      refine W_ret rfl ?_
      exact retL (rlT rfl rl0) (by first | rfl | (simp only [packA]; rw [hi0_1, cmpL_end1 hck (by omega)]; first | done | rfl) | (simp only [packA]; rw [hi0_1, cmpL_lt hck hck2 (by omega)]; first | done | rfl) | (simp only [packA]; rw [hi0_1, cmpL_end2 (by omega) (by omega)]; first | done | rfl) | (simp only [packA]; rw [hi0_1, cmpL_end3 (by omega) (by omega)]; first | done | rfl)) rfl
/-- The first one of a list before which no other one comes. -/
def bstL (p : Int → Int → Bool) : Int → List Int → Int
  | b, [] => b
  | b, v :: l => bstL p (if p v b then v else b) l
theorem bstL_step {p : Int → Int → Bool} {b v : Int} {l : List Int} {k : Nat} (h : k < l.length) (e : v = if p l[k] b then l[k] else b) : bstL p b (l.drop k) = bstL p v (l.drop (k + 1)) := by
  rw [List.drop_eq_getElem_cons h, bstL, e]
theorem bstL_mem {p : Int → Int → Bool} : ∀ (l : List Int) (b : Int), bstL p b l ∈ b :: l
  | [], b => by simp [bstL]
  | v :: l, b => by
    rw [bstL]
    have := bstL_mem (p := p) l (if p v b then v else b)
    by_cases h : p v b <;> simp only [h, if_true, if_false, Bool.false_eq_true, List.mem_cons] at this ⊢
    · exact .inr this
    · rcases this with h1 | h1
      · exact .inl h1
      · exact .inr (.inr h1)
theorem best_p {f : FuncId} [FnOk Try.prog f] {ca : List AV} (hca : dataL ca) (p : Int → Int → Bool) (l : List Int) (c : Option Nat) (hl : l.length ≤ 1000000) (hn : 0 < l.length) (hp : ∀ x y, x ∈ l → y ∈ l → Pure Try.prog f (i64 x :: i64 y :: ca) (.bool (p x y))) : Pure Try.prog 82 [intsA l c, .fn f [] ca] (i64 (bstL p (l.headD 0) (l.drop 1))) := by
  have hdl : (l.drop 1).length = l.length - 1 := List.length_drop
  have hh : l.headD 0 = l[0] := by cases l; simp at hn; rfl
  refine pure_of_body Try.func82 (c := body Try.f82) rfl (by simp [Try.ntmps82]) fun w0 Φ0 => ?_
  refine W_seq rfl ?_
  refine W_reg rfl ?_
  refine Rv rfl rfl rfl (U_assign rfl) rfl rfl ?_
  refine Re rfl ?_
  refine thenQ_n ?_
  refine W_seq rfl ?_
  refine W_reg rfl ?_
  refine Rv rfl rfl rfl (U_move rfl) rfl rfl ?_
  have hx1 : 0 < l.length := by omega
  refine Rv rfl rfl rfl (U_indexR (j := 0) rfl rfl rfl hx1) rfl rfl ?_
  refine Rv rfl rfl rfl (U_load1 rfl rfl (getM hx1)) rfl rfl ?_
  refine Rv rfl rfl rfl (U_assign rfl) rfl rfl ?_
  refine Re rfl ?_
  refine thenQ_n ?_
  refine W_seq rfl ?_
  refine W_seq rfl ?_
  refine W_reg rfl ?_
  refine Rv rfl rfl rfl (U_move rfl) rfl rfl ?_
  refine Rv rfl rfl rfl (U_sliceFromL (l := 1) (n' := (l.drop 1).length) rfl rfl (by omega) (map_len1 _) (dropM _ _) List.length_drop.symm) rfl rfl ?_
  refine Rv rfl rfl rfl (U_lenOf rfl len_ros) rfl rfl ?_
  refine Rv rfl rfl rfl (U_move rfl) rfl rfl ?_
  refine Re rfl ?_
  refine thenQ_n ?_
  refine W_block rfl ?_
  refine LoopTo (T' := [(1, .fn f [] ca), (5, i64 l[0]), (12, .ros ((l.drop 1).map i64) ((l.drop 1).length) none), (13, i64 (((l.drop 1).length : Nat) : Int)), (14, i64 ((0 : Nat) : Int))]) (H' := []) (n := 0) rfl (fun mz_ qz_ => ∃ (k : Nat) (b : Int), k ≤ (l.drop 1).length ∧ bstL p l[0] (l.drop 1) = bstL p b ((l.drop 1).drop k) ∧ b ∈ l ∧ mz_ = (l.drop 1).length - k ∧ qz_ = ⟨[(1, .fn f [] ca), (5, i64 b), (12, .ros ((l.drop 1).map i64) ((l.drop 1).length) none), (13, i64 (((l.drop 1).length : Nat) : Int)), (14, i64 ((k : Nat) : Int))], [], 0, []⟩) ⟨0, l[0], (by omega), rfl, (List.getElem_mem _), rfl, rfl⟩ id ⟨eD rfl (fnD hca), eD rfl rfl, eD rfl rfl, eD rfl rfl, eD rfl rfl, trivial⟩ trivial rfl rfl rfl rfl (fun _ _ => rfl) ?_
  rintro _ _ ⟨k, b, hi0_0, hi0_1, hi0_2, rfl, rfl⟩
  refine W_seq rfl ?_
  refine W_reg rfl ?_
  refine Rv rfl rfl rfl (U_lss rfl rfl) rfl rfl ?_
  refine Re rfl ?_
  refine thenQ_n ?_
  refine W_seq rfl ?_
  refine WcondP rfl rfl (fun hc0 => ?_) (fun hc0 => ?_)
  · have hck : k < (l.drop 1).length := by omega
    have hcm := List.mem_of_mem_drop (List.getElem_mem hck)
    refine W_skip rfl ?_
    refine thenQ_n ?_
    refine W_seq rfl ?_
    refine W_block rfl ?_
    refine W_seq rfl ?_
    refine W_reg rfl ?_
    have hx2 : k < (l.drop 1).length := by omega
    refine Rv rfl rfl rfl (U_indexR (j := k) rfl rfl rfl hx2) rfl rfl ?_
    refine Rv rfl rfl rfl (U_load1 rfl rfl (getM hx2)) rfl rfl ?_
    refine Rv rfl rfl rfl (U_assign rfl) rfl rfl ?_
    refine Re rfl ?_
    refine thenQ_n ?_
    refine W_seq rfl ?_
    refine W_reg rfl ?_
    refine Rv rfl rfl rfl (U_move rfl) rfl rfl ?_
    refine Rv rfl rfl rfl (U_move rfl) rfl rfl ?_
    refine Rv rfl rfl rfl (U_move rfl) rfl rfl ?_
    refine Rv rfl rfl rfl (U_call rfl rfl (hp ((l.drop 1)[k]) b (by assumption) (by assumption)) (dataL_cons.2 ⟨rfl, dataL_cons.2 ⟨rfl, hca⟩⟩)) rfl rfl ?_
    refine Re rfl ?_
    refine thenQ_n ?_
    refine Wcond rfl rfl (fun hc1 => ?_) (fun hc1 => ?_)
    · refine W_reg rfl ?_
      refine Rv rfl rfl rfl (U_move rfl) rfl rfl ?_
      refine Rv rfl rfl rfl (U_assign rfl) rfl rfl ?_
      refine Re rfl ?_
      refine blkQ_n ?_
      refine thenQ_n ?_
      refine W_reg rfl ?_
      refine Rv rfl rfl rfl (U_add rfl rfl (w64e (m := ((k + 1 : Nat) : Int)) (by omega) (by omega) (by omega))) rfl rfl ?_
      refine Rv rfl rfl rfl (U_move rfl) rfl rfl ?_
      refine Re rfl ?_
      refine thenQ_n ?_
      exact againTo (T' := [(1, .fn f [] ca), (5, i64 ((l.drop 1)[k])), (12, .ros ((l.drop 1).map i64) ((l.drop 1).length) none), (13, i64 (((l.drop 1).length : Nat) : Int)), (14, i64 (((k + 1) : Nat) : Int))]) (H' := []) (n := 0) ((l.drop 1).length - (k + 1)) ⟨k + 1, (l.drop 1)[k], (by omega), (hi0_1.trans (bstL_step hck (by first | exact (if_pos hc1).symm | exact (if_neg (by simpa using hc1)).symm))), (by assumption), rfl, rfl⟩ (by omega) id ⟨eD rfl (fnD hca), eD rfl rfl, eD rfl rfl, eD rfl rfl, eD rfl rfl, trivial⟩ trivial rfl rfl rfl rfl (fun _ _ => rfl)
    · have hc1' := Bool.eq_false_iff.1 hc1
      refine W_skip rfl ?_
      refine blkQ_n ?_
      refine thenQ_n ?_
      refine W_reg rfl ?_
      refine Rv rfl rfl rfl (U_add rfl rfl (w64e (m := ((k + 1 : Nat) : Int)) (by omega) (by omega) (by omega))) rfl rfl ?_
      refine Rv rfl rfl rfl (U_move rfl) rfl rfl ?_
      refine Re rfl ?_
      refine thenQ_n ?_
      exact againTo (T' := [(1, .fn f [] ca), (5, i64 b), (12, .ros ((l.drop 1).map i64) ((l.drop 1).length) none), (13, i64 (((l.drop 1).length : Nat) : Int)), (14, i64 (((k + 1) : Nat) : Int))]) (H' := []) (n := 0) ((l.drop 1).length - (k + 1)) ⟨k + 1, b, (by omega), (hi0_1.trans (bstL_step hck (by first | exact (if_pos hc1).symm | exact (if_neg (by simpa using hc1)).symm))), (by assumption), rfl, rfl⟩ (by omega) id ⟨eD rfl (fnD hca), eD rfl rfl, eD rfl rfl, eD rfl rfl, eD rfl rfl, trivial⟩ trivial rfl rfl rfl rfl (fun _ _ => rfl)
  · refine W_exit rfl ?_
    refine thenQ_x ?_
    refine thenQ_x ?_
    refine blkQ_x rfl ?_
    refine thenQ_n ?_
    refine W_seq rfl ?_
    refine W_reg rfl ?_
    refine Rv rfl rfl rfl (U_move rfl) rfl rfl ?_
    refine Rv rfl rfl rfl (U_assign rfl) rfl rfl ?_
    refine Re rfl ?_
    refine thenQ_n ?_
    refine W_ret rfl ?_
    exact retL (rlT rfl rl0) (by first | rfl | (simp only [packA]; rw [hh, hi0_1, List.drop_eq_nil_of_le (by omega), bstL]; first | done | rfl)) rfl
/-- Whether a motion of a plate comes before another one. -/
def lesM (p : Pl) (a b : Int) : Bool := decide (cmpL (movP p a).ds (movP p b).ds < 0)
theorem cmpL_self : ∀ (a : List Int), cmpL a a = 0
  | [] => rfl
  | a :: l => by rw [cmpL, if_neg (by omega), if_neg (by omega)]; exact cmpL_self l
theorem filt_mem {p : Nat → Bool} {k : Nat} {x : Int} : x ∈ filt p k ↔ ∃ i, i < k ∧ p i = true ∧ x = i := by
  simp only [filt, List.mem_map, List.mem_filter, List.mem_range]
  constructor
  · rintro ⟨i, ⟨h1, h2⟩, rfl⟩; exact ⟨i, h1, h2, rfl⟩
  · rintro ⟨i, h1, h2, rfl⟩; exact ⟨i, ⟨h1, h2⟩, rfl⟩
theorem reached_in {ks : List Int} {x : Int} (h : x ∈ reachedQ ks) : 0 ≤ x ∧ x < 8 := by
  obtain ⟨i, h1, _, rfl⟩ := filt_mem.1 h; omega
theorem stepH_0 {m : Nat} {h : List Nat} {n : Nat} (h0 : ∃ t, h = 0 :: t) : ∃ t, stepH m h n = 0 :: t := by
  obtain ⟨t, rfl⟩ := h0
  unfold stepH
  rw [seN_eq]
  cases n with
  | zero => exact ⟨t, by rw [List.set_cons_zero, geN_eq, List.getD_cons_zero, mn_eq]; rfl⟩
  | succ n => exact ⟨_, List.set_cons_succ⟩
theorem foldl_inv {α β : Type} {P : β → Prop} {f : β → α → β} (h : ∀ b a, P b → P (f b a)) : ∀ (l : List α) (b : β), P b → P (l.foldl f b)
  | [], b, hb => hb
  | a :: l, b, hb => foldl_inv h l _ (h b a hb)
theorem roundH_0 {ks : List Int} {h : List Nat} (h0 : ∃ t, h = 0 :: t) : ∃ t, roundH ks h = 0 :: t := by
  unfold roundH
  rw [fo_eq]
  refine foldl_inv (P := fun h => ∃ t, h = 0 :: t) (fun b a hb => ?_) _ _ h0
  unfold rowH
  rw [fo_eq]
  exact foldl_inv (P := fun h => ∃ t, h = 0 :: t) (fun b a hb => stepH_0 hb) _ _ hb
theorem heiQ_0 {ks : List Int} : ∃ t, heiQ ks = 0 :: t := roundH_0 (roundH_0 (roundH_0 (roundH_0 ⟨_, rfl⟩)))
theorem reached_0 {ks : List Int} : ∃ t, reachedQ ks = 0 :: t := by
  obtain ⟨t, ht⟩ := heiQ_0 (ks := ks)
  have h : pR ks 0 = true := by rw [pR, ht]; rfl
  exact ⟨((List.range' 1 7).filter (pR ks)).map fun (i : Nat) => (i : Int), by
    rw [reachedQ, filt, show List.range 8 = 0 :: List.range' 1 7 from rfl, List.filter_cons_of_pos h]; rfl⟩
theorem reached_len {ks : List Int} : 0 < (reachedQ ks).length ∧ (reachedQ ks).length ≤ 8 := by
  obtain ⟨t, ht⟩ := reached_0 (ks := ks)
  exact ⟨by rw [ht]; simp, filt_len⟩
/-- The motion of a plate's least form. -/
def lstM (p : Pl) (l : List Int) : Int := bstL (lesM p) (l.headD 0) (l.drop 1)
theorem lstM_mem {p : Pl} {l : List Int} (h : 0 < l.length) : lstM p l ∈ l := by
  cases l with
  | nil => cases h
  | cons a l => exact bstL_mem l a
theorem less_p (p : Pl) (c : Option Nat) (N : Nat) (hv : VP p N) (a b : Int) (ha : 0 ≤ a ∧ a < 8) (hb : 0 ≤ b ∧ b < 8) : Pure Try.prog 83 [i64 a, i64 b, .rop [.fn 62 [.rop [i64 p.n, intsA p.ds c] 0] []] 0] (.bool (lesM p a b)) := by
  have hpl : p.ds.length ≤ 64 := by have := Nat.mul_le_mul hv.hi hv.hi; rw [hv.len]; exact this
  have hla : (movP p a).ds.length ≤ 1000000 := by rw [movP_len]; omega
  have hlb : (movP p b).ds.length ≤ 1000000 := by rw [movP_len]; omega
  refine pure_of_body Try.func83 (c := body Try.f83) rfl (by simp [Try.ntmps83]) fun w0 Φ0 => ?_
  refine W_seq rfl ?_
  refine W_reg rfl ?_
  refine Rv rfl rfl rfl (U_assign rfl) rfl rfl ?_
  refine Re rfl ?_
  refine thenQ_n ?_
  refine W_seq rfl ?_
  refine Wdraw rfl (by kernel_rfl) (by kernel_rfl) ?_
  refine Dv rfl rfl rfl (U_load1 rfl rfl rfl) rfl rfl ?_
  refine Dv rfl rfl rfl (U_move rfl) rfl rfl ?_
  refine Dv rfl rfl rfl (U_call rfl rfl (moved_p p c N hv a (by first | assumption | omega)) rfl) rfl rfl ?_
  refine Dv rfl rfl rfl (U_field rfl rfl) rfl rfl ?_
  refine Dv rfl rfl rfl (U_load1 rfl rfl rfl) rfl rfl ?_
  refine Dv rfl rfl rfl (U_move rfl) rfl rfl ?_
  refine Dv rfl rfl rfl (U_call rfl rfl (moved_p p c N hv b (by first | assumption | omega)) rfl) rfl rfl ?_
  refine Dv rfl rfl rfl (U_field rfl rfl) rfl rfl ?_
  refine Dv rfl rfl rfl (U_call rfl rfl (cmpL_p ((movP p a).ds) ((movP p b).ds) (some (movP p a).ds.length) (some (movP p b).ds.length) (by first | assumption | omega | (simp; done)) (by first | assumption | omega | (simp; done))) rfl) rfl rfl ?_
  refine Dv rfl rfl rfl (U_lss rfl rfl) rfl rfl ?_
  refine Dv rfl rfl rfl (U_assign rfl) rfl rfl ?_
  refine Dr.nil rfl ?_
  refine thenQ_n ?_
  refine W_ret rfl ?_
  exact retL (rlT rfl rl0) (by first | rfl | (simp only [packA]; rfl; first | done | rfl)) rfl
/-- The error of a plate, and of kinds; the least form. -/
def leaE (p : Pl) (ks : List Int) : Int := if chkP p ≠ 0 then chkP p else chkK ks
noncomputable def leaM (p : Pl) (ks : List Int) : Int := if leaE p ks = 0 then lstM p (reachedQ ks) else 0
noncomputable def leaP (p : Pl) (ks : List Int) : Pl := if leaE p ks = 0 then movP p (lstM p (reachedQ ks)) else ⟨0, []⟩
theorem least_p (p : Pl) (c : Option Nat) (hl : p.ds.length ≤ 1000000) (ks : List Int) (d : Option Nat) (hk : ks.length ≤ 1000000) : Pure Try.prog 43 [plA p c, intsA ks d] (.tup [plA (leaP p ks) none, i64 (leaM p ks), i64 (leaE p ks)]) := by
  refine pure_of_body Try.func43 (c := body Try.f43) rfl (by simp [Try.ntmps43]) fun w0 Φ0 => ?_
  refine W_seq rfl ?_
  refine W_reg rfl ?_
  refine Rv rfl rfl rfl (U_boxF rfl rfl rfl) rfl rfl ?_
  refine Ra rfl rfl rfl (U_alloc) rfl rfl rfl ?_
  refine Rv rfl rfl rfl (U_assign rfl) rfl rfl ?_
  refine Rv rfl rfl rfl (U_assign rfl) rfl rfl ?_
  refine Re rfl ?_
  refine thenQ_n ?_
  refine W_seq rfl ?_
  refine W_reg rfl ?_
  refine Rv rfl rfl rfl (U_load2 rfl rfl rfl rfl) rfl rfl ?_
  refine Rv rfl rfl rfl (U_call rfl rfl (open0_p p c (by first | assumption | omega)) rfl) rfl rfl ?_
  refine Rv rfl rfl rfl (U_move rfl) rfl rfl ?_
  refine Rv rfl rfl rfl (U_extract rfl rfl) rfl rfl ?_
  refine Rv rfl rfl rfl (U_extract rfl rfl) rfl rfl ?_
  refine Rv rfl rfl rfl (U_assign rfl) rfl rfl ?_
  refine Rv rfl rfl rfl (U_assign rfl) rfl rfl ?_
  refine Re rfl ?_
  refine thenQ_n ?_
  refine W_seq rfl ?_
  refine W_seq rfl ?_
  refine W_reg rfl ?_
  refine Rv rfl rfl rfl (U_move rfl) rfl rfl ?_
  refine Rv rfl rfl rfl (U_neq rfl rfl) rfl rfl ?_
  refine Re rfl ?_
  refine thenQ_n ?_
  refine WcondP rfl rfl (fun hc0 => ?_) (fun hc0 => ?_)
  · simp only [if_neg hc0]
    have hle : leaE p ks = chkP p := by rw [leaE, if_pos hc0]
    rw [leaP, leaM, hle, if_neg hc0, if_neg hc0]
    refine W_seq rfl ?_
    refine W_reg rfl ?_
    refine Rv rfl rfl rfl (U_build rfl rfl) rfl rfl ?_
    refine Rv rfl rfl rfl (U_move rfl) rfl rfl ?_
    refine Rn rfl rfl rfl (U_storeAll rfl rfl rfl rfl rfl rfl) rfl ?_
    refine Rv rfl rfl rfl (U_assign rfl) rfl rfl ?_
    refine Rv rfl rfl rfl (U_assign rfl) rfl rfl ?_
    refine Re rfl ?_
    refine thenQ_n ?_
    refine WweakH (b := 0) (cs' := [i64 0, .ros [] 0 none]) rfl (leL_cons (le_refl _) (leL_cons le_nils (leL_refl _))) ?_
    refine W_ret rfl ?_
    refine thenQ_r ?_
    exact retL (rlA rfl rfl rfl (rlT rfl (rlT rfl rl0))) (by first | rfl | (simp only [packA]; rfl; first | done | rfl)) rfl
  · rw [Decidable.not_not] at hc0
    simp only [if_pos hc0]
    obtain ⟨N, hv⟩ := vp_of hc0
    refine W_skip rfl ?_
    refine thenQ_n ?_
    refine W_seq rfl ?_
    refine W_seq rfl ?_
    refine W_reg rfl ?_
    refine Rv rfl rfl rfl (U_move rfl) rfl rfl ?_
    refine Rv rfl rfl rfl (U_call rfl rfl (chkK_p ks d (by first | assumption | omega)) rfl) rfl rfl ?_
    refine Rv rfl rfl rfl (U_assign rfl) rfl rfl ?_
    refine Re rfl ?_
    refine thenQ_n ?_
    refine W_seq rfl ?_
    refine W_reg rfl ?_
    refine Rv rfl rfl rfl (U_move rfl) rfl rfl ?_
    refine Rv rfl rfl rfl (U_neq rfl rfl) rfl rfl ?_
    refine Re rfl ?_
    refine thenQ_n ?_
    refine WcondP rfl rfl (fun hc1 => ?_) (fun hc1 => ?_)
    · have hle : leaE p ks = chkK ks := by rw [leaE, if_neg (by simpa using hc0)]
      rw [leaP, leaM, hle, if_neg hc1, if_neg hc1]
      refine W_seq rfl ?_
      refine W_reg rfl ?_
      refine Rv rfl rfl rfl (U_build rfl rfl) rfl rfl ?_
      refine Rv rfl rfl rfl (U_move rfl) rfl rfl ?_
      refine Rn rfl rfl rfl (U_storeAll rfl rfl rfl rfl rfl rfl) rfl ?_
      refine Rv rfl rfl rfl (U_assign rfl) rfl rfl ?_
      refine Rv rfl rfl rfl (U_assign rfl) rfl rfl ?_
      refine Re rfl ?_
      refine thenQ_n ?_
      refine WweakH (b := 0) (cs' := [i64 0, .ros [] 0 none]) rfl (leL_cons (le_refl _) (leL_cons le_nils (leL_refl _))) ?_
      refine W_ret rfl ?_
      refine thenQ_r ?_
      exact retL (rlA rfl rfl rfl (rlT rfl (rlT rfl rl0))) (by first | rfl | (simp only [packA]; rfl; first | done | rfl)) rfl
    · rw [Decidable.not_not] at hc1
      have hle : leaE p ks = 0 := by rw [leaE, if_neg (by simpa using hc0), hc1]
      have hok := chkK_ok hc1
      rw [leaP, leaM, hle, if_pos rfl, if_pos rfl]
      obtain ⟨hr0, hr8⟩ := reached_len (ks := ks)
      have hlm := reached_in (lstM_mem (p := p) hr0)
      refine W_skip rfl ?_
      refine thenQ_n ?_
      refine W_seq rfl ?_
      refine W_reg rfl ?_
      refine Rv rfl rfl rfl (U_move rfl) rfl rfl ?_
      refine Rv rfl rfl rfl (U_makeFunc rfl rfl) rfl rfl ?_
      refine Ra rfl rfl rfl (U_alloc) rfl rfl rfl ?_
      refine Rn rfl rfl rfl (U_store1 rfl rfl rfl rfl) rfl ?_
      refine Re rfl ?_
      refine thenQ_n ?_
      refine WfrN 1 rfl rfl (T' := [(1, .ros (ks.map i64) ks.length d), (4, .ptr 0 0), (10, .rop [.fn 62 [.rop [i64 p.n, .ros (p.ds.map i64) p.ds.length c] 0] []] 0)]) (H' := [(0, some (.cells [i64 0, .nils] 24))]) ⟨⟨_, rfl, rfl⟩, ⟨_, rfl, rfl⟩, ⟨_, rfl, rfl⟩, trivial⟩ ⟨⟨rfl, rF rfl rfl⟩, trivial⟩ ?_
      refine W_seq rfl ?_
      refine W_reg rfl ?_
      refine Rv rfl rfl rfl (U_move rfl) rfl rfl ?_
      refine Rv rfl rfl rfl (U_call rfl rfl (reached_p ks d (by first | assumption | omega) hok) rfl) rfl rfl ?_
      refine Rv rfl rfl rfl (U_makeFunc rfl rfl) rfl rfl ?_
      refine Rv rfl rfl rfl (U_call rfl rfl (best_p (f := 83) (ca := [.rop [.fn 62 [.rop [i64 p.n, intsA p.ds c] 0] []] 0]) rfl (lesM p) (reachedQ ks) none (by first | assumption | omega) (by first | assumption | omega) (fun x y hx hy => less_p p c N hv x y (reached_in hx) (reached_in hy))) rfl) rfl rfl ?_
      refine Rv rfl rfl rfl (U_assign rfl) rfl rfl ?_
      refine Re rfl ?_
      refine thenQ_n ?_
      refine W_seq rfl ?_
      refine W_reg rfl ?_
      refine Rv rfl rfl rfl (U_load1 rfl rfl rfl) rfl rfl ?_
      refine Rv rfl rfl rfl (U_move rfl) rfl rfl ?_
      refine Rv rfl rfl rfl (U_call rfl rfl (moved_p p c N hv (lstM p (reachedQ ks)) (by first | assumption | omega)) rfl) rfl rfl ?_
      refine Rv rfl rfl rfl (U_move rfl) rfl rfl ?_
      refine Rn rfl rfl rfl (U_storeAll rfl rfl rfl rfl rfl rfl) rfl ?_
      refine Rv rfl rfl rfl (U_assign rfl) rfl rfl ?_
      refine Rv rfl rfl rfl (U_assign rfl) rfl rfl ?_
      refine Re rfl ?_
      refine thenQ_n ?_
      refine WweakH (b := 0) (cs' := [i64 ((movP p (lstM p (reachedQ ks))).n), .ros (((movP p (lstM p (reachedQ ks))).ds).map i64) (((movP p (lstM p (reachedQ ks))).ds).length) none]) rfl (leL_cons (le_refl _) (leL_cons le_cap (leL_refl _))) ?_
      refine W_ret rfl ?_
      exact retL (rlA rfl rfl rfl (rlT rfl (rlT rfl rl0))) (by first | rfl | (simp only [packA]; rfl; first | done | rfl)) rfl
end Go.Proofs.Ythoodfiacfmhgaa
end

section
/- Contracts of package plate: least forms of the reference. -/
namespace Go.Proofs.Ythoodfiacfmhgaa
set_option maxRecDepth 20000
open Go.AE
theorem cmpL_ne {a b : List Int} {k : Nat} (h1 : k < a.length) (h2 : k < b.length) (h : a[k] ≠ b[k]) : decide (cmpL (a.drop k) (b.drop k) < 0) = decide (a[k] < b[k]) := by
  rw [cmpL_lt h1 h2 (by unfold cmpI; split; decide; split; decide; omega)]
  unfold cmpI
  congr 1
  rw [eq_iff_iff]
  split
  · simp_all
  · split <;> simp_all
theorem cmpL_same {a b : List Int} {k : Nat} (h1 : k < a.length) (h2 : k < b.length) (h : a[k] = b[k]) : cmpL (a.drop k) (b.drop k) = cmpL (a.drop (k + 1)) (b.drop (k + 1)) := cmpL_eq h1 h2 (by unfold cmpI; rw [h, if_neg (by omega), if_neg (by omega)])
theorem before_p (a b : List Int) (c d : Option Nat) (ha : a.length ≤ 1000000) (hb : b.length ≤ 1000000) (hab : a.length = b.length) : Pure Try.prog 97 [intsA a c, intsA b d] (.bool (decide (cmpL a b < 0))) := by
  refine pure_of_body Try.func97 (c := body Try.f97) rfl (by simp [Try.ntmps97]) fun w0 Φ0 => ?_
  refine W_seq rfl ?_
  refine W_reg rfl ?_
  refine Rv rfl rfl rfl (U_assign rfl) rfl rfl ?_
  refine Re rfl ?_
  refine thenQ_n ?_
  refine W_seq rfl ?_
  refine W_seq rfl ?_
  refine W_reg rfl ?_
  refine Rv rfl rfl rfl (U_assign rfl) rfl rfl ?_
  refine Re rfl ?_
  refine thenQ_n ?_
  refine W_block rfl ?_
  refine LoopTo (T' := [(0, .ros (a.map i64) a.length c), (1, .ros (b.map i64) b.length d), (5, i64 ((0 : Nat) : Int))]) (H' := []) (n := 0) rfl (fun mz_ qz_ => ∃ (k : Nat), k ≤ a.length ∧ cmpL a b = cmpL (a.drop k) (b.drop k) ∧ mz_ = a.length - k ∧ qz_ = ⟨[(0, .ros (a.map i64) a.length c), (1, .ros (b.map i64) b.length d), (5, i64 ((k : Nat) : Int))], [], 0, []⟩) ⟨0, (by omega), rfl, rfl, rfl⟩ id ⟨eD rfl rfl, eD rfl rfl, eD rfl rfl, trivial⟩ trivial rfl rfl rfl rfl (fun _ _ => rfl) ?_
  rintro _ _ ⟨k, hi0_0, hi0_1, rfl, rfl⟩
  refine W_seq rfl ?_
  refine W_seq rfl ?_
  refine W_reg rfl ?_
  refine Rv rfl rfl rfl (U_move rfl) rfl rfl ?_
  refine Rv rfl rfl rfl (U_move rfl) rfl rfl ?_
  refine Rv rfl rfl rfl (U_lenOf rfl len_ros) rfl rfl ?_
  refine Rv rfl rfl rfl (U_lss rfl rfl) rfl rfl ?_
  refine Re rfl ?_
  refine thenQ_n ?_
  refine WcondP rfl rfl (fun hc0 => ?_) (fun hc0 => ?_)
  · have hck : k < a.length := by omega
    have hck2 : k < b.length := by omega
    refine W_skip rfl ?_
    refine thenQ_n ?_
    refine W_seq rfl ?_
    refine W_block rfl ?_
    refine W_seq rfl ?_
    refine Wdraw rfl (by kernel_rfl) (by kernel_rfl) ?_
    refine Dv rfl rfl rfl (U_move rfl) rfl rfl ?_
    refine Dv rfl rfl rfl (U_move rfl) rfl rfl ?_
    have hx1 : k < a.length := by omega
    refine Dv rfl rfl rfl (U_indexR (j := k) rfl rfl rfl hx1) rfl rfl ?_
    refine Dv rfl rfl rfl (U_load1 rfl rfl (getM hx1)) rfl rfl ?_
    refine Dv rfl rfl rfl (U_move rfl) rfl rfl ?_
    refine Dv rfl rfl rfl (U_move rfl) rfl rfl ?_
    have hx2 : k < b.length := by omega
    refine Dv rfl rfl rfl (U_indexR (j := k) rfl rfl rfl hx2) rfl rfl ?_
    refine Dv rfl rfl rfl (U_load1 rfl rfl (getM hx2)) rfl rfl ?_
    refine Dv rfl rfl rfl (U_neq rfl rfl) rfl rfl ?_
    refine Dr.nil rfl ?_
    refine thenQ_n ?_
    refine WcondP rfl rfl (fun hc1 => ?_) (fun hc1 => ?_)
    · refine W_seq rfl ?_
      refine Wdraw rfl (by kernel_rfl) (by kernel_rfl) ?_
      refine Dv rfl rfl rfl (U_move rfl) rfl rfl ?_
      refine Dv rfl rfl rfl (U_move rfl) rfl rfl ?_
      refine Dv rfl rfl rfl (U_indexR (j := k) rfl rfl rfl hx1) rfl rfl ?_
      refine Dv rfl rfl rfl (U_load1 rfl rfl (getM hx1)) rfl rfl ?_
      refine Dv rfl rfl rfl (U_move rfl) rfl rfl ?_
      refine Dv rfl rfl rfl (U_move rfl) rfl rfl ?_
      refine Dv rfl rfl rfl (U_indexR (j := k) rfl rfl rfl hx2) rfl rfl ?_
      refine Dv rfl rfl rfl (U_load1 rfl rfl (getM hx2)) rfl rfl ?_
      refine Dv rfl rfl rfl (U_lss rfl rfl) rfl rfl ?_
      refine Dv rfl rfl rfl (U_assign rfl) rfl rfl ?_
      refine Dr.nil rfl ?_
      refine thenQ_n ?_
      refine W_ret rfl ?_
      refine blkQ_r ?_
      refine thenQ_r ?_
      refine thenQ_r ?_
      refine blkQ_r ?_
      refine thenQ_r ?_
      exact retL (rlT rfl rl0) (by first | rfl | (simp only [packA]; rw [hi0_1, cmpL_ne hck hck2 (by omega)]; first | done | rfl) | (simp only [packA]; rw [hi0_1, cmpL_end3 (by omega) (by omega)]; first | done | rfl)) rfl
    · rw [Decidable.not_not] at hc1
      refine W_skip rfl ?_
      refine blkQ_n ?_
      refine thenQ_n ?_
      refine W_reg rfl ?_
      refine Rv rfl rfl rfl (U_move rfl) rfl rfl ?_
      refine Rv rfl rfl rfl (U_add rfl rfl (w64e (m := ((k + 1 : Nat) : Int)) (by omega) (by omega) (by omega))) rfl rfl ?_
      refine Rv rfl rfl rfl (U_assign rfl) rfl rfl ?_
      refine Re rfl ?_
      refine thenQ_n ?_
      exact againTo (T' := [(0, .ros (a.map i64) a.length c), (1, .ros (b.map i64) b.length d), (5, i64 (((k + 1) : Nat) : Int))]) (H' := []) (n := 0) (a.length - (k + 1)) ⟨k + 1, (by omega), (hi0_1.trans (cmpL_same hck hck2 (by omega))), rfl, rfl⟩ (by omega) id ⟨eD rfl rfl, eD rfl rfl, eD rfl rfl, trivial⟩ trivial rfl rfl rfl rfl (fun _ _ => rfl)
  · refine W_exit rfl ?_
    refine thenQ_x ?_
    refine thenQ_x ?_
    refine blkQ_x rfl ?_
    refine thenQ_n ?_
    refine W_seq rfl ?_
    refine W_reg rfl ?_
    refine Rv rfl rfl rfl (U_assign rfl) rfl rfl ?_
    refine Re rfl ?_
    refine thenQ_n ?_
    refine W_ret rfl ?_
    exact retL (rlT rfl rl0) (by first | rfl | (simp only [packA]; rw [hi0_1, cmpL_ne hck hck2 (by omega)]; first | done | rfl) | (simp only [packA]; rw [hi0_1, cmpL_end3 (by omega) (by omega)]; first | done | rfl)) rfl
theorem movP_0 {p : Pl} {N : Nat} (hv : VP p N) : movP p 0 = p := by
  obtain ⟨n, ds⟩ := p
  obtain ⟨e, hlo, hhi, hlen, hbd⟩ := hv
  simp only at e hlen
  subst e
  unfold movP
  simp only [Pl.mk.injEq, true_and]
  have hp : ∀ i, posN N 0 i = i := fun i => by rw [posN_num, to0]; exact spot_num
  refine mov_ext hlo hhi (m := 0) (by omega) (movD_len.trans hlen) hlen fun i hi => ?_
  have hi' : i < N * N := hi
  have h1 := movD_get hlo hhi (m := 0) (by omega) hlen hi'
  simp only [Int.toNat_natCast] at h1 ⊢
  rw [h1, hp, List.getD_eq_getElem?_getD, List.getElem?_eq_getElem (by omega)]; rfl
theorem lesM_self {p : Pl} {a : Int} : lesM p a a = false := by rw [lesM, cmpL_self]; rfl
theorem lstM_all {p : Pl} {l : List Int} (h : ∃ t, l = 0 :: t) : bstL (lesM p) 0 l = lstM p l := by
  obtain ⟨t, rfl⟩ := h
  rw [bstL, lesM_self]; rfl
theorem kinded_p (p : Pl) (c : Option Nat) (hl : p.ds.length ≤ 1000000) (ks : List Int) (d : Option Nat) (hk : ks.length ≤ 1000000) : Pure Try.prog 85 [plA p c, intsA ks d] (i64 (leaE p ks)) := by
  refine pure_of_body Try.func85 (c := body Try.f85) rfl (by simp [Try.ntmps85]) fun w0 Φ0 => ?_
  refine W_seq rfl ?_
  refine W_reg rfl ?_
  refine Rv rfl rfl rfl (U_boxF rfl rfl rfl) rfl rfl ?_
  refine Rv rfl rfl rfl (U_assign rfl) rfl rfl ?_
  refine Re rfl ?_
  refine thenQ_n ?_
  refine W_seq rfl ?_
  refine W_seq rfl ?_
  refine W_reg rfl ?_
  refine Rv rfl rfl rfl (U_load2 rfl rfl rfl rfl) rfl rfl ?_
  refine Rv rfl rfl rfl (U_call rfl rfl (chkPR_p p c (by first | assumption | omega)) rfl) rfl rfl ?_
  refine Rv rfl rfl rfl (U_neq rfl rfl) rfl rfl ?_
  refine Re rfl ?_
  refine thenQ_n ?_
  refine WcondP rfl rfl (fun hc0 => ?_) (fun hc0 => ?_)
  · refine W_seq rfl ?_
    refine W_reg rfl ?_
    refine Rv rfl rfl rfl (U_load2 rfl rfl rfl rfl) rfl rfl ?_
    refine Rv rfl rfl rfl (U_call rfl rfl (chkPR_p p c (by first | assumption | omega)) rfl) rfl rfl ?_
    refine Rv rfl rfl rfl (U_assign rfl) rfl rfl ?_
    refine Re rfl ?_
    refine thenQ_n ?_
    refine W_ret rfl ?_
    refine thenQ_r ?_
    exact retL (rlT rfl rl0) (by first | rfl | (simp only [packA]; rw [leaE, if_pos hc0]; first | done | rfl) | (simp only [packA]; rw [leaE, if_neg (by simpa using hc0)]; first | done | rfl)) rfl
  · rw [Decidable.not_not] at hc0
    refine W_skip rfl ?_
    refine thenQ_n ?_
    refine W_seq rfl ?_
    refine W_reg rfl ?_
    refine Rv rfl rfl rfl (U_move rfl) rfl rfl ?_
    refine Rv rfl rfl rfl (U_call rfl rfl (chkKR_p ks d (by first | assumption | omega)) rfl) rfl rfl ?_
    refine Rv rfl rfl rfl (U_assign rfl) rfl rfl ?_
    refine Re rfl ?_
    refine thenQ_n ?_
    refine W_ret rfl ?_
    exact retL (rlT rfl rl0) (by first | rfl | (simp only [packA]; rw [leaE, if_pos hc0]; first | done | rfl) | (simp only [packA]; rw [leaE, if_neg (by simpa using hc0)]; first | done | rfl)) rfl
theorem leastOf_p (p : Pl) (c : Option Nat) (N : Nat) (hv : VP p N) (l : List Int) (d : Option Nat) (hl : l.length ≤ 1000000) (hi : ∀ x ∈ l, 0 ≤ x ∧ x < 8) : Pure Try.prog 86 [plA p c, intsA l d] (.tup [plA (movP p (bstL (lesM p) 0 l)) none, i64 (bstL (lesM p) 0 l)]) := by
  have hp0 : 0 < p.ds.length := by rw [hv.len]; exact Nat.mul_pos hv.lo hv.lo
  have hpl : p.ds.length ≤ 64 := by have := Nat.mul_le_mul hv.hi hv.hi; rw [hv.len]; exact this
  refine pure_of_body Try.func86 (c := body Try.f86) rfl (by simp [Try.ntmps86]) fun w0 Φ0 => ?_
  refine W_seq rfl ?_
  refine W_reg rfl ?_
  refine Rv rfl rfl rfl (U_boxF rfl rfl rfl) rfl rfl ?_
  refine Ra rfl rfl rfl (U_alloc) rfl rfl rfl ?_
  refine Rv rfl rfl rfl (U_assign rfl) rfl rfl ?_
  refine Re rfl ?_
  refine thenQ_n ?_
  refine W_seq rfl ?_
  refine W_reg rfl ?_
  refine Rv rfl rfl rfl (U_load2 rfl rfl rfl rfl) rfl rfl ?_
  refine Ra rfl rfl rfl (U_alloc) rfl rfl rfl ?_
  refine Rn rfl rfl rfl (U_storeAll rfl rfl rfl rfl rfl rfl) rfl ?_
  refine Rv rfl rfl rfl (U_assign rfl) rfl rfl ?_
  refine Re rfl ?_
  refine thenQ_n ?_
  refine W_seq rfl ?_
  refine W_seq rfl ?_
  refine W_reg rfl ?_
  refine Rv rfl rfl rfl (U_assign rfl) rfl rfl ?_
  refine Re rfl ?_
  refine thenQ_n ?_
  refine W_block rfl ?_
  refine WweakH (b := 1) (cs' := [i64 p.n, .ros (p.ds.map i64) p.ds.length none]) rfl (leL_cons (le_refl _) (leL_cons le_cap (leL_refl _))) ?_
  refine LoopTo (T' := [(1, .ros (l.map i64) l.length d), (2, .rop [i64 p.n, .ros (p.ds.map i64) p.ds.length c] 0), (4, .ptr 0 0), (6, .ptr 1 0), (7, i64 0), (8, i64 ((0 : Nat) : Int))]) (H' := [(0, some (.cells [i64 0, .nils] 24)), (1, some (.cells [i64 p.n, .ros (p.ds.map i64) p.ds.length none] 24))]) (n := 2) rfl (fun mz_ qz_ => ∃ (k : Nat) (q : Pl) (b : Int), k ≤ l.length ∧ q = movP p b ∧ bstL (lesM p) 0 l = bstL (lesM p) b (l.drop k) ∧ (0 ≤ b ∧ b < 8) ∧ mz_ = l.length - k ∧ qz_ = ⟨[(1, .ros (l.map i64) l.length d), (2, .rop [i64 p.n, .ros (p.ds.map i64) p.ds.length c] 0), (4, .ptr 0 0), (6, .ptr 1 0), (7, i64 b), (8, i64 ((k : Nat) : Int))], [(0, some (.cells [i64 0, .nils] 24)), (1, some (.cells [i64 q.n, .ros (q.ds.map i64) q.ds.length none] 24))], 2, []⟩) ⟨0, p, 0, (by omega), ((movP_0 hv).symm), rfl, (by omega), rfl, rfl⟩ id ⟨eD rfl rfl, eD rfl rfl, e_ rfl rfl, e_ rfl rfl, eD rfl rfl, eD rfl rfl, trivial⟩ ⟨rD rfl rfl rfl, rD rfl rfl rfl, trivial⟩ rfl rfl rfl rfl (fun _ _ => rfl) ?_
  rintro _ _ ⟨k, q, b, hi0_0, hi0_1, hi0_2, hi0_3, rfl, rfl⟩
  have hql : q.ds.length = p.ds.length := by rw [hi0_1, movP_len]
  refine W_seq rfl ?_
  refine W_seq rfl ?_
  refine W_reg rfl ?_
  refine Rv rfl rfl rfl (U_move rfl) rfl rfl ?_
  refine Rv rfl rfl rfl (U_move rfl) rfl rfl ?_
  refine Rv rfl rfl rfl (U_lenOf rfl len_ros) rfl rfl ?_
  refine Rv rfl rfl rfl (U_lss rfl rfl) rfl rfl ?_
  refine Re rfl ?_
  refine thenQ_n ?_
  refine WcondP rfl rfl (fun hc0 => ?_) (fun hc0 => ?_)
  · have hck : k < l.length := by omega
    have hcm := hi _ (List.getElem_mem hck)
    have hml := movP_len (p := p) (m := l[k])
    have hq := hi0_1
    refine W_skip rfl ?_
    refine thenQ_n ?_
    refine W_seq rfl ?_
    refine W_block rfl ?_
    refine W_seq rfl ?_
    refine Wdraw rfl (by kernel_rfl) (by kernel_rfl) ?_
    refine Dv rfl rfl rfl (U_load2 rfl rfl rfl rfl) rfl rfl ?_
    refine Dv rfl rfl rfl (U_move rfl) rfl rfl ?_
    refine Dv rfl rfl rfl (U_move rfl) rfl rfl ?_
    have hx1 : k < l.length := by omega
    refine Dv rfl rfl rfl (U_indexR (j := k) rfl rfl rfl hx1) rfl rfl ?_
    refine Dv rfl rfl rfl (U_load1 rfl rfl (getM hx1)) rfl rfl ?_
    refine Dv rfl rfl rfl (U_call rfl rfl (moveOf_p p c N hv l[k] (by first | assumption | omega)) rfl) rfl rfl ?_
    refine Da rfl rfl rfl (U_alloc) rfl rfl rfl rfl ?_
    refine Dn_ rfl rfl rfl (U_storeAll rfl rfl rfl rfl rfl rfl) rfl rfl ?_
    refine Dr.nil rfl ?_
    refine thenQ_n ?_
    refine WfrN 2 rfl rfl (T' := [(1, .ros (l.map i64) l.length d), (2, .rop [i64 p.n, .ros (p.ds.map i64) p.ds.length c] 0), (4, .ptr 0 0), (6, .ptr 1 0), (7, i64 b), (8, i64 ((k : Nat) : Int)), (9, .rop [i64 ((movP p l[k]).n), .ros (((movP p l[k]).ds).map i64) (((movP p l[k]).ds).length) (some (movP p l[k]).ds.length)] 0)]) (H' := [(0, some (.cells [i64 0, .nils] 24)), (1, some (.cells [i64 q.n, .ros (q.ds.map i64) q.ds.length none] 24))]) ⟨⟨_, rfl, rfl⟩, ⟨_, rfl, rfl⟩, ⟨_, rfl, rfl⟩, ⟨_, rfl, rfl⟩, ⟨_, rfl, rfl⟩, ⟨_, rfl, rfl⟩, ⟨_, rfl, rfl⟩, trivial⟩ ⟨⟨rfl, rF rfl rfl⟩, ⟨rfl, rF rfl rfl⟩, trivial⟩ ?_
    refine W_seq rfl ?_
    refine W_reg rfl ?_
    refine Rv rfl rfl rfl (U_fieldAddrR rfl) rfl rfl ?_
    refine Rv rfl rfl rfl (U_load1 rfl rfl rfl) rfl rfl ?_
    refine Rv rfl rfl rfl (U_fieldAddr rfl) rfl rfl ?_
    refine Rv rfl rfl rfl (U_load1 rfl rfl rfl) rfl rfl ?_
    refine Rv rfl rfl rfl (U_call rfl rfl (before_p ((movP p l[k]).ds) q.ds (some (movP p l[k]).ds.length) none (by first | assumption | omega | (simp; done)) (by first | assumption | omega | (simp; done)) (by first | assumption | omega)) rfl) rfl rfl ?_
    refine Re rfl ?_
    refine thenQ_n ?_
    refine WcondP rfl rfl (fun hc1 => ?_) (fun hc1 => ?_)
    · have hc1' : lesM p l[k] b = true := by rw [lesM, ← hi0_1]; simpa using hc1
      clear hq
      refine WdrawL [28, 32] rfl (by kernel_rfl) (by kernel_rfl) ?_
      refine Dv rfl rfl rfl (U_load2 rfl rfl rfl rfl) rfl rfl ?_
      refine Dv rfl rfl rfl (U_move rfl) rfl rfl ?_
      refine Dv rfl rfl rfl (U_move rfl) rfl rfl ?_
      refine Dv rfl rfl rfl (U_indexR (j := k) rfl rfl rfl hx1) rfl rfl ?_
      refine Dv rfl rfl rfl (U_load1 rfl rfl (getM hx1)) rfl rfl ?_
      refine Dn_ rfl rfl rfl (U_storeAll rfl rfl rfl rfl rfl rfl) rfl rfl ?_
      refine Dv rfl rfl rfl (U_assign rfl) rfl rfl ?_
      refine Dr.nil rfl ?_
      refine blkQ_n ?_
      refine thenQ_n ?_
      refine W_reg rfl ?_
      refine Rv rfl rfl rfl (U_move rfl) rfl rfl ?_
      refine Rv rfl rfl rfl (U_add rfl rfl (w64e (m := ((k + 1 : Nat) : Int)) (by omega) (by omega) (by omega))) rfl rfl ?_
      refine Rv rfl rfl rfl (U_assign rfl) rfl rfl ?_
      refine Re rfl ?_
      refine thenQ_n ?_
      refine againWeakH (b := 1) (cs' := [i64 ((movP p l[k]).n), .ros (((movP p l[k]).ds).map i64) (((movP p l[k]).ds).length) none]) rfl (leL_cons (le_refl _) (leL_cons le_cap (leL_refl _))) ?_
      exact againTo (T' := [(1, .ros (l.map i64) l.length d), (2, .rop [i64 p.n, .ros (p.ds.map i64) p.ds.length c] 0), (4, .ptr 0 0), (6, .ptr 1 0), (7, i64 l[k]), (8, i64 (((k + 1) : Nat) : Int))]) (H' := [(0, some (.cells [i64 0, .nils] 24)), (1, some (.cells [i64 (movP p l[k]).n, .ros ((movP p l[k]).ds.map i64) (movP p l[k]).ds.length none] 24))]) (n := 2) (l.length - (k + 1)) ⟨k + 1, movP p l[k], l[k], (by omega), (by first | exact hq | rfl), (by first | exact hi0_2.trans (bstL_step hck (if_pos hc1').symm) | exact hi0_2.trans (bstL_step hck (if_neg hc1').symm)), (by assumption), rfl, rfl⟩ (by omega) id ⟨eD rfl rfl, eD rfl rfl, e_ rfl rfl, e_ rfl rfl, eD rfl rfl, eD rfl rfl, trivial⟩ ⟨rD rfl rfl rfl, rD rfl rfl rfl, trivial⟩ rfl rfl rfl rfl (fun _ _ => rfl)
    · have hc1' : ¬ lesM p l[k] b = true := by rw [lesM, ← hi0_1]; simpa using hc1
      refine W_skip rfl ?_
      refine blkQ_n ?_
      refine thenQ_n ?_
      refine W_reg rfl ?_
      refine Rv rfl rfl rfl (U_move rfl) rfl rfl ?_
      refine Rv rfl rfl rfl (U_add rfl rfl (w64e (m := ((k + 1 : Nat) : Int)) (by omega) (by omega) (by omega))) rfl rfl ?_
      refine Rv rfl rfl rfl (U_assign rfl) rfl rfl ?_
      refine Re rfl ?_
      refine thenQ_n ?_
      exact againTo (T' := [(1, .ros (l.map i64) l.length d), (2, .rop [i64 p.n, .ros (p.ds.map i64) p.ds.length c] 0), (4, .ptr 0 0), (6, .ptr 1 0), (7, i64 b), (8, i64 (((k + 1) : Nat) : Int))]) (H' := [(0, some (.cells [i64 0, .nils] 24)), (1, some (.cells [i64 q.n, .ros (q.ds.map i64) q.ds.length none] 24))]) (n := 2) (l.length - (k + 1)) ⟨k + 1, q, b, (by omega), (by first | exact hq | rfl), (by first | exact hi0_2.trans (bstL_step hck (if_pos hc1').symm) | exact hi0_2.trans (bstL_step hck (if_neg hc1').symm)), (by assumption), rfl, rfl⟩ (by omega) id ⟨eD rfl rfl, eD rfl rfl, e_ rfl rfl, e_ rfl rfl, eD rfl rfl, eD rfl rfl, trivial⟩ ⟨rD rfl rfl rfl, rD rfl rfl rfl, trivial⟩ rfl rfl rfl rfl (fun _ _ => rfl)
  · refine W_exit rfl ?_
    refine thenQ_x ?_
    refine thenQ_x ?_
    refine blkQ_x rfl ?_
    refine thenQ_n ?_
    refine W_seq rfl ?_
    refine WfrN 1 rfl rfl (T' := [(4, .ptr 0 0), (6, .rop [i64 q.n, .ros (q.ds.map i64) q.ds.length none] 0), (7, i64 b)]) (H' := [(0, some (.cells [i64 0, .nils] 24))]) ⟨⟨_, rfl, rfl⟩, ⟨_, rfl, rfl⟩, ⟨_, rfl, rfl⟩, trivial⟩ ⟨⟨rfl, rF rfl rfl⟩, trivial⟩ ?_
    refine WdrawL [34, 37] rfl (by kernel_rfl) (by kernel_rfl) ?_
    refine Dv rfl rfl rfl (U_fieldAddrR rfl) rfl rfl ?_
    refine Dv rfl rfl rfl (U_load1 rfl rfl rfl) rfl rfl ?_
    refine Dv rfl rfl rfl (U_buildSliceF (by rfl) (by decide) rfl rfl rfl) rfl rfl ?_
    refine Dv rfl rfl rfl (U_fieldAddrR rfl) rfl rfl ?_
    refine Dv rfl rfl rfl (U_load1 rfl rfl rfl) rfl rfl ?_
    refine Da rfl rfl rfl (U_appL (n' := q.ds.length) rfl rfl rfl rfl (srcR (map_len1 _)) (by omega) (by omega) rfl) rfl rfl rfl rfl ?_
    refine Dv rfl rfl rfl (U_build rfl rfl) rfl rfl ?_
    refine Dv rfl rfl rfl (U_move rfl) rfl rfl ?_
    refine Dn_ rfl rfl rfl (U_storeAll rfl rfl rfl rfl rfl rfl) rfl rfl ?_
    refine Dv rfl rfl rfl (U_assign rfl) rfl rfl ?_
    refine Dr.nil rfl ?_
    refine thenQ_n ?_
    refine WfrO 2 (q.ds.map i64) rfl (mapD (fun _ => rfl) _) (T' := [(4, .ptr 0 0), (5, i64 b)]) (H' := [(0, some (.cells [i64 q.n, .ros (q.ds.map i64) q.ds.length none] 24))]) ⟨fS rfl rfl, fD rfl rfl, trivial⟩ ⟨⟨rfl, .cells (.cons (.same rfl) (.cons .out .nil))⟩, trivial⟩ ?_
    refine W_ret rfl ?_
    exact retL (rlA rfl rfl rfl (rlT rfl rl0)) (by first | rfl | (simp only [packA]; rw [hi0_2, List.drop_eq_nil_of_le (by omega), bstL, ← hi0_1]; first | done | rfl)) rfl
theorem leastR_p (p : Pl) (c : Option Nat) (hl : p.ds.length ≤ 1000000) (ks : List Int) (d : Option Nat) (hk : ks.length ≤ 1000000) : Pure Try.prog 44 [plA p c, intsA ks d] (.tup [plA (leaP p ks) none, i64 (leaM p ks), i64 (leaE p ks)]) := by
  refine pure_of_body Try.func44 (c := body Try.f44) rfl (by simp [Try.ntmps44]) fun w0 Φ0 => ?_
  refine W_seq rfl ?_
  refine W_reg rfl ?_
  refine Rv rfl rfl rfl (U_boxF rfl rfl rfl) rfl rfl ?_
  refine Ra rfl rfl rfl (U_alloc) rfl rfl rfl ?_
  refine Rv rfl rfl rfl (U_assign rfl) rfl rfl ?_
  refine Rv rfl rfl rfl (U_assign rfl) rfl rfl ?_
  refine Re rfl ?_
  refine thenQ_n ?_
  refine W_seq rfl ?_
  refine W_seq rfl ?_
  refine W_reg rfl ?_
  refine Rv rfl rfl rfl (U_load2 rfl rfl rfl rfl) rfl rfl ?_
  refine Rv rfl rfl rfl (U_move rfl) rfl rfl ?_
  refine Rv rfl rfl rfl (U_call rfl rfl (kinded_p p c (by first | assumption | omega) ks d (by first | assumption | omega)) rfl) rfl rfl ?_
  refine Rv rfl rfl rfl (U_neq rfl rfl) rfl rfl ?_
  refine Re rfl ?_
  refine thenQ_n ?_
  refine WcondP rfl rfl (fun hc0 => ?_) (fun hc0 => ?_)
  · rw [leaP, leaM, if_neg hc0, if_neg hc0]
    refine W_seq rfl ?_
    refine W_reg rfl ?_
    refine Rv rfl rfl rfl (U_build rfl rfl) rfl rfl ?_
    refine Rv rfl rfl rfl (U_load2 rfl rfl rfl rfl) rfl rfl ?_
    refine Rv rfl rfl rfl (U_move rfl) rfl rfl ?_
    refine Rv rfl rfl rfl (U_call rfl rfl (kinded_p p c (by first | assumption | omega) ks d (by first | assumption | omega)) rfl) rfl rfl ?_
    refine Rn rfl rfl rfl (U_storeAll rfl rfl rfl rfl rfl rfl) rfl ?_
    refine Rv rfl rfl rfl (U_assign rfl) rfl rfl ?_
    refine Rv rfl rfl rfl (U_assign rfl) rfl rfl ?_
    refine Re rfl ?_
    refine thenQ_n ?_
    refine WweakH (b := 0) (cs' := [i64 0, .ros [] 0 none]) rfl (leL_cons (le_refl _) (leL_cons le_nils (leL_refl _))) ?_
    refine W_ret rfl ?_
    refine thenQ_r ?_
    exact retL (rlA rfl rfl rfl (rlT rfl (rlT rfl rl0))) (by first | rfl | (simp only [packA]; rfl; first | done | rfl)) rfl
  · rw [Decidable.not_not] at hc0
    have hcp : chkP p = 0 := by have h := hc0; unfold leaE at h; split at h; exact absurd h (by assumption); rename_i h2; exact Decidable.not_not.1 h2
    have hck : chkK ks = 0 := by have h := hc0; unfold leaE at h; rw [if_neg (by simpa using hcp)] at h; exact h
    obtain ⟨N, hv⟩ := vp_of hcp
    have hok := chkK_ok hck
    rw [leaP, leaM, hc0, if_pos rfl, if_pos rfl, ← lstM_all reached_0]
    obtain ⟨hr0, hr8⟩ := reached_len (ks := ks)
    refine W_skip rfl ?_
    refine thenQ_n ?_
    refine W_seq rfl ?_
    refine Wdraw rfl (by kernel_rfl) (by kernel_rfl) ?_
    refine Dv rfl rfl rfl (U_load2 rfl rfl rfl rfl) rfl rfl ?_
    refine Dv rfl rfl rfl (U_move rfl) rfl rfl ?_
    refine Dv rfl rfl rfl (U_call rfl rfl (reachedR_p ks d (by first | assumption | omega) hok) rfl) rfl rfl ?_
    refine Dv rfl rfl rfl (U_call rfl rfl (leastOf_p p c N hv (reachedQ ks) none (by first | assumption | omega) (fun x hx => reached_in hx)) rfl) rfl rfl ?_
    refine Dv rfl rfl rfl (U_move rfl) rfl rfl ?_
    refine Dv rfl rfl rfl (U_extract rfl rfl) rfl rfl ?_
    refine Dv rfl rfl rfl (U_extract rfl rfl) rfl rfl ?_
    refine Da rfl rfl rfl (U_alloc) rfl rfl rfl rfl ?_
    refine Dn_ rfl rfl rfl (U_storeAll rfl rfl rfl rfl rfl rfl) rfl rfl ?_
    refine Dv rfl rfl rfl (U_assign rfl) rfl rfl ?_
    refine Dr.nil rfl ?_
    refine thenQ_n ?_
    refine WfrN 1 rfl rfl (T' := [(4, .ptr 0 0), (7, .rop [i64 ((movP p (bstL (lesM p) 0 (reachedQ ks))).n), .ros (((movP p (bstL (lesM p) 0 (reachedQ ks))).ds).map i64) (((movP p (bstL (lesM p) 0 (reachedQ ks))).ds).length) none] 0), (8, i64 (bstL (lesM p) 0 (reachedQ ks)))]) (H' := [(0, some (.cells [i64 0, .nils] 24))]) ⟨⟨_, rfl, rfl⟩, ⟨_, rfl, rfl⟩, ⟨_, rfl, rfl⟩, trivial⟩ ⟨⟨rfl, rF rfl rfl⟩, trivial⟩ ?_
    refine W_seq rfl ?_
    refine W_reg rfl ?_
    refine Rv rfl rfl rfl (U_load2 rfl rfl rfl rfl) rfl rfl ?_
    refine Rv rfl rfl rfl (U_move rfl) rfl rfl ?_
    refine Rn rfl rfl rfl (U_storeAll rfl rfl rfl rfl rfl rfl) rfl ?_
    refine Rv rfl rfl rfl (U_assign rfl) rfl rfl ?_
    refine Rv rfl rfl rfl (U_assign rfl) rfl rfl ?_
    refine Re rfl ?_
    refine thenQ_n ?_
    refine W_ret rfl ?_
    exact retL (rlA rfl rfl rfl (rlT rfl (rlT rfl rl0))) (by first | rfl | (simp only [packA]; rfl; first | done | rfl)) rfl
end Go.Proofs.Ythoodfiacfmhgaa
end

section
/- Contracts of package plate: plates that are alike. -/
namespace Go.Proofs.Ythoodfiacfmhgaa
set_option maxRecDepth 20000
open Go.AE
/-- The motion by which a plate becomes another one. -/
noncomputable def alkF (p q : Pl) (ks : List Int) : Option Int := (reachedQ ks).find? fun k => decide ((movP p k).ds = q.ds)
noncomputable def alkE (p q : Pl) (ks : List Int) : Int := if chkP p ≠ 0 then chkP p else if chkP q ≠ 0 then chkP q else if chkK ks ≠ 0 then chkK ks else match alkF p q ks with
  | some _ => 0
  | none => 5
noncomputable def alkM (p q : Pl) (ks : List Int) : Int := if chkP p = 0 ∧ chkP q = 0 ∧ chkK ks = 0 then (alkF p q ks).getD 0 else 0
theorem find_some {α : Type} {l : List α} {p : α → Bool} {i : Nat} (hi : i < l.length) (hb : ∀ j (hj : j < l.length), j < i → p l[j] = false) (ht : p l[i] = true) : l.find? p = some l[i] := by
  rw [List.find?_eq_some_iff_getElem]
  exact ⟨ht, i, hi, rfl, fun j hj => by simp [hb j (by omega) hj]⟩
theorem find_none {α : Type} {l : List α} {p : α → Bool} (hb : ∀ j (hj : j < l.length), p l[j] = false) : l.find? p = none := by
  rw [List.find?_eq_none]; intro x hx; obtain ⟨j, hj, rfl⟩ := List.getElem_of_mem hx; simp [hb j hj]
theorem alk1 {p q : Pl} {ks : List Int} (h : chkP p ≠ 0) : alkM p q ks = 0 ∧ alkE p q ks = chkP p := ⟨if_neg fun h2 => h h2.1, if_pos h⟩
theorem alk2 {p q : Pl} {ks : List Int} (h : chkP p = 0) (h1 : chkP q ≠ 0) : alkM p q ks = 0 ∧ alkE p q ks = chkP q := ⟨if_neg fun h2 => h1 h2.2.1, by rw [alkE, if_neg (by simpa using h), if_pos h1]⟩
theorem alk3 {p q : Pl} {ks : List Int} (h : chkP p = 0) (h1 : chkP q = 0) (h2 : chkK ks ≠ 0) : alkM p q ks = 0 ∧ alkE p q ks = chkK ks := ⟨if_neg fun h3 => h2 h3.2.2, by rw [alkE, if_neg (by simpa using h), if_neg (by simpa using h1), if_pos h2]⟩
theorem alk4 {p q : Pl} {ks : List Int} (h : chkP p = 0) (h1 : chkP q = 0) (h2 : chkK ks = 0) {k : Int} (h3 : alkF p q ks = some k) : alkM p q ks = k ∧ alkE p q ks = 0 := ⟨by rw [alkM, if_pos ⟨h, h1, h2⟩, h3]; rfl, by rw [alkE, if_neg (by simpa using h), if_neg (by simpa using h1), if_neg (by simpa using h2), h3]⟩
theorem alk5 {p q : Pl} {ks : List Int} (h : chkP p = 0) (h1 : chkP q = 0) (h2 : chkK ks = 0) (h3 : alkF p q ks = none) : alkM p q ks = 0 ∧ alkE p q ks = 5 := ⟨by rw [alkM, if_pos ⟨h, h1, h2⟩, h3]; rfl, by rw [alkE, if_neg (by simpa using h), if_neg (by simpa using h1), if_neg (by simpa using h2), h3]⟩
theorem alk23 {p q : Pl} {ks : List Int} (h : chkP p = 0) (h1 : leaE q ks ≠ 0) : alkM p q ks = 0 ∧ alkE p q ks = leaE q ks := by
  by_cases hq : chkP q = 0
  · have e : leaE q ks = chkK ks := if_neg (by simpa using hq)
    rw [e] at h1 ⊢; exact alk3 h hq h1
  · rw [show leaE q ks = chkP q from if_pos hq]; exact alk2 h hq
theorem sq_inj {N M : Nat} (h : N * N = M * M) : N = M := by
  rcases Nat.lt_trichotomy N M with h1 | h1 | h1
  · have := Nat.mul_lt_mul'' h1 h1; omega
  · exact h1
  · have := Nat.mul_lt_mul'' h1 h1; omega
theorem same_n {p q : Pl} {N M : Nat} {k : Int} (hv : VP p N) (hw : VP q M) (h : (movP p k).ds = q.ds) : p.n = q.n := by
  have := congrArg List.length h
  rw [movP_len, hv.len, hw.len] at this
  rw [hv.n, hw.n, sq_inj this]
theorem alk_lt {p : Pl} {q : Pl} {k : Nat} {L : List Int} (hb : ∀ j (hj : j < L.length), j < k → decide ((movP p L[j]).ds = q.ds) = false) (hk : k < L.length) (h : ¬ (movP p L[k]).ds = q.ds) : ∀ j (hj : j < L.length), j < k + 1 → decide ((movP p L[j]).ds = q.ds) = false := fun j hj h2 => by
  rcases Nat.lt_succ_iff_lt_or_eq.1 h2 with h2 | rfl
  · exact hb j hj h2
  · simpa using h
theorem alike_p (p q : Pl) (c d : Option Nat) (hl : p.ds.length ≤ 1000000) (hl2 : q.ds.length ≤ 1000000) (ks : List Int) (e : Option Nat) (hk : ks.length ≤ 1000000) : Pure Try.prog 45 [plA p c, plA q d, intsA ks e] (.tup [i64 (alkM p q ks), i64 (alkE p q ks)]) := by
  refine pure_of_body Try.func45 (c := body Try.f45) rfl (by simp [Try.ntmps45]) fun w0 Φ0 => ?_
  refine W_seq rfl ?_
  refine W_reg rfl ?_
  refine Rv rfl rfl rfl (U_boxF rfl rfl rfl) rfl rfl ?_
  refine Rv rfl rfl rfl (U_boxF rfl rfl rfl) rfl rfl ?_
  refine Rv rfl rfl rfl (U_assign rfl) rfl rfl ?_
  refine Rv rfl rfl rfl (U_assign rfl) rfl rfl ?_
  refine Re rfl ?_
  refine thenQ_n ?_
  refine W_seq rfl ?_
  refine W_reg rfl ?_
  refine Rv rfl rfl rfl (U_load2 rfl rfl rfl rfl) rfl rfl ?_
  refine Rv rfl rfl rfl (U_call rfl rfl (open0_p p c (by first | assumption | omega)) rfl) rfl rfl ?_
  refine Rv rfl rfl rfl (U_move rfl) rfl rfl ?_
  refine Rv rfl rfl rfl (U_extract rfl rfl) rfl rfl ?_
  refine Rv rfl rfl rfl (U_extract rfl rfl) rfl rfl ?_
  refine Rv rfl rfl rfl (U_assign rfl) rfl rfl ?_
  refine Rv rfl rfl rfl (U_assign rfl) rfl rfl ?_
  refine Re rfl ?_
  refine thenQ_n ?_
  refine W_seq rfl ?_
  refine W_seq rfl ?_
  refine W_reg rfl ?_
  refine Rv rfl rfl rfl (U_move rfl) rfl rfl ?_
  refine Rv rfl rfl rfl (U_neq rfl rfl) rfl rfl ?_
  refine Re rfl ?_
  refine thenQ_n ?_
  refine WcondP rfl rfl (fun hc0 => ?_) (fun hc0 => ?_)
  · simp only [if_neg hc0]
    obtain ⟨ha1, ha2⟩ := alk1 hc0; rw [ha1, ha2]
    refine W_seq rfl ?_
    refine W_reg rfl ?_
    refine Rv rfl rfl rfl (U_move rfl) rfl rfl ?_
    refine Rv rfl rfl rfl (U_assign rfl) rfl rfl ?_
    refine Rv rfl rfl rfl (U_assign rfl) rfl rfl ?_
    refine Re rfl ?_
    refine thenQ_n ?_
    refine W_ret rfl ?_
    refine thenQ_r ?_
    exact retL (rlT rfl (rlT rfl rl0)) (by first | rfl | (simp only [packA]; rfl; first | done | rfl)) rfl
  · rw [Decidable.not_not] at hc0
    simp only [if_pos hc0]
    obtain ⟨N, hv⟩ := vp_of hc0
    refine W_skip rfl ?_
    refine thenQ_n ?_
    refine W_seq rfl ?_
    refine W_seq rfl ?_
    refine W_reg rfl ?_
    refine Rv rfl rfl rfl (U_load2 rfl rfl rfl rfl) rfl rfl ?_
    refine Rv rfl rfl rfl (U_call rfl rfl (open0_p q d (by first | assumption | omega)) rfl) rfl rfl ?_
    refine Rv rfl rfl rfl (U_move rfl) rfl rfl ?_
    refine Rv rfl rfl rfl (U_extract rfl rfl) rfl rfl ?_
    refine Rv rfl rfl rfl (U_extract rfl rfl) rfl rfl ?_
    refine Rv rfl rfl rfl (U_assign rfl) rfl rfl ?_
    refine Rv rfl rfl rfl (U_assign rfl) rfl rfl ?_
    refine Re rfl ?_
    refine thenQ_n ?_
    refine W_seq rfl ?_
    refine W_reg rfl ?_
    refine Rv rfl rfl rfl (U_move rfl) rfl rfl ?_
    refine Rv rfl rfl rfl (U_neq rfl rfl) rfl rfl ?_
    refine Re rfl ?_
    refine thenQ_n ?_
    refine WcondP rfl rfl (fun hc1 => ?_) (fun hc1 => ?_)
    · simp only [if_neg hc1]
      obtain ⟨ha1, ha2⟩ := alk2 (q := q) hc0 hc1; rw [ha1, ha2]
      refine W_seq rfl ?_
      refine W_reg rfl ?_
      refine Rv rfl rfl rfl (U_move rfl) rfl rfl ?_
      refine Rv rfl rfl rfl (U_assign rfl) rfl rfl ?_
      refine Rv rfl rfl rfl (U_assign rfl) rfl rfl ?_
      refine Re rfl ?_
      refine thenQ_n ?_
      refine W_ret rfl ?_
      refine thenQ_r ?_
      exact retL (rlT rfl (rlT rfl rl0)) (by first | rfl | (simp only [packA]; rfl; first | done | rfl)) rfl
    · rw [Decidable.not_not] at hc1
      simp only [if_pos hc1]
      refine W_skip rfl ?_
      refine thenQ_n ?_
      refine W_seq rfl ?_
      refine W_seq rfl ?_
      refine W_reg rfl ?_
      refine Rv rfl rfl rfl (U_move rfl) rfl rfl ?_
      refine Rv rfl rfl rfl (U_call rfl rfl (chkK_p ks e (by first | assumption | omega)) rfl) rfl rfl ?_
      refine Rv rfl rfl rfl (U_assign rfl) rfl rfl ?_
      refine Re rfl ?_
      refine thenQ_n ?_
      refine W_seq rfl ?_
      refine W_reg rfl ?_
      refine Rv rfl rfl rfl (U_move rfl) rfl rfl ?_
      refine Rv rfl rfl rfl (U_neq rfl rfl) rfl rfl ?_
      refine Re rfl ?_
      refine thenQ_n ?_
      refine WcondP rfl rfl (fun hc2 => ?_) (fun hc2 => ?_)
      · obtain ⟨ha1, ha2⟩ := alk3 hc0 hc1 hc2; rw [ha1, ha2]
        refine W_seq rfl ?_
        refine W_reg rfl ?_
        refine Rv rfl rfl rfl (U_move rfl) rfl rfl ?_
        refine Rv rfl rfl rfl (U_assign rfl) rfl rfl ?_
        refine Rv rfl rfl rfl (U_assign rfl) rfl rfl ?_
        refine Re rfl ?_
        refine thenQ_n ?_
        refine W_ret rfl ?_
        refine thenQ_r ?_
        exact retL (rlT rfl (rlT rfl rl0)) (by first | rfl | (simp only [packA]; rfl; first | done | rfl)) rfl
      · rw [Decidable.not_not] at hc2
        have hok := chkK_ok hc2
        have hpl : p.ds.length ≤ 64 := by have := Nat.mul_le_mul hv.hi hv.hi; rw [hv.len]; exact this
        obtain ⟨hr0, hr8⟩ := reached_len (ks := ks)
        refine W_skip rfl ?_
        refine thenQ_n ?_
        refine W_seq rfl ?_
        refine W_seq rfl ?_
        refine W_reg rfl ?_
        refine Rv rfl rfl rfl (U_move rfl) rfl rfl ?_
        refine Rv rfl rfl rfl (U_call rfl rfl (reached_p ks e (by first | assumption | omega) hok) rfl) rfl rfl ?_
        refine Rv rfl rfl rfl (U_lenOf rfl len_ros) rfl rfl ?_
        refine Rv rfl rfl rfl (U_move rfl) rfl rfl ?_
        refine Re rfl ?_
        refine thenQ_n ?_
        refine W_block rfl ?_
        refine LoopTo (T' := [(4, .rop [i64 q.n, .ros (q.ds.map i64) q.ds.length d] 0), (8, .rop [i64 p.n, .ros (p.ds.map i64) p.ds.length c] 0), (37, .ros ((reachedQ ks).map i64) ((reachedQ ks).length) none), (38, i64 (((reachedQ ks).length : Nat) : Int)), (39, i64 ((0 : Nat) : Int))]) (H' := []) (n := 0) rfl (fun mz_ qz_ => ∃ (k : Nat), k ≤ (reachedQ ks).length ∧ (∀ j (hj : j < (reachedQ ks).length), j < k → decide ((movP p (reachedQ ks)[j]).ds = q.ds) = false) ∧ mz_ = (reachedQ ks).length - k ∧ qz_ = ⟨[(4, .rop [i64 q.n, .ros (q.ds.map i64) q.ds.length d] 0), (8, .rop [i64 p.n, .ros (p.ds.map i64) p.ds.length c] 0), (37, .ros ((reachedQ ks).map i64) ((reachedQ ks).length) none), (38, i64 (((reachedQ ks).length : Nat) : Int)), (39, i64 ((k : Nat) : Int))], [], 0, []⟩) ⟨0, (by omega), (fun j hj h => absurd h (Nat.not_lt_zero _)), rfl, rfl⟩ id ⟨eD rfl rfl, eD rfl rfl, eD rfl rfl, eD rfl rfl, eD rfl rfl, trivial⟩ trivial rfl rfl rfl rfl (fun _ _ => rfl) ?_
        rintro _ _ ⟨k, hi0_0, hi0_1, rfl, rfl⟩
        refine W_seq rfl ?_
        refine W_reg rfl ?_
        refine Rv rfl rfl rfl (U_lss rfl rfl) rfl rfl ?_
        refine Re rfl ?_
        refine thenQ_n ?_
        refine W_seq rfl ?_
        refine WcondP rfl rfl (fun hc3 => ?_) (fun hc3 => ?_)
        · have hck : k < (reachedQ ks).length := by omega
          have hkk := reached_in (List.getElem_mem hck)
          have hml := movP_len (p := p) (m := (reachedQ ks)[k])
          refine W_skip rfl ?_
          refine thenQ_n ?_
          refine W_seq rfl ?_
          refine W_block rfl ?_
          refine W_seq rfl ?_
          refine W_reg rfl ?_
          have hx1 : k < (reachedQ ks).length := by omega
          refine Rv rfl rfl rfl (U_indexR (j := k) rfl rfl rfl hx1) rfl rfl ?_
          refine Rv rfl rfl rfl (U_load1 rfl rfl (getM hx1)) rfl rfl ?_
          refine Rv rfl rfl rfl (U_assign rfl) rfl rfl ?_
          refine Re rfl ?_
          refine thenQ_n ?_
          refine W_seq rfl ?_
          refine Wdraw rfl (by kernel_rfl) (by kernel_rfl) ?_
          refine Dv rfl rfl rfl (U_move rfl) rfl rfl ?_
          refine Dv rfl rfl rfl (U_move rfl) rfl rfl ?_
          refine Dv rfl rfl rfl (U_call rfl rfl (moved_p p c N hv ((reachedQ ks)[k]) (by first | assumption | omega)) rfl) rfl rfl ?_
          refine Dv rfl rfl rfl (U_field rfl rfl) rfl rfl ?_
          refine Dv rfl rfl rfl (U_fieldAddrR rfl) rfl rfl ?_
          refine Dv rfl rfl rfl (U_load1 rfl rfl rfl) rfl rfl ?_
          refine Dv rfl rfl rfl (U_call rfl rfl (equal_p ((movP p ((reachedQ ks)[k])).ds) q.ds (some (movP p ((reachedQ ks)[k])).ds.length) d (by first | assumption | omega | (simp; done) | (simp; omega)) (by first | assumption | omega | (simp; done) | (simp; omega))) rfl) rfl rfl ?_
          refine Dr.nil rfl ?_
          refine thenQ_n ?_
          refine WcondP rfl rfl (fun hc4 => ?_) (fun hc4 => ?_)
          · obtain ⟨ha1, ha2⟩ := alk4 hc0 hc1 hc2 (find_some hck hi0_1 (by simpa using hc4)); rw [ha1, ha2]
            refine W_seq rfl ?_
            refine W_reg rfl ?_
            refine Rv rfl rfl rfl (U_move rfl) rfl rfl ?_
            refine Rv rfl rfl rfl (U_assign rfl) rfl rfl ?_
            refine Rv rfl rfl rfl (U_assign rfl) rfl rfl ?_
            refine Re rfl ?_
            refine thenQ_n ?_
            refine W_ret rfl ?_
            refine blkQ_r ?_
            refine thenQ_r ?_
            refine thenQ_r ?_
            refine blkQ_r ?_
            refine thenQ_r ?_
            exact retL (rlT rfl (rlT rfl rl0)) (by first | rfl | (simp only [packA]; rfl; first | done | rfl)) rfl
          · have hno : ¬ (movP p (reachedQ ks)[k]).ds = q.ds := by simpa using hc4
            refine W_skip rfl ?_
            refine blkQ_n ?_
            refine thenQ_n ?_
            refine W_reg rfl ?_
            refine Rv rfl rfl rfl (U_add rfl rfl (w64e (m := ((k + 1 : Nat) : Int)) (by omega) (by omega) (by omega))) rfl rfl ?_
            refine Rv rfl rfl rfl (U_move rfl) rfl rfl ?_
            refine Re rfl ?_
            refine thenQ_n ?_
            exact againTo (T' := [(4, .rop [i64 q.n, .ros (q.ds.map i64) q.ds.length d] 0), (8, .rop [i64 p.n, .ros (p.ds.map i64) p.ds.length c] 0), (37, .ros ((reachedQ ks).map i64) ((reachedQ ks).length) none), (38, i64 (((reachedQ ks).length : Nat) : Int)), (39, i64 (((k + 1) : Nat) : Int))]) (H' := []) (n := 0) ((reachedQ ks).length - (k + 1)) ⟨k + 1, (by omega), (alk_lt hi0_1 hck hno), rfl, rfl⟩ (by omega) id ⟨eD rfl rfl, eD rfl rfl, eD rfl rfl, eD rfl rfl, eD rfl rfl, trivial⟩ trivial rfl rfl rfl rfl (fun _ _ => rfl)
        · obtain ⟨ha1, ha2⟩ := alk5 hc0 hc1 hc2 (find_none fun j hj => hi0_1 j hj (by omega)); rw [ha1, ha2]
          refine W_exit rfl ?_
          refine thenQ_x ?_
          refine thenQ_x ?_
          refine blkQ_x rfl ?_
          refine thenQ_n ?_
          refine W_seq rfl ?_
          refine W_reg rfl ?_
          refine Rv rfl rfl rfl (U_assign rfl) rfl rfl ?_
          refine Rv rfl rfl rfl (U_assign rfl) rfl rfl ?_
          refine Re rfl ?_
          refine thenQ_n ?_
          refine W_ret rfl ?_
          exact retL (rlT rfl (rlT rfl rl0)) (by first | rfl | (simp only [packA]; rfl; first | done | rfl)) rfl
theorem alikeR_p (p q : Pl) (c d : Option Nat) (hl : p.ds.length ≤ 1000000) (hl2 : q.ds.length ≤ 1000000) (ks : List Int) (e : Option Nat) (hk : ks.length ≤ 1000000) : Pure Try.prog 46 [plA p c, plA q d, intsA ks e] (.tup [i64 (alkM p q ks), i64 (alkE p q ks)]) := by
  refine pure_of_body Try.func46 (c := body Try.f46) rfl (by simp [Try.ntmps46]) fun w0 Φ0 => ?_
  refine W_seq rfl ?_
  refine W_reg rfl ?_
  refine Rv rfl rfl rfl (U_boxF rfl rfl rfl) rfl rfl ?_
  refine Rv rfl rfl rfl (U_boxF rfl rfl rfl) rfl rfl ?_
  refine Rv rfl rfl rfl (U_assign rfl) rfl rfl ?_
  refine Rv rfl rfl rfl (U_assign rfl) rfl rfl ?_
  refine Re rfl ?_
  refine thenQ_n ?_
  refine W_seq rfl ?_
  refine W_seq rfl ?_
  refine W_reg rfl ?_
  refine Rv rfl rfl rfl (U_load2 rfl rfl rfl rfl) rfl rfl ?_
  refine Rv rfl rfl rfl (U_call rfl rfl (chkPR_p p c (by first | assumption | omega)) rfl) rfl rfl ?_
  refine Rv rfl rfl rfl (U_neq rfl rfl) rfl rfl ?_
  refine Re rfl ?_
  refine thenQ_n ?_
  refine WcondP rfl rfl (fun hc0 => ?_) (fun hc0 => ?_)
  · obtain ⟨ha1, ha2⟩ := alk1 hc0; rw [ha1, ha2]
    refine W_seq rfl ?_
    refine W_reg rfl ?_
    refine Rv rfl rfl rfl (U_load2 rfl rfl rfl rfl) rfl rfl ?_
    refine Rv rfl rfl rfl (U_call rfl rfl (chkPR_p p c (by first | assumption | omega)) rfl) rfl rfl ?_
    refine Rv rfl rfl rfl (U_assign rfl) rfl rfl ?_
    refine Rv rfl rfl rfl (U_assign rfl) rfl rfl ?_
    refine Re rfl ?_
    refine thenQ_n ?_
    refine W_ret rfl ?_
    refine thenQ_r ?_
    exact retL (rlT rfl (rlT rfl rl0)) (by first | rfl | (simp only [packA]; rfl; first | done | rfl)) rfl
  · rw [Decidable.not_not] at hc0
    obtain ⟨N, hv⟩ := vp_of hc0
    refine W_skip rfl ?_
    refine thenQ_n ?_
    refine W_seq rfl ?_
    refine W_seq rfl ?_
    refine W_reg rfl ?_
    refine Rv rfl rfl rfl (U_load2 rfl rfl rfl rfl) rfl rfl ?_
    refine Rv rfl rfl rfl (U_move rfl) rfl rfl ?_
    refine Rv rfl rfl rfl (U_call rfl rfl (kinded_p q d (by first | assumption | omega) ks e (by first | assumption | omega)) rfl) rfl rfl ?_
    refine Rv rfl rfl rfl (U_neq rfl rfl) rfl rfl ?_
    refine Re rfl ?_
    refine thenQ_n ?_
    refine WcondP rfl rfl (fun hc1 => ?_) (fun hc1 => ?_)
    · obtain ⟨ha1, ha2⟩ := alk23 (q := q) hc0 hc1; rw [ha1, ha2]
      refine W_seq rfl ?_
      refine W_reg rfl ?_
      refine Rv rfl rfl rfl (U_load2 rfl rfl rfl rfl) rfl rfl ?_
      refine Rv rfl rfl rfl (U_move rfl) rfl rfl ?_
      refine Rv rfl rfl rfl (U_call rfl rfl (kinded_p q d (by first | assumption | omega) ks e (by first | assumption | omega)) rfl) rfl rfl ?_
      refine Rv rfl rfl rfl (U_assign rfl) rfl rfl ?_
      refine Rv rfl rfl rfl (U_assign rfl) rfl rfl ?_
      refine Re rfl ?_
      refine thenQ_n ?_
      refine W_ret rfl ?_
      refine thenQ_r ?_
      exact retL (rlT rfl (rlT rfl rl0)) (by first | rfl | (simp only [packA]; rfl; first | done | rfl)) rfl
    · rw [Decidable.not_not] at hc1
      have hcq : chkP q = 0 := by have h := hc1; unfold leaE at h; split at h; exact absurd h (by assumption); rename_i h2; exact Decidable.not_not.1 h2
      have hcK : chkK ks = 0 := by have h := hc1; unfold leaE at h; rw [if_neg (by simpa using hcq)] at h; exact h
      obtain ⟨M, hw⟩ := vp_of hcq
      have hok := chkK_ok hcK
      have hpl : p.ds.length ≤ 64 := by have := Nat.mul_le_mul hv.hi hv.hi; rw [hv.len]; exact this
      obtain ⟨hr0, hr8⟩ := reached_len (ks := ks)
      refine W_skip rfl ?_
      refine thenQ_n ?_
      refine W_seq rfl ?_
      refine W_reg rfl ?_
      refine Rv rfl rfl rfl (U_move rfl) rfl rfl ?_
      refine Rv rfl rfl rfl (U_call rfl rfl (reachedR_p ks e (by first | assumption | omega) hok) rfl) rfl rfl ?_
      refine Rv rfl rfl rfl (U_assign rfl) rfl rfl ?_
      refine Re rfl ?_
      refine thenQ_n ?_
      refine W_seq rfl ?_
      refine W_seq rfl ?_
      refine W_reg rfl ?_
      refine Rv rfl rfl rfl (U_assign rfl) rfl rfl ?_
      refine Re rfl ?_
      refine thenQ_n ?_
      refine W_block rfl ?_
      refine LoopTo (T' := [(3, .rop [i64 p.n, .ros (p.ds.map i64) p.ds.length c] 0), (4, .rop [i64 q.n, .ros (q.ds.map i64) q.ds.length d] 0), (8, .ros ((reachedQ ks).map i64) ((reachedQ ks).length) none), (9, i64 ((0 : Nat) : Int))]) (H' := []) (n := 0) rfl (fun mz_ qz_ => ∃ (k : Nat), k ≤ (reachedQ ks).length ∧ (∀ j (hj : j < (reachedQ ks).length), j < k → decide ((movP p (reachedQ ks)[j]).ds = q.ds) = false) ∧ mz_ = (reachedQ ks).length - k ∧ qz_ = ⟨[(3, .rop [i64 p.n, .ros (p.ds.map i64) p.ds.length c] 0), (4, .rop [i64 q.n, .ros (q.ds.map i64) q.ds.length d] 0), (8, .ros ((reachedQ ks).map i64) ((reachedQ ks).length) none), (9, i64 ((k : Nat) : Int))], [], 0, []⟩) ⟨0, (by omega), (fun j hj h => absurd h (Nat.not_lt_zero _)), rfl, rfl⟩ id ⟨eD rfl rfl, eD rfl rfl, eD rfl rfl, eD rfl rfl, trivial⟩ trivial rfl rfl rfl rfl (fun _ _ => rfl) ?_
      rintro _ _ ⟨k, hi0_0, hi0_1, rfl, rfl⟩
      refine W_seq rfl ?_
      refine W_seq rfl ?_
      refine W_reg rfl ?_
      refine Rv rfl rfl rfl (U_move rfl) rfl rfl ?_
      refine Rv rfl rfl rfl (U_move rfl) rfl rfl ?_
      refine Rv rfl rfl rfl (U_lenOf rfl len_ros) rfl rfl ?_
      refine Rv rfl rfl rfl (U_lss rfl rfl) rfl rfl ?_
      refine Re rfl ?_
      refine thenQ_n ?_
      refine WcondP rfl rfl (fun hc2 => ?_) (fun hc2 => ?_)
      · have hck : k < (reachedQ ks).length := by omega
        have hkk := reached_in (List.getElem_mem hck)
        have hml := movP_len (p := p) (m := (reachedQ ks)[k])
        refine W_skip rfl ?_
        refine thenQ_n ?_
        refine W_seq rfl ?_
        refine W_block rfl ?_
        refine W_seq rfl ?_
        refine Wjoin ⟨[(3, .rop [i64 p.n, .ros (p.ds.map i64) p.ds.length c] 0), (4, .rop [i64 q.n, .ros (q.ds.map i64) q.ds.length d] 0), (8, .ros ((reachedQ ks).map i64) ((reachedQ ks).length) none), (9, i64 ((k : Nat) : Int)), (46, .bool ((decide (p.n = q.n)) && (decide (((movP p ((reachedQ ks)[k])).ds) = q.ds))))], [], 0, []⟩ ?_ ?_
        · refine Wdraw rfl (by kernel_rfl) (by kernel_rfl) ?_
          refine Dv rfl rfl rfl (U_fieldAddrR rfl) rfl rfl ?_
          refine Dv rfl rfl rfl (U_load1 rfl rfl rfl) rfl rfl ?_
          refine Dv rfl rfl rfl (U_fieldAddrR rfl) rfl rfl ?_
          refine Dv rfl rfl rfl (U_load1 rfl rfl rfl) rfl rfl ?_
          refine Dv rfl rfl rfl (U_eql rfl rfl) rfl rfl ?_
          refine Dv rfl rfl rfl (U_move rfl) rfl rfl ?_
          refine Dsplit (t := 35) rfl (fun hg1 => ?_) (fun hg1 => ?_)
          · rw [hg1]
            have hg1' : p.n = q.n := of_decide_eq_true hg1
            refine Dv rfl rfl rfl (U_load2 rfl rfl rfl rfl) rfl rfl ?_
            refine Dv rfl rfl rfl (U_move rfl) rfl rfl ?_
            refine Dv rfl rfl rfl (U_move rfl) rfl rfl ?_
            have hx2 : k < (reachedQ ks).length := by omega
            refine Dv rfl rfl rfl (U_indexR (j := k) rfl rfl rfl hx2) rfl rfl ?_
            refine Dv rfl rfl rfl (U_load1 rfl rfl (getM hx2)) rfl rfl ?_
            refine Dv rfl rfl rfl (U_call rfl rfl (moveOf_p p c N hv ((reachedQ ks)[k]) (by first | assumption | omega)) rfl) rfl rfl ?_
            refine Dv rfl rfl rfl (U_field rfl rfl) rfl rfl ?_
            refine Dv rfl rfl rfl (U_fieldAddrR rfl) rfl rfl ?_
            refine Dv rfl rfl rfl (U_load1 rfl rfl rfl) rfl rfl ?_
            refine Dv rfl rfl rfl (U_call rfl rfl (same_p ((movP p ((reachedQ ks)[k])).ds) q.ds (some (movP p ((reachedQ ks)[k])).ds.length) d (by first | assumption | omega | (simp; done) | (simp; omega)) (by first | assumption | omega | (simp; done) | (simp; omega))) rfl) rfl rfl ?_
            refine Dv rfl rfl rfl (U_pick_t rfl rfl) rfl rfl ?_
            refine Dr.nil rfl ?_
            exact joinTo id ⟨eD rfl rfl, eD rfl rfl, eD rfl rfl, eD rfl rfl, eD rfl rfl, trivial⟩ trivial rfl rfl rfl rfl (fun _ _ => rfl)
          · rw [hg1]
            have hg1' : ¬ (p.n = q.n) := of_decide_eq_false hg1
            refine Ds rfl rfl rfl rfl rfl ?_
            refine Ds rfl rfl rfl rfl rfl ?_
            refine Ds rfl rfl rfl rfl rfl ?_
            refine Ds rfl rfl rfl rfl rfl ?_
            refine Ds rfl rfl rfl rfl rfl ?_
            refine Ds rfl rfl rfl rfl rfl ?_
            refine Ds rfl rfl rfl rfl rfl ?_
            refine Ds rfl rfl rfl rfl rfl ?_
            refine Ds rfl rfl rfl rfl rfl ?_
            refine Ds rfl rfl rfl rfl rfl ?_
            refine Dv rfl rfl rfl (U_pick_f rfl rfl) rfl rfl ?_
            refine Dr.nil rfl ?_
            exact joinTo id ⟨eD rfl rfl, eD rfl rfl, eD rfl rfl, eD rfl rfl, eD rfl rfl, trivial⟩ trivial rfl rfl rfl rfl (fun _ _ => rfl)
        refine thenQ_n ?_
        refine Wcond rfl rfl (fun hc3 => ?_) (fun hc3 => ?_)
        · have hc3' : (movP p (reachedQ ks)[k]).ds = q.ds := by simp at hc3; exact hc3.2
          obtain ⟨ha1, ha2⟩ := alk4 hc0 hcq hcK (find_some hck hi0_1 (by simpa using hc3')); rw [ha1, ha2]
          refine W_seq rfl ?_
          refine W_reg rfl ?_
          refine Rv rfl rfl rfl (U_move rfl) rfl rfl ?_
          refine Rv rfl rfl rfl (U_move rfl) rfl rfl ?_
          have hx3 : k < (reachedQ ks).length := by omega
          refine Rv rfl rfl rfl (U_indexR (j := k) rfl rfl rfl hx3) rfl rfl ?_
          refine Rv rfl rfl rfl (U_load1 rfl rfl (getM hx3)) rfl rfl ?_
          refine Rv rfl rfl rfl (U_assign rfl) rfl rfl ?_
          refine Rv rfl rfl rfl (U_assign rfl) rfl rfl ?_
          refine Re rfl ?_
          refine thenQ_n ?_
          refine W_ret rfl ?_
          refine blkQ_r ?_
          refine thenQ_r ?_
          refine thenQ_r ?_
          refine blkQ_r ?_
          refine thenQ_r ?_
          exact retL (rlT rfl (rlT rfl rl0)) (by first | rfl | (simp only [packA]; rfl; first | done | rfl)) rfl
        · have hc3' := Bool.eq_false_iff.1 hc3
          have hno : ¬ (movP p (reachedQ ks)[k]).ds = q.ds := fun h => by have h2 := same_n hv hw h; simp [h, h2] at hc3
          refine W_skip rfl ?_
          refine blkQ_n ?_
          refine thenQ_n ?_
          refine W_reg rfl ?_
          refine Rv rfl rfl rfl (U_move rfl) rfl rfl ?_
          refine Rv rfl rfl rfl (U_add rfl rfl (w64e (m := ((k + 1 : Nat) : Int)) (by omega) (by omega) (by omega))) rfl rfl ?_
          refine Rv rfl rfl rfl (U_assign rfl) rfl rfl ?_
          refine Re rfl ?_
          refine thenQ_n ?_
          exact againTo (T' := [(3, .rop [i64 p.n, .ros (p.ds.map i64) p.ds.length c] 0), (4, .rop [i64 q.n, .ros (q.ds.map i64) q.ds.length d] 0), (8, .ros ((reachedQ ks).map i64) ((reachedQ ks).length) none), (9, i64 (((k + 1) : Nat) : Int))]) (H' := []) (n := 0) ((reachedQ ks).length - (k + 1)) ⟨k + 1, (by omega), (alk_lt hi0_1 hck hno), rfl, rfl⟩ (by omega) id ⟨eD rfl rfl, eD rfl rfl, eD rfl rfl, eD rfl rfl, trivial⟩ trivial rfl rfl rfl rfl (fun _ _ => rfl)
      · obtain ⟨ha1, ha2⟩ := alk5 hc0 hcq hcK (find_none fun j hj => hi0_1 j hj (by omega)); rw [ha1, ha2]
        refine W_exit rfl ?_
        refine thenQ_x ?_
        refine thenQ_x ?_
        refine blkQ_x rfl ?_
        refine thenQ_n ?_
        refine W_seq rfl ?_
        refine W_reg rfl ?_
        refine Rv rfl rfl rfl (U_assign rfl) rfl rfl ?_
        refine Rv rfl rfl rfl (U_assign rfl) rfl rfl ?_
        refine Re rfl ?_
        refine thenQ_n ?_
        refine W_ret rfl ?_
        exact retL (rlT rfl (rlT rfl rl0)) (by first | rfl | (simp only [packA]; rfl; first | done | rfl)) rfl
end Go.Proofs.Ythoodfiacfmhgaa
end

section
/- Contracts of package plate: circles, and counts. -/
namespace Go.Proofs.Ythoodfiacfmhgaa
set_option maxRecDepth 20000
open Go.AE
theorem circlesI_p (n m : Int) (hn : 1 ≤ n ∧ n ≤ 8) (hm : 0 ≤ m ∧ m < 8) : Pure Try.prog 69 [i64 n, i64 m] (i64 (cirQ n.toNat m : Nat)) := by
  have := circles_p n.toNat (by omega) (by omega) m hm
  rwa [Int.toNat_of_nonneg (by omega)] at this
theorem circlesIR_p (n m : Int) (hn : 1 ≤ n ∧ n ≤ 8) (hm : 0 ≤ m ∧ m < 8) : Pure Try.prog 70 [i64 n, i64 m] (i64 (cirQ n.toNat m : Nat)) := by
  have := circlesR_p n.toNat (by omega) (by omega) m hm
  rwa [Int.toNat_of_nonneg (by omega)] at this
theorem cirQ_le {N : Nat} {m : Int} : cirQ N m ≤ N * N := cirK_le (k := N * N)
/-- The circles of a motion. -/
def ciE (n m : Int) : Int := if ¬ (1 ≤ n ∧ n ≤ 8) then 6 else if isMo m = true then 0 else 2
def ciR (n m : Int) : Nat := if ciE n m = 0 then cirQ n.toNat m else 0
theorem inL18 {n : Int} : inL 1 8 [n] = true ↔ 1 ≤ n ∧ n ≤ 8 := by rw [inL1]; simp
theorem circlesA_p (n m : Int) : Pure Try.prog 31 [i64 n, i64 m] (.tup [i64 ((ciR n m : Nat) : Int), i64 (ciE n m)]) := by
  refine pure_of_body Try.func31 (c := body Try.f31) rfl (by simp [Try.ntmps31]) fun w0 Φ0 => ?_
  refine W_seq rfl ?_
  refine W_reg rfl ?_
  refine Rv rfl rfl rfl (U_assign rfl) rfl rfl ?_
  refine Rv rfl rfl rfl (U_assign rfl) rfl rfl ?_
  refine Re rfl ?_
  refine thenQ_n ?_
  refine W_seq rfl ?_
  refine W_block rfl ?_
  refine W_seq rfl ?_
  refine W_reg rfl ?_
  refine Rv rfl rfl rfl (U_move rfl) rfl rfl ?_
  refine Rv rfl rfl rfl (U_buildSliceF (by rfl) (by decide) rfl rfl rfl) rfl rfl ?_
  refine Rv rfl rfl rfl (U_call rfl rfl (within_p 1 8 [n] (some 1) (by first | assumption | omega | (simp; done) | (simp; omega))) rfl) rfl rfl ?_
  refine Rv rfl rfl rfl (U_not rfl) rfl rfl ?_
  refine Rv rfl rfl rfl (U_assign rfl) rfl rfl ?_
  refine Re rfl ?_
  refine thenQ_n ?_
  refine Wcond rfl rfl (fun hc0 => ?_) (fun hc0 => ?_)
  · have hn : ¬ (1 ≤ n ∧ n ≤ 8) := fun h => by have := inL18.2 h; simp [this] at hc0
    have hce : ciE n m = 6 := by rw [ciE, if_pos hn]
    rw [ciR, hce, if_neg (by decide)]
    refine W_seq rfl ?_
    refine W_reg rfl ?_
    refine Rv rfl rfl rfl (U_assign rfl) rfl rfl ?_
    refine Rv rfl rfl rfl (U_assign rfl) rfl rfl ?_
    refine Re rfl ?_
    refine thenQ_n ?_
    refine W_ret rfl ?_
    refine blkQ_r ?_
    refine thenQ_r ?_
    exact retL (rlT rfl (rlT rfl rl0)) (by first | rfl | (simp only [packA]; rfl; first | done | rfl)) rfl
  · have hc0' := Bool.eq_false_iff.1 hc0
    have hn : 1 ≤ n ∧ n ≤ 8 := inL18.1 (by simpa using hc0)
    refine W_seq rfl ?_
    refine W_reg rfl ?_
    refine Rv rfl rfl rfl (U_move rfl) rfl rfl ?_
    refine Rv rfl rfl rfl (U_buildSliceF (by rfl) (by decide) rfl rfl rfl) rfl rfl ?_
    refine Rv rfl rfl rfl (U_call rfl rfl (within_p 0 7 [m] (some 1) (by first | assumption | omega | (simp; done) | (simp; omega))) rfl) rfl rfl ?_
    refine Rv rfl rfl rfl (U_not rfl) rfl rfl ?_
    refine Rv rfl rfl rfl (U_assign rfl) rfl rfl ?_
    refine Re rfl ?_
    refine thenQ_n ?_
    refine Wcond rfl rfl (fun hc1 => ?_) (fun hc1 => ?_)
    · have hce : ciE n m = 2 := by rw [ciE, if_neg (not_not_intro hn), if_neg (by rw [← inL_mo]; simpa using hc1)]
      rw [ciR, hce, if_neg (by decide)]
      refine W_seq rfl ?_
      refine W_reg rfl ?_
      refine Rv rfl rfl rfl (U_assign rfl) rfl rfl ?_
      refine Rv rfl rfl rfl (U_assign rfl) rfl rfl ?_
      refine Re rfl ?_
      refine thenQ_n ?_
      refine W_ret rfl ?_
      refine blkQ_r ?_
      refine thenQ_r ?_
      exact retL (rlT rfl (rlT rfl rl0)) (by first | rfl | (simp only [packA]; rfl; first | done | rfl)) rfl
    · have hc1' := Bool.eq_false_iff.1 hc1
      have hmo : isMo m = true := inL_mo ▸ (by simpa using hc1 : inL 0 7 [m] = true)
      have hce : ciE n m = 0 := by rw [ciE, if_neg (not_not_intro hn), if_pos hmo]
      have hm := isMo_iff.1 hmo
      rw [ciR, hce, if_pos rfl]
      refine W_skip rfl ?_
      refine blkQ_n ?_
      refine thenQ_n ?_
      refine W_seq rfl ?_
      refine W_reg rfl ?_
      refine Rv rfl rfl rfl (U_move rfl) rfl rfl ?_
      refine Rv rfl rfl rfl (U_move rfl) rfl rfl ?_
      refine Rv rfl rfl rfl (U_call rfl rfl (circlesI_p n m (by first | assumption | omega) (by first | assumption | omega)) rfl) rfl rfl ?_
      refine Rv rfl rfl rfl (U_assign rfl) rfl rfl ?_
      refine Rv rfl rfl rfl (U_assign rfl) rfl rfl ?_
      refine Re rfl ?_
      refine thenQ_n ?_
      refine W_ret rfl ?_
      exact retL (rlT rfl (rlT rfl rl0)) (by first | rfl | (simp only [packA]; rfl; first | done | rfl)) rfl
theorem circlesAR_p (n m : Int) : Pure Try.prog 32 [i64 n, i64 m] (.tup [i64 ((ciR n m : Nat) : Int), i64 (ciE n m)]) := by
  refine pure_of_body Try.func32 (c := body Try.f32) rfl (by simp [Try.ntmps32]) fun w0 Φ0 => ?_
  refine W_seq rfl ?_
  refine W_reg rfl ?_
  refine Rv rfl rfl rfl (U_assign rfl) rfl rfl ?_
  refine Rv rfl rfl rfl (U_assign rfl) rfl rfl ?_
  refine Re rfl ?_
  refine thenQ_n ?_
  refine W_seq rfl ?_
  refine W_seq rfl ?_
  refine Wjoin ⟨[(0, i64 n), (1, i64 m), (11, .bool ((decide (n < 1)) || (decide (8 < n))))], [], 0, []⟩ ?_ ?_
  · refine W_reg rfl ?_
    refine Rv rfl rfl rfl (U_move rfl) rfl rfl ?_
    refine Rv rfl rfl rfl (U_lss rfl rfl) rfl rfl ?_
    refine Rv rfl rfl rfl (U_move rfl) rfl rfl ?_
    refine Rsplit (t := 8) rfl (fun hg1 => ?_) (fun hg1 => ?_)
    · rw [hg1]
      have hg1' : n < 1 := of_decide_eq_true hg1
      refine Rs rfl rfl rfl rfl rfl ?_
      refine Rs rfl rfl rfl rfl rfl ?_
      refine Rv rfl rfl rfl (U_pick_t rfl rfl) rfl rfl ?_
      refine Re rfl ?_
      exact joinTo id ⟨eD rfl rfl, eD rfl rfl, eD rfl rfl, trivial⟩ trivial rfl rfl rfl rfl (fun _ _ => rfl)
    · rw [hg1]
      have hg1' : ¬ (n < 1) := of_decide_eq_false hg1
      refine Rv rfl rfl rfl (U_move rfl) rfl rfl ?_
      refine Rv rfl rfl rfl (U_gtr rfl rfl) rfl rfl ?_
      refine Rv rfl rfl rfl (U_pick_f rfl rfl) rfl rfl ?_
      refine Re rfl ?_
      exact joinTo id ⟨eD rfl rfl, eD rfl rfl, eD rfl rfl, trivial⟩ trivial rfl rfl rfl rfl (fun _ _ => rfl)
  refine thenQ_n ?_
  refine Wcond rfl rfl (fun hc0 => ?_) (fun hc0 => ?_)
  · have hn : ¬ (1 ≤ n ∧ n ≤ 8) := fun h => by simp at hc0; omega
    have hce : ciE n m = 6 := by rw [ciE, if_pos hn]
    rw [ciR, hce, if_neg (by decide)]
    refine W_seq rfl ?_
    refine W_reg rfl ?_
    refine Rv rfl rfl rfl (U_assign rfl) rfl rfl ?_
    refine Rv rfl rfl rfl (U_assign rfl) rfl rfl ?_
    refine Re rfl ?_
    refine thenQ_n ?_
    refine W_ret rfl ?_
    refine thenQ_r ?_
    exact retL (rlT rfl (rlT rfl rl0)) (by first | rfl | (simp only [packA]; rfl; first | done | rfl)) rfl
  · have hc0' := Bool.eq_false_iff.1 hc0
    have hn : 1 ≤ n ∧ n ≤ 8 := by simp at hc0; omega
    refine W_skip rfl ?_
    refine thenQ_n ?_
    refine W_seq rfl ?_
    refine W_seq rfl ?_
    refine W_reg rfl ?_
    refine Rv rfl rfl rfl (U_move rfl) rfl rfl ?_
    refine Rv rfl rfl rfl (U_call rfl rfl (isMo_p m) rfl) rfl rfl ?_
    refine Rv rfl rfl rfl (U_not rfl) rfl rfl ?_
    refine Re rfl ?_
    refine thenQ_n ?_
    refine Wcond rfl rfl (fun hc1 => ?_) (fun hc1 => ?_)
    · have hce : ciE n m = 2 := by rw [ciE, if_neg (not_not_intro hn), if_neg (by simpa using hc1)]
      rw [ciR, hce, if_neg (by decide)]
      refine W_seq rfl ?_
      refine W_reg rfl ?_
      refine Rv rfl rfl rfl (U_assign rfl) rfl rfl ?_
      refine Rv rfl rfl rfl (U_assign rfl) rfl rfl ?_
      refine Re rfl ?_
      refine thenQ_n ?_
      refine W_ret rfl ?_
      refine thenQ_r ?_
      exact retL (rlT rfl (rlT rfl rl0)) (by first | rfl | (simp only [packA]; rfl; first | done | rfl)) rfl
    · have hc1' := Bool.eq_false_iff.1 hc1
      have hmo : isMo m = true := by simpa using hc1
      have hce : ciE n m = 0 := by rw [ciE, if_neg (not_not_intro hn), if_pos hmo]
      have hm := isMo_iff.1 hmo
      rw [ciR, hce, if_pos rfl]
      refine W_skip rfl ?_
      refine thenQ_n ?_
      refine W_seq rfl ?_
      refine W_reg rfl ?_
      refine Rv rfl rfl rfl (U_move rfl) rfl rfl ?_
      refine Rv rfl rfl rfl (U_move rfl) rfl rfl ?_
      refine Rv rfl rfl rfl (U_call rfl rfl (circlesIR_p n m (by first | assumption | omega) (by first | assumption | omega)) rfl) rfl rfl ?_
      refine Rv rfl rfl rfl (U_assign rfl) rfl rfl ?_
      refine Rv rfl rfl rfl (U_assign rfl) rfl rfl ?_
      refine Re rfl ?_
      refine thenQ_n ?_
      refine W_ret rfl ?_
      exact retL (rlT rfl (rlT rfl rl0)) (by first | rfl | (simp only [packA]; rfl; first | done | rfl)) rfl
/-- How many plates are different. -/
def sumI (N : Nat) (a : Int) : List Int → Int
  | [] => 0
  | m :: l => a ^ cirQ N m + sumI N a l
theorem sumI_snoc {N : Nat} {a m : Int} : ∀ {l : List Int}, sumI N a (l ++ [m]) = sumI N a l + a ^ cirQ N m
  | [] => by simp [sumI]
  | x :: l => by rw [List.cons_append, sumI, sumI_snoc (l := l), sumI]; omega
theorem sumI_take {N : Nat} {a : Int} {l : List Int} {k : Nat} (h : k < l.length) : sumI N a (l.take (k + 1)) = sumI N a (l.take k) + a ^ cirQ N l[k] := by
  rw [List.take_succ_eq_append_getElem h, sumI_snoc]
theorem pow_bd {a : Int} (h : 1 ≤ a ∧ a ≤ 4) {j : Nat} (hj : j ≤ 25) : 1 ≤ a ^ j ∧ a ^ j ≤ 1125899906842624 := by
  obtain ⟨b, rfl⟩ : ∃ b : Nat, a = b := ⟨a.toNat, by omega⟩
  rw [← Int.natCast_pow]
  have h1 : b ^ j ≤ 4 ^ j := Nat.pow_le_pow_left (by omega) j
  have h2 : (4 : Nat) ^ j ≤ 4 ^ 25 := Nat.pow_le_pow_right (by decide) hj
  have h3 : 0 < b ^ j := Nat.pow_pos (by omega)
  have h4 : (4 : Nat) ^ 25 = 1125899906842624 := by decide
  omega
def cntE (n a : Int) (ks : List Int) : Int := if ¬ ((1 ≤ n ∧ n ≤ 8) ∧ 1 ≤ a ∧ a ≤ 4) then 6 else if chkK ks ≠ 0 then chkK ks else if 5 < n then 4 else 0
noncomputable def cntR (n a : Int) (ks : List Int) : Int := if cntE n a ks = 0 then sumI n.toNat a (reachedQ ks) / ((reachedQ ks).length : Nat) else 0
theorem inL14 {n : Int} : inL 1 4 [n] = true ↔ 1 ≤ n ∧ n ≤ 4 := by rw [inL1]; simp
theorem sq25 {n : Int} (h : 1 ≤ n ∧ n ≤ 5) : n.toNat * n.toNat ≤ 25 := Nat.mul_le_mul (by omega : n.toNat ≤ 5) (by omega : n.toNat ≤ 5)
theorem sum_len {ks : List Int} {k : Nat} (h : (reachedQ ks).length ≤ k) {N : Nat} {a : Int} : sumI N a ((reachedQ ks).take k) = sumI N a (reachedQ ks) := by rw [List.take_of_length_le h]
theorem count_p (n a : Int) (ks : List Int) (e : Option Nat) (hk : ks.length ≤ 1000000) : Pure Try.prog 47 [i64 n, i64 a, intsA ks e] (.tup [i64 (cntR n a ks), i64 (cntE n a ks)]) := by
  refine pure_of_body Try.func47 (c := body Try.f47) rfl (by simp [Try.ntmps47]) fun w0 Φ0 => ?_
  refine W_seq rfl ?_
  refine W_reg rfl ?_
  refine Rv rfl rfl rfl (U_assign rfl) rfl rfl ?_
  refine Rv rfl rfl rfl (U_assign rfl) rfl rfl ?_
  refine Re rfl ?_
  refine thenQ_n ?_
  refine W_seq rfl ?_
  refine W_reg rfl ?_
  refine Rv rfl rfl rfl (U_move rfl) rfl rfl ?_
  refine Rv rfl rfl rfl (U_call rfl rfl (chkK_p ks e (by first | assumption | omega)) rfl) rfl rfl ?_
  refine Rv rfl rfl rfl (U_assign rfl) rfl rfl ?_
  refine Re rfl ?_
  refine thenQ_n ?_
  refine W_seq rfl ?_
  refine W_block rfl ?_
  refine W_seq rfl ?_
  refine Wjoin ⟨[(0, i64 n), (1, i64 a), (2, .ros (ks.map i64) ks.length e), (8, i64 (chkK ks)), (16, .bool ((!(inL 1 8 [n])) || (!(inL 1 4 [a]))))], [], 0, []⟩ ?_ ?_
  · refine W_reg rfl ?_
    refine Rv rfl rfl rfl (U_move rfl) rfl rfl ?_
    refine Rv rfl rfl rfl (U_buildSliceF (by rfl) (by decide) rfl rfl rfl) rfl rfl ?_
    refine Rv rfl rfl rfl (U_call rfl rfl (within_p 1 8 [n] (some 1) (by first | assumption | omega | (simp; done) | (simp; omega))) rfl) rfl rfl ?_
    refine Rv rfl rfl rfl (U_not rfl) rfl rfl ?_
    refine Rv rfl rfl rfl (U_move rfl) rfl rfl ?_
    refine Rsplit (t := 21) rfl (fun hg1 => ?_) (fun hg1 => ?_)
    · rw [hg1]
      refine Rs rfl rfl rfl rfl rfl ?_
      refine Rs rfl rfl rfl rfl rfl ?_
      refine Rs rfl rfl rfl rfl rfl ?_
      refine Rs rfl rfl rfl rfl rfl ?_
      refine Rv rfl rfl rfl (U_pick_t rfl rfl) rfl rfl ?_
      refine Rv rfl rfl rfl (U_assign rfl) rfl rfl ?_
      refine Re rfl ?_
      exact joinTo id ⟨eD rfl rfl, eD rfl rfl, eD rfl rfl, eD rfl rfl, eD rfl rfl, trivial⟩ trivial rfl rfl rfl rfl (fun _ _ => rfl)
    · rw [hg1]
      refine Rv rfl rfl rfl (U_move rfl) rfl rfl ?_
      refine Rv rfl rfl rfl (U_buildSliceF (by rfl) (by decide) rfl rfl rfl) rfl rfl ?_
      refine Rv rfl rfl rfl (U_call rfl rfl (within_p 1 4 [a] (some 1) (by first | assumption | omega | (simp; done) | (simp; omega))) rfl) rfl rfl ?_
      refine Rv rfl rfl rfl (U_not rfl) rfl rfl ?_
      refine Rv rfl rfl rfl (U_pick_f rfl rfl) rfl rfl ?_
      refine Rv rfl rfl rfl (U_assign rfl) rfl rfl ?_
      refine Re rfl ?_
      exact joinTo id ⟨eD rfl rfl, eD rfl rfl, eD rfl rfl, eD rfl rfl, eD rfl rfl, trivial⟩ trivial rfl rfl rfl rfl (fun _ _ => rfl)
  refine thenQ_n ?_
  refine Wcond rfl rfl (fun hc0 => ?_) (fun hc0 => ?_)
  · have hn : ¬ ((1 ≤ n ∧ n ≤ 8) ∧ 1 ≤ a ∧ a ≤ 4) := fun h => by have h1 := inL18.2 h.1; have h2 := inL14.2 h.2; simp [h1, h2] at hc0
    have hce : cntE n a ks = 6 := by rw [cntE, if_pos hn]
    rw [cntR, hce, if_neg (by decide)]
    refine W_seq rfl ?_
    refine W_reg rfl ?_
    refine Rv rfl rfl rfl (U_assign rfl) rfl rfl ?_
    refine Rv rfl rfl rfl (U_assign rfl) rfl rfl ?_
    refine Re rfl ?_
    refine thenQ_n ?_
    refine W_ret rfl ?_
    refine blkQ_r ?_
    refine thenQ_r ?_
    exact retL (rlT rfl (rlT rfl rl0)) (by first | rfl | (simp only [packA]; rfl; first | done | rfl)) rfl
  · have hc0' := Bool.eq_false_iff.1 hc0
    have hna : (1 ≤ n ∧ n ≤ 8) ∧ 1 ≤ a ∧ a ≤ 4 := by simp at hc0; exact ⟨inL18.1 hc0.1, inL14.1 hc0.2⟩
    obtain ⟨hn, ha⟩ := hna
    refine W_seq rfl ?_
    refine W_reg rfl ?_
    refine Rv rfl rfl rfl (U_move rfl) rfl rfl ?_
    refine Rv rfl rfl rfl (U_neq rfl rfl) rfl rfl ?_
    refine Rv rfl rfl rfl (U_assign rfl) rfl rfl ?_
    refine Re rfl ?_
    refine thenQ_n ?_
    refine WcondP rfl rfl (fun hc1 => ?_) (fun hc1 => ?_)
    · have hce : cntE n a ks = chkK ks := by rw [cntE, if_neg (not_not_intro ⟨hn, ha⟩), if_pos hc1]
      rw [cntR, hce, if_neg hc1]
      refine W_seq rfl ?_
      refine W_reg rfl ?_
      refine Rv rfl rfl rfl (U_move rfl) rfl rfl ?_
      refine Rv rfl rfl rfl (U_assign rfl) rfl rfl ?_
      refine Rv rfl rfl rfl (U_assign rfl) rfl rfl ?_
      refine Re rfl ?_
      refine thenQ_n ?_
      refine W_ret rfl ?_
      refine blkQ_r ?_
      refine thenQ_r ?_
      exact retL (rlT rfl (rlT rfl rl0)) (by first | rfl | (simp only [packA]; rfl; first | done | rfl)) rfl
    · rw [Decidable.not_not] at hc1
      have hck0 : chkK ks = 0 := by simpa using hc1
      refine W_seq rfl ?_
      refine W_reg rfl ?_
      refine Rv rfl rfl rfl (U_move rfl) rfl rfl ?_
      refine Rv rfl rfl rfl (U_gtr rfl rfl) rfl rfl ?_
      refine Rv rfl rfl rfl (U_assign rfl) rfl rfl ?_
      refine Re rfl ?_
      refine thenQ_n ?_
      refine WcondP rfl rfl (fun hc2 => ?_) (fun hc2 => ?_)
      · have hce : cntE n a ks = 4 := by rw [cntE, if_neg (not_not_intro ⟨hn, ha⟩), if_neg (not_not_intro hck0), if_pos (by omega)]
        rw [cntR, hce, if_neg (by decide)]
        refine W_seq rfl ?_
        refine W_reg rfl ?_
        refine Rv rfl rfl rfl (U_assign rfl) rfl rfl ?_
        refine Rv rfl rfl rfl (U_assign rfl) rfl rfl ?_
        refine Re rfl ?_
        refine thenQ_n ?_
        refine W_ret rfl ?_
        refine blkQ_r ?_
        refine thenQ_r ?_
        exact retL (rlT rfl (rlT rfl rl0)) (by first | rfl | (simp only [packA]; rfl; first | done | rfl)) rfl
      · have hce : cntE n a ks = 0 := by rw [cntE, if_neg (not_not_intro ⟨hn, ha⟩), if_neg (not_not_intro hck0), if_neg (by omega)]
        obtain ⟨hr0, hr8⟩ := reached_len (ks := ks)
        have hok := chkK_ok hck0
        refine W_skip rfl ?_
        refine blkQ_n ?_
        refine thenQ_n ?_
        refine W_seq rfl ?_
        refine W_reg rfl ?_
        refine Rv rfl rfl rfl (U_move rfl) rfl rfl ?_
        refine Rv rfl rfl rfl (U_call rfl rfl (reached_p ks e (by first | assumption | omega) hok) rfl) rfl rfl ?_
        refine Rv rfl rfl rfl (U_assign rfl) rfl rfl ?_
        refine Re rfl ?_
        refine thenQ_n ?_
        refine W_seq rfl ?_
        refine W_reg rfl ?_
        refine Rv rfl rfl rfl (U_assign rfl) rfl rfl ?_
        refine Re rfl ?_
        refine thenQ_n ?_
        refine W_seq rfl ?_
        refine W_seq rfl ?_
        refine W_reg rfl ?_
        refine Rv rfl rfl rfl (U_move rfl) rfl rfl ?_
        refine Rv rfl rfl rfl (U_lenOf rfl len_ros) rfl rfl ?_
        refine Rv rfl rfl rfl (U_move rfl) rfl rfl ?_
        refine Re rfl ?_
        refine thenQ_n ?_
        refine W_block rfl ?_
        refine LoopTo (T' := [(0, i64 n), (1, i64 a), (9, .ros ((reachedQ ks).map i64) ((reachedQ ks).length) none), (10, i64 0), (36, .ros ((reachedQ ks).map i64) ((reachedQ ks).length) none), (37, i64 (((reachedQ ks).length : Nat) : Int)), (38, i64 ((0 : Nat) : Int))]) (H' := []) (n := 0) rfl (fun mz_ qz_ => ∃ (k : Nat) (s : Int), k ≤ (reachedQ ks).length ∧ s = sumI n.toNat a ((reachedQ ks).take k) ∧ (0 ≤ s ∧ s ≤ k * 1125899906842624) ∧ mz_ = (reachedQ ks).length - k ∧ qz_ = ⟨[(0, i64 n), (1, i64 a), (9, .ros ((reachedQ ks).map i64) ((reachedQ ks).length) none), (10, i64 s), (36, .ros ((reachedQ ks).map i64) ((reachedQ ks).length) none), (37, i64 (((reachedQ ks).length : Nat) : Int)), (38, i64 ((k : Nat) : Int))], [], 0, []⟩) ⟨0, 0, (by omega), rfl, (by omega), rfl, rfl⟩ id ⟨eD rfl rfl, eD rfl rfl, eD rfl rfl, eD rfl rfl, eD rfl rfl, eD rfl rfl, eD rfl rfl, trivial⟩ trivial rfl rfl rfl rfl (fun _ _ => rfl) ?_
        rintro _ _ ⟨k, s, hi0_0, hi0_1, hi0_2, rfl, rfl⟩
        refine W_seq rfl ?_
        refine W_reg rfl ?_
        refine Rv rfl rfl rfl (U_lss rfl rfl) rfl rfl ?_
        refine Re rfl ?_
        refine thenQ_n ?_
        refine W_seq rfl ?_
        refine WcondP rfl rfl (fun hc3 => ?_) (fun hc3 => ?_)
        · have hck : k < (reachedQ ks).length := by omega
          have hkk := reached_in (List.getElem_mem hck)
          have hcb : cirQ n.toNat (reachedQ ks)[k] ≤ 25 := Nat.le_trans cirQ_le (sq25 ⟨by omega, by omega⟩)
          refine W_skip rfl ?_
          refine thenQ_n ?_
          refine W_seq rfl ?_
          refine W_block rfl ?_
          refine W_seq rfl ?_
          refine W_reg rfl ?_
          have hx2 : k < (reachedQ ks).length := by omega
          refine Rv rfl rfl rfl (U_indexR (j := k) rfl rfl rfl hx2) rfl rfl ?_
          refine Rv rfl rfl rfl (U_load1 rfl rfl (getM hx2)) rfl rfl ?_
          refine Rv rfl rfl rfl (U_assign rfl) rfl rfl ?_
          refine Re rfl ?_
          refine thenQ_n ?_
          refine W_seq rfl ?_
          refine W_reg rfl ?_
          refine Rv rfl rfl rfl (U_assign rfl) rfl rfl ?_
          refine Re rfl ?_
          refine thenQ_n ?_
          refine W_seq rfl ?_
          refine W_seq rfl ?_
          refine W_reg rfl ?_
          refine Rv rfl rfl rfl (U_move rfl) rfl rfl ?_
          refine Rv rfl rfl rfl (U_move rfl) rfl rfl ?_
          refine Rv rfl rfl rfl (U_call rfl rfl (circlesI_p n ((reachedQ ks)[k]) (by first | assumption | omega) (by first | assumption | omega)) rfl) rfl rfl ?_
          refine Rv rfl rfl rfl (U_move rfl) rfl rfl ?_
          refine Re rfl ?_
          refine thenQ_n ?_
          refine W_block rfl ?_
          refine LoopTo (T' := [(0, i64 n), (1, i64 a), (9, .ros ((reachedQ ks).map i64) ((reachedQ ks).length) none), (10, i64 s), (13, i64 1), (36, .ros ((reachedQ ks).map i64) ((reachedQ ks).length) none), (37, i64 (((reachedQ ks).length : Nat) : Int)), (38, i64 ((k : Nat) : Int)), (44, i64 ((cirQ n.toNat ((reachedQ ks)[k]) : Nat) : Int)), (45, i64 ((0 : Nat) : Int))]) (H' := []) (n := 0) rfl (fun mz_ qz_ => ∃ (i : Nat) (p : Int), i ≤ cirQ n.toNat (reachedQ ks)[k] ∧ p = a ^ i ∧ mz_ = cirQ n.toNat (reachedQ ks)[k] - i ∧ qz_ = ⟨[(0, i64 n), (1, i64 a), (9, .ros ((reachedQ ks).map i64) ((reachedQ ks).length) none), (10, i64 s), (13, i64 p), (36, .ros ((reachedQ ks).map i64) ((reachedQ ks).length) none), (37, i64 (((reachedQ ks).length : Nat) : Int)), (38, i64 ((k : Nat) : Int)), (44, i64 ((cirQ n.toNat ((reachedQ ks)[k]) : Nat) : Int)), (45, i64 ((i : Nat) : Int))], [], 0, []⟩) ⟨0, 1, (by omega), (by first | rfl | simp), rfl, rfl⟩ id ⟨eD rfl rfl, eD rfl rfl, eD rfl rfl, eD rfl rfl, eD rfl rfl, eD rfl rfl, eD rfl rfl, eD rfl rfl, eD rfl rfl, eD rfl rfl, trivial⟩ trivial rfl rfl rfl rfl (fun _ _ => rfl) ?_
          rintro _ _ ⟨i, p, hi1_0, hi1_1, rfl, rfl⟩
          refine W_seq rfl ?_
          refine W_reg rfl ?_
          refine Rv rfl rfl rfl (U_lss rfl rfl) rfl rfl ?_
          refine Re rfl ?_
          refine thenQ_n ?_
          refine W_seq rfl ?_
          refine WcondP rfl rfl (fun hc4 => ?_) (fun hc4 => ?_)
          · have hpb := pow_bd ha (j := i) (by omega)
            have hpb2 := pow_bd ha (j := i + 1) (by omega)
            rw [Int.pow_succ] at hpb2
            rw [← hi1_1] at hpb hpb2
            refine W_skip rfl ?_
            refine thenQ_n ?_
            refine W_seq rfl ?_
            refine W_block rfl ?_
            refine W_reg rfl ?_
            refine Rv rfl rfl rfl (U_move rfl) rfl rfl ?_
            refine Rv rfl rfl rfl (U_move rfl) rfl rfl ?_
            refine Rv rfl rfl rfl (U_mul rfl rfl (w64 (by omega) (by omega))) rfl rfl ?_
            refine Rv rfl rfl rfl (U_assign rfl) rfl rfl ?_
            refine Re rfl ?_
            refine blkQ_n ?_
            refine thenQ_n ?_
            refine W_reg rfl ?_
            refine Rv rfl rfl rfl (U_add rfl rfl (w64e (m := ((i + 1 : Nat) : Int)) (by omega) (by omega) (by omega))) rfl rfl ?_
            refine Rv rfl rfl rfl (U_move rfl) rfl rfl ?_
            refine Re rfl ?_
            refine thenQ_n ?_
            exact againTo (T' := [(0, i64 n), (1, i64 a), (9, .ros ((reachedQ ks).map i64) ((reachedQ ks).length) none), (10, i64 s), (13, i64 (p * a)), (36, .ros ((reachedQ ks).map i64) ((reachedQ ks).length) none), (37, i64 (((reachedQ ks).length : Nat) : Int)), (38, i64 ((k : Nat) : Int)), (44, i64 ((cirQ n.toNat ((reachedQ ks)[k]) : Nat) : Int)), (45, i64 (((i + 1) : Nat) : Int))]) (H' := []) (n := 0) (cirQ n.toNat (reachedQ ks)[k] - (i + 1)) ⟨i + 1, p * a, (by omega), (by rw [Int.pow_succ, ← hi1_1]), rfl, rfl⟩ (by omega) id ⟨eD rfl rfl, eD rfl rfl, eD rfl rfl, eD rfl rfl, eD rfl rfl, eD rfl rfl, eD rfl rfl, eD rfl rfl, eD rfl rfl, eD rfl rfl, trivial⟩ trivial rfl rfl rfl rfl (fun _ _ => rfl)
          · have hpw : p = a ^ cirQ n.toNat (reachedQ ks)[k] := by rw [hi1_1]; congr 1; omega
            have hpb := pow_bd ha hcb
            rw [← hpw] at hpb
            refine W_exit rfl ?_
            refine thenQ_x ?_
            refine thenQ_x ?_
            refine blkQ_x rfl ?_
            refine thenQ_n ?_
            refine W_reg rfl ?_
            refine Rv rfl rfl rfl (U_move rfl) rfl rfl ?_
            refine Rv rfl rfl rfl (U_move rfl) rfl rfl ?_
            refine Rv rfl rfl rfl (U_add rfl rfl (w64 (by omega) (by omega))) rfl rfl ?_
            refine Rv rfl rfl rfl (U_assign rfl) rfl rfl ?_
            refine Re rfl ?_
            refine blkQ_n ?_
            refine thenQ_n ?_
            refine W_reg rfl ?_
            refine Rv rfl rfl rfl (U_add rfl rfl (w64e (m := ((k + 1 : Nat) : Int)) (by omega) (by omega) (by omega))) rfl rfl ?_
            refine Rv rfl rfl rfl (U_move rfl) rfl rfl ?_
            refine Re rfl ?_
            refine thenQ_n ?_
            exact againTo (T' := [(0, i64 n), (1, i64 a), (9, .ros ((reachedQ ks).map i64) ((reachedQ ks).length) none), (10, i64 (s + p)), (36, .ros ((reachedQ ks).map i64) ((reachedQ ks).length) none), (37, i64 (((reachedQ ks).length : Nat) : Int)), (38, i64 (((k + 1) : Nat) : Int))]) (H' := []) (n := 0) ((reachedQ ks).length - (k + 1)) ⟨k + 1, s + p, (by omega), (by rw [sumI_take hck, ← hi0_1, hpw]), (by have := pow_bd ha hcb; rw [← hpw] at this; omega), rfl, rfl⟩ (by omega) id ⟨eD rfl rfl, eD rfl rfl, eD rfl rfl, eD rfl rfl, eD rfl rfl, eD rfl rfl, eD rfl rfl, trivial⟩ trivial rfl rfl rfl rfl (fun _ _ => rfl)
        · have hsl : s = sumI n.toNat a (reachedQ ks) := by rw [hi0_1]; exact sum_len (by omega)
          rw [cntR, hce, if_pos rfl, ← hsl]
          refine W_exit rfl ?_
          refine thenQ_x ?_
          refine thenQ_x ?_
          refine blkQ_x rfl ?_
          refine thenQ_n ?_
          refine W_seq rfl ?_
          refine W_reg rfl ?_
          refine Rv rfl rfl rfl (U_move rfl) rfl rfl ?_
          refine Rv rfl rfl rfl (U_move rfl) rfl rfl ?_
          refine Rv rfl rfl rfl (U_lenOf rfl len_ros) rfl rfl ?_
          refine Rv rfl rfl rfl (U_quo (c := (s / (((reachedQ ks).length : Nat) : Int))) rfl rfl (by omega) (wquoP (by omega) (by omega) (by omega))) rfl rfl ?_
          refine Rv rfl rfl rfl (U_assign rfl) rfl rfl ?_
          refine Rv rfl rfl rfl (U_assign rfl) rfl rfl ?_
          refine Re rfl ?_
          refine thenQ_n ?_
          refine W_ret rfl ?_
          exact retL (rlT rfl (rlT rfl rl0)) (by first | rfl | (simp only [packA]; rfl; first | done | rfl)) rfl
theorem cntE_p (n a : Int) (ks : List Int) (e : Option Nat) (hk : ks.length ≤ 1000000) : Pure Try.prog 87 [i64 n, i64 a, intsA ks e] (i64 (cntE n a ks)) := by
  refine pure_of_body Try.func87 (c := body Try.f87) rfl (by simp [Try.ntmps87]) fun w0 Φ0 => ?_
  refine W_seq rfl ?_
  refine W_reg rfl ?_
  refine Rv rfl rfl rfl (U_assign rfl) rfl rfl ?_
  refine Re rfl ?_
  refine thenQ_n ?_
  refine W_seq rfl ?_
  refine W_seq rfl ?_
  refine Wjoin ⟨[(0, i64 n), (2, .ros (ks.map i64) ks.length e), (20, .bool ((decide (n < 1)) || ((decide (8 < n)) || ((decide (a < 1)) || (decide (4 < a))))))], [], 0, []⟩ ?_ ?_
  · refine W_reg rfl ?_
    refine Rv rfl rfl rfl (U_move rfl) rfl rfl ?_
    refine Rv rfl rfl rfl (U_lss rfl rfl) rfl rfl ?_
    refine Rv rfl rfl rfl (U_move rfl) rfl rfl ?_
    refine Rsplit (t := 9) rfl (fun hg1 => ?_) (fun hg1 => ?_)
    · rw [hg1]
      have hg1' : n < 1 := of_decide_eq_true hg1
      refine Rs rfl rfl rfl rfl rfl ?_
      refine Rs rfl rfl rfl rfl rfl ?_
      refine Rv rfl rfl rfl (U_pick_t rfl rfl) rfl rfl ?_
      refine Rv rfl rfl rfl (U_move rfl) rfl rfl ?_
      refine Rs rfl rfl rfl rfl rfl ?_
      refine Rs rfl rfl rfl rfl rfl ?_
      refine Rv rfl rfl rfl (U_pick_t rfl rfl) rfl rfl ?_
      refine Rv rfl rfl rfl (U_move rfl) rfl rfl ?_
      refine Rs rfl rfl rfl rfl rfl ?_
      refine Rs rfl rfl rfl rfl rfl ?_
      refine Rv rfl rfl rfl (U_pick_t rfl rfl) rfl rfl ?_
      refine Re rfl ?_
      exact joinTo id ⟨eD rfl rfl, eD rfl rfl, eD rfl rfl, trivial⟩ trivial rfl rfl rfl rfl (fun _ _ => rfl)
    · rw [hg1]
      have hg1' : ¬ (n < 1) := of_decide_eq_false hg1
      refine Rv rfl rfl rfl (U_move rfl) rfl rfl ?_
      refine Rv rfl rfl rfl (U_gtr rfl rfl) rfl rfl ?_
      refine Rv rfl rfl rfl (U_pick_f rfl rfl) rfl rfl ?_
      refine Rv rfl rfl rfl (U_move rfl) rfl rfl ?_
      refine Rsplit (t := 13) rfl (fun hg2 => ?_) (fun hg2 => ?_)
      · rw [hg2]
        have hg2' : 8 < n := of_decide_eq_true hg2
        refine Rs rfl rfl rfl rfl rfl ?_
        refine Rs rfl rfl rfl rfl rfl ?_
        refine Rv rfl rfl rfl (U_pick_t rfl rfl) rfl rfl ?_
        refine Rv rfl rfl rfl (U_move rfl) rfl rfl ?_
        refine Rs rfl rfl rfl rfl rfl ?_
        refine Rs rfl rfl rfl rfl rfl ?_
        refine Rv rfl rfl rfl (U_pick_t rfl rfl) rfl rfl ?_
        refine Re rfl ?_
        exact joinTo id ⟨eD rfl rfl, eD rfl rfl, eD rfl rfl, trivial⟩ trivial rfl rfl rfl rfl (fun _ _ => rfl)
      · rw [hg2]
        have hg2' : ¬ (8 < n) := of_decide_eq_false hg2
        refine Rv rfl rfl rfl (U_move rfl) rfl rfl ?_
        refine Rv rfl rfl rfl (U_lss rfl rfl) rfl rfl ?_
        refine Rv rfl rfl rfl (U_pick_f rfl rfl) rfl rfl ?_
        refine Rv rfl rfl rfl (U_move rfl) rfl rfl ?_
        refine Rsplit (t := 17) rfl (fun hg3 => ?_) (fun hg3 => ?_)
        · rw [hg3]
          have hg3' : a < 1 := of_decide_eq_true hg3
          refine Rs rfl rfl rfl rfl rfl ?_
          refine Rs rfl rfl rfl rfl rfl ?_
          refine Rv rfl rfl rfl (U_pick_t rfl rfl) rfl rfl ?_
          refine Re rfl ?_
          exact joinTo id ⟨eD rfl rfl, eD rfl rfl, eD rfl rfl, trivial⟩ trivial rfl rfl rfl rfl (fun _ _ => rfl)
        · rw [hg3]
          have hg3' : ¬ (a < 1) := of_decide_eq_false hg3
          refine Rv rfl rfl rfl (U_move rfl) rfl rfl ?_
          refine Rv rfl rfl rfl (U_gtr rfl rfl) rfl rfl ?_
          refine Rv rfl rfl rfl (U_pick_f rfl rfl) rfl rfl ?_
          refine Re rfl ?_
          exact joinTo id ⟨eD rfl rfl, eD rfl rfl, eD rfl rfl, trivial⟩ trivial rfl rfl rfl rfl (fun _ _ => rfl)
  refine thenQ_n ?_
  refine Wcond rfl rfl (fun hc0 => ?_) (fun hc0 => ?_)
  · refine W_seq rfl ?_
    refine W_reg rfl ?_
    refine Rv rfl rfl rfl (U_assign rfl) rfl rfl ?_
    refine Re rfl ?_
    refine thenQ_n ?_
    refine W_ret rfl ?_
    refine thenQ_r ?_
    exact retL (rlT rfl rl0) (by first | rfl | (simp only [packA]; rw [cntE, if_pos (fun h => by simp at hc0; omega)]; first | done | rfl) | (simp only [packA]; rw [cntE, if_neg (not_not_intro (by simp at hc0; omega)), if_pos hc1]; first | done | rfl) | (simp only [packA]; rw [cntE, if_neg (not_not_intro (by simp at hc0; omega)), if_neg (by simpa using hc1), if_pos (by omega)]; first | done | rfl) | (simp only [packA]; rw [cntE, if_neg (not_not_intro (by simp at hc0; omega)), if_neg (by simpa using hc1), if_neg (by omega)]; first | done | rfl)) rfl
  · have hc0' := Bool.eq_false_iff.1 hc0
    refine W_skip rfl ?_
    refine thenQ_n ?_
    refine W_seq rfl ?_
    refine W_seq rfl ?_
    refine W_reg rfl ?_
    refine Rv rfl rfl rfl (U_move rfl) rfl rfl ?_
    refine Rv rfl rfl rfl (U_call rfl rfl (chkKR_p ks e (by first | assumption | omega)) rfl) rfl rfl ?_
    refine Rv rfl rfl rfl (U_neq rfl rfl) rfl rfl ?_
    refine Re rfl ?_
    refine thenQ_n ?_
    refine WcondP rfl rfl (fun hc1 => ?_) (fun hc1 => ?_)
    · refine W_seq rfl ?_
      refine W_reg rfl ?_
      refine Rv rfl rfl rfl (U_move rfl) rfl rfl ?_
      refine Rv rfl rfl rfl (U_call rfl rfl (chkKR_p ks e (by first | assumption | omega)) rfl) rfl rfl ?_
      refine Rv rfl rfl rfl (U_assign rfl) rfl rfl ?_
      refine Re rfl ?_
      refine thenQ_n ?_
      refine W_ret rfl ?_
      refine thenQ_r ?_
      exact retL (rlT rfl rl0) (by first | rfl | (simp only [packA]; rw [cntE, if_pos (fun h => by simp at hc0; omega)]; first | done | rfl) | (simp only [packA]; rw [cntE, if_neg (not_not_intro (by simp at hc0; omega)), if_pos hc1]; first | done | rfl) | (simp only [packA]; rw [cntE, if_neg (not_not_intro (by simp at hc0; omega)), if_neg (by simpa using hc1), if_pos (by omega)]; first | done | rfl) | (simp only [packA]; rw [cntE, if_neg (not_not_intro (by simp at hc0; omega)), if_neg (by simpa using hc1), if_neg (by omega)]; first | done | rfl)) rfl
    · rw [Decidable.not_not] at hc1
      refine W_skip rfl ?_
      refine thenQ_n ?_
      refine W_seq rfl ?_
      refine W_seq rfl ?_
      refine W_reg rfl ?_
      refine Rv rfl rfl rfl (U_move rfl) rfl rfl ?_
      refine Rv rfl rfl rfl (U_gtr rfl rfl) rfl rfl ?_
      refine Re rfl ?_
      refine thenQ_n ?_
      refine WcondP rfl rfl (fun hc2 => ?_) (fun hc2 => ?_)
      · refine W_seq rfl ?_
        refine W_reg rfl ?_
        refine Rv rfl rfl rfl (U_assign rfl) rfl rfl ?_
        refine Re rfl ?_
        refine thenQ_n ?_
        refine W_ret rfl ?_
        refine thenQ_r ?_
        exact retL (rlT rfl rl0) (by first | rfl | (simp only [packA]; rw [cntE, if_pos (fun h => by simp at hc0; omega)]; first | done | rfl) | (simp only [packA]; rw [cntE, if_neg (not_not_intro (by simp at hc0; omega)), if_pos hc1]; first | done | rfl) | (simp only [packA]; rw [cntE, if_neg (not_not_intro (by simp at hc0; omega)), if_neg (by simpa using hc1), if_pos (by omega)]; first | done | rfl) | (simp only [packA]; rw [cntE, if_neg (not_not_intro (by simp at hc0; omega)), if_neg (by simpa using hc1), if_neg (by omega)]; first | done | rfl)) rfl
      · refine W_skip rfl ?_
        refine thenQ_n ?_
        refine W_seq rfl ?_
        refine W_reg rfl ?_
        refine Rv rfl rfl rfl (U_assign rfl) rfl rfl ?_
        refine Re rfl ?_
        refine thenQ_n ?_
        refine W_ret rfl ?_
        exact retL (rlT rfl rl0) (by first | rfl | (simp only [packA]; rw [cntE, if_pos (fun h => by simp at hc0; omega)]; first | done | rfl) | (simp only [packA]; rw [cntE, if_neg (not_not_intro (by simp at hc0; omega)), if_pos hc1]; first | done | rfl) | (simp only [packA]; rw [cntE, if_neg (not_not_intro (by simp at hc0; omega)), if_neg (by simpa using hc1), if_pos (by omega)]; first | done | rfl) | (simp only [packA]; rw [cntE, if_neg (not_not_intro (by simp at hc0; omega)), if_neg (by simpa using hc1), if_neg (by omega)]; first | done | rfl)) rfl
theorem cntE_0 {n a : Int} {ks : List Int} (h : cntE n a ks = 0) : (1 ≤ n ∧ n ≤ 5) ∧ (1 ≤ a ∧ a ≤ 4) ∧ chkK ks = 0 := by
  unfold cntE at h
  split at h
  · cases h
  · rename_i h1
    split at h
    · rename_i h2; exact absurd h h2
    · rename_i h2
      split at h
      · cases h
      · have := Decidable.not_not.1 h1; exact ⟨by omega, this.2, Decidable.not_not.1 h2⟩
theorem countR_p (n a : Int) (ks : List Int) (e : Option Nat) (hk : ks.length ≤ 1000000) : Pure Try.prog 48 [i64 n, i64 a, intsA ks e] (.tup [i64 (cntR n a ks), i64 (cntE n a ks)]) := by
  refine pure_of_body Try.func48 (c := body Try.f48) rfl (by simp [Try.ntmps48]) fun w0 Φ0 => ?_
  refine W_seq rfl ?_
  refine W_reg rfl ?_
  refine Rv rfl rfl rfl (U_assign rfl) rfl rfl ?_
  refine Rv rfl rfl rfl (U_assign rfl) rfl rfl ?_
  refine Re rfl ?_
  refine thenQ_n ?_
  refine W_seq rfl ?_
  refine W_seq rfl ?_
  refine W_reg rfl ?_
  refine Rv rfl rfl rfl (U_move rfl) rfl rfl ?_
  refine Rv rfl rfl rfl (U_move rfl) rfl rfl ?_
  refine Rv rfl rfl rfl (U_move rfl) rfl rfl ?_
  refine Rv rfl rfl rfl (U_call rfl rfl (cntE_p n a ks e (by first | assumption | omega)) rfl) rfl rfl ?_
  refine Rv rfl rfl rfl (U_neq rfl rfl) rfl rfl ?_
  refine Re rfl ?_
  refine thenQ_n ?_
  refine WcondP rfl rfl (fun hc0 => ?_) (fun hc0 => ?_)
  · rw [cntR, if_neg hc0]
    refine W_seq rfl ?_
    refine W_reg rfl ?_
    refine Rv rfl rfl rfl (U_move rfl) rfl rfl ?_
    refine Rv rfl rfl rfl (U_move rfl) rfl rfl ?_
    refine Rv rfl rfl rfl (U_move rfl) rfl rfl ?_
    refine Rv rfl rfl rfl (U_call rfl rfl (cntE_p n a ks e (by first | assumption | omega)) rfl) rfl rfl ?_
    refine Rv rfl rfl rfl (U_assign rfl) rfl rfl ?_
    refine Rv rfl rfl rfl (U_assign rfl) rfl rfl ?_
    refine Re rfl ?_
    refine thenQ_n ?_
    refine W_ret rfl ?_
    refine thenQ_r ?_
    exact retL (rlT rfl (rlT rfl rl0)) (by first | rfl | (simp only [packA]; rfl; first | done | rfl)) rfl
  · rw [Decidable.not_not] at hc0
    have hce := hc0
    obtain ⟨hn, ha, hck0⟩ := cntE_0 hce
    obtain ⟨hr0, hr8⟩ := reached_len (ks := ks)
    have hok := chkK_ok hck0
    refine W_skip rfl ?_
    refine thenQ_n ?_
    refine W_seq rfl ?_
    refine W_reg rfl ?_
    refine Rv rfl rfl rfl (U_move rfl) rfl rfl ?_
    refine Rv rfl rfl rfl (U_call rfl rfl (reachedR_p ks e (by first | assumption | omega) hok) rfl) rfl rfl ?_
    refine Rv rfl rfl rfl (U_assign rfl) rfl rfl ?_
    refine Re rfl ?_
    refine thenQ_n ?_
    refine W_seq rfl ?_
    refine W_reg rfl ?_
    refine Rv rfl rfl rfl (U_assign rfl) rfl rfl ?_
    refine Re rfl ?_
    refine thenQ_n ?_
    refine W_seq rfl ?_
    refine W_seq rfl ?_
    refine W_reg rfl ?_
    refine Rv rfl rfl rfl (U_assign rfl) rfl rfl ?_
    refine Re rfl ?_
    refine thenQ_n ?_
    refine W_block rfl ?_
    refine LoopTo (T' := [(0, i64 n), (1, i64 a), (8, .ros ((reachedQ ks).map i64) ((reachedQ ks).length) none), (9, i64 0), (10, i64 ((0 : Nat) : Int))]) (H' := []) (n := 0) rfl (fun mz_ qz_ => ∃ (k : Nat) (s : Int), k ≤ (reachedQ ks).length ∧ s = sumI n.toNat a ((reachedQ ks).take k) ∧ (0 ≤ s ∧ s ≤ k * 1125899906842624) ∧ mz_ = (reachedQ ks).length - k ∧ qz_ = ⟨[(0, i64 n), (1, i64 a), (8, .ros ((reachedQ ks).map i64) ((reachedQ ks).length) none), (9, i64 s), (10, i64 ((k : Nat) : Int))], [], 0, []⟩) ⟨0, 0, (by omega), rfl, (by omega), rfl, rfl⟩ id ⟨eD rfl rfl, eD rfl rfl, eD rfl rfl, eD rfl rfl, eD rfl rfl, trivial⟩ trivial rfl rfl rfl rfl (fun _ _ => rfl) ?_
    rintro _ _ ⟨k, s, hi0_0, hi0_1, hi0_2, rfl, rfl⟩
    refine W_seq rfl ?_
    refine W_seq rfl ?_
    refine W_reg rfl ?_
    refine Rv rfl rfl rfl (U_move rfl) rfl rfl ?_
    refine Rv rfl rfl rfl (U_move rfl) rfl rfl ?_
    refine Rv rfl rfl rfl (U_lenOf rfl len_ros) rfl rfl ?_
    refine Rv rfl rfl rfl (U_lss rfl rfl) rfl rfl ?_
    refine Re rfl ?_
    refine thenQ_n ?_
    refine WcondP rfl rfl (fun hc1 => ?_) (fun hc1 => ?_)
    · have hck : k < (reachedQ ks).length := by omega
      have hkk := reached_in (List.getElem_mem hck)
      have hcb : cirQ n.toNat (reachedQ ks)[k] ≤ 25 := Nat.le_trans cirQ_le (sq25 ⟨by omega, by omega⟩)
      refine W_skip rfl ?_
      refine thenQ_n ?_
      refine W_seq rfl ?_
      refine W_block rfl ?_
      refine W_seq rfl ?_
      refine W_reg rfl ?_
      refine Rv rfl rfl rfl (U_assign rfl) rfl rfl ?_
      refine Re rfl ?_
      refine thenQ_n ?_
      refine W_seq rfl ?_
      refine W_seq rfl ?_
      refine W_reg rfl ?_
      refine Rv rfl rfl rfl (U_assign rfl) rfl rfl ?_
      refine Re rfl ?_
      refine thenQ_n ?_
      refine W_block rfl ?_
      refine LoopTo (T' := [(0, i64 n), (1, i64 a), (8, .ros ((reachedQ ks).map i64) ((reachedQ ks).length) none), (9, i64 s), (10, i64 ((k : Nat) : Int)), (11, i64 1), (12, i64 ((0 : Nat) : Int))]) (H' := []) (n := 0) rfl (fun mz_ qz_ => ∃ (j : Nat) (p : Int), j ≤ cirQ n.toNat (reachedQ ks)[k] ∧ p = a ^ j ∧ mz_ = cirQ n.toNat (reachedQ ks)[k] - j ∧ qz_ = ⟨[(0, i64 n), (1, i64 a), (8, .ros ((reachedQ ks).map i64) ((reachedQ ks).length) none), (9, i64 s), (10, i64 ((k : Nat) : Int)), (11, i64 p), (12, i64 ((j : Nat) : Int))], [], 0, []⟩) ⟨0, 1, (by omega), (by first | rfl | simp), rfl, rfl⟩ id ⟨eD rfl rfl, eD rfl rfl, eD rfl rfl, eD rfl rfl, eD rfl rfl, eD rfl rfl, eD rfl rfl, trivial⟩ trivial rfl rfl rfl rfl (fun _ _ => rfl) ?_
      rintro _ _ ⟨j, p, hi1_0, hi1_1, rfl, rfl⟩
      refine W_seq rfl ?_
      refine W_seq rfl ?_
      refine W_reg rfl ?_
      refine Rv rfl rfl rfl (U_move rfl) rfl rfl ?_
      refine Rv rfl rfl rfl (U_move rfl) rfl rfl ?_
      refine Rv rfl rfl rfl (U_move rfl) rfl rfl ?_
      refine Rv rfl rfl rfl (U_move rfl) rfl rfl ?_
      have hx1 : k < (reachedQ ks).length := by omega
      refine Rv rfl rfl rfl (U_indexR (j := k) rfl rfl rfl hx1) rfl rfl ?_
      refine Rv rfl rfl rfl (U_load1 rfl rfl (getM hx1)) rfl rfl ?_
      refine Rv rfl rfl rfl (U_call rfl rfl (circlesIR_p n ((reachedQ ks)[k]) (by first | assumption | omega) (by first | assumption | omega)) rfl) rfl rfl ?_
      refine Rv rfl rfl rfl (U_lss rfl rfl) rfl rfl ?_
      refine Re rfl ?_
      refine thenQ_n ?_
      refine WcondP rfl rfl (fun hc2 => ?_) (fun hc2 => ?_)
      · have hpb := pow_bd ha (j := j) (by omega)
        have hpb2 := pow_bd ha (j := j + 1) (by omega)
        rw [Int.pow_succ] at hpb2
        rw [← hi1_1] at hpb hpb2
        refine W_skip rfl ?_
        refine thenQ_n ?_
        refine W_seq rfl ?_
        refine W_block rfl ?_
        refine W_reg rfl ?_
        refine Rv rfl rfl rfl (U_move rfl) rfl rfl ?_
        refine Rv rfl rfl rfl (U_move rfl) rfl rfl ?_
        refine Rv rfl rfl rfl (U_mul rfl rfl (w64 (by omega) (by omega))) rfl rfl ?_
        refine Rv rfl rfl rfl (U_assign rfl) rfl rfl ?_
        refine Re rfl ?_
        refine blkQ_n ?_
        refine thenQ_n ?_
        refine W_reg rfl ?_
        refine Rv rfl rfl rfl (U_move rfl) rfl rfl ?_
        refine Rv rfl rfl rfl (U_add rfl rfl (w64e (m := ((j + 1 : Nat) : Int)) (by omega) (by omega) (by omega))) rfl rfl ?_
        refine Rv rfl rfl rfl (U_assign rfl) rfl rfl ?_
        refine Re rfl ?_
        refine thenQ_n ?_
        exact againTo (T' := [(0, i64 n), (1, i64 a), (8, .ros ((reachedQ ks).map i64) ((reachedQ ks).length) none), (9, i64 s), (10, i64 ((k : Nat) : Int)), (11, i64 (p * a)), (12, i64 (((j + 1) : Nat) : Int))]) (H' := []) (n := 0) (cirQ n.toNat (reachedQ ks)[k] - (j + 1)) ⟨j + 1, p * a, (by omega), (by rw [Int.pow_succ, ← hi1_1]), rfl, rfl⟩ (by omega) id ⟨eD rfl rfl, eD rfl rfl, eD rfl rfl, eD rfl rfl, eD rfl rfl, eD rfl rfl, eD rfl rfl, trivial⟩ trivial rfl rfl rfl rfl (fun _ _ => rfl)
      · have hpw : p = a ^ cirQ n.toNat (reachedQ ks)[k] := by rw [hi1_1]; congr 1; omega
        have hpb := pow_bd ha hcb
        rw [← hpw] at hpb
        refine W_exit rfl ?_
        refine thenQ_x ?_
        refine thenQ_x ?_
        refine blkQ_x rfl ?_
        refine thenQ_n ?_
        refine W_reg rfl ?_
        refine Rv rfl rfl rfl (U_move rfl) rfl rfl ?_
        refine Rv rfl rfl rfl (U_move rfl) rfl rfl ?_
        refine Rv rfl rfl rfl (U_add rfl rfl (w64 (by omega) (by omega))) rfl rfl ?_
        refine Rv rfl rfl rfl (U_assign rfl) rfl rfl ?_
        refine Re rfl ?_
        refine blkQ_n ?_
        refine thenQ_n ?_
        refine W_reg rfl ?_
        refine Rv rfl rfl rfl (U_move rfl) rfl rfl ?_
        refine Rv rfl rfl rfl (U_add rfl rfl (w64e (m := ((k + 1 : Nat) : Int)) (by omega) (by omega) (by omega))) rfl rfl ?_
        refine Rv rfl rfl rfl (U_assign rfl) rfl rfl ?_
        refine Re rfl ?_
        refine thenQ_n ?_
        exact againTo (T' := [(0, i64 n), (1, i64 a), (8, .ros ((reachedQ ks).map i64) ((reachedQ ks).length) none), (9, i64 (s + p)), (10, i64 (((k + 1) : Nat) : Int))]) (H' := []) (n := 0) ((reachedQ ks).length - (k + 1)) ⟨k + 1, s + p, (by omega), (by rw [sumI_take hck, ← hi0_1, hpw]), (by have := pow_bd ha hcb; rw [← hpw] at this; omega), rfl, rfl⟩ (by omega) id ⟨eD rfl rfl, eD rfl rfl, eD rfl rfl, eD rfl rfl, eD rfl rfl, trivial⟩ trivial rfl rfl rfl rfl (fun _ _ => rfl)
    · have hsl : s = sumI n.toNat a (reachedQ ks) := by rw [hi0_1]; exact sum_len (by omega)
      rw [cntR, hce, if_pos rfl, ← hsl]
      refine W_exit rfl ?_
      refine thenQ_x ?_
      refine thenQ_x ?_
      refine blkQ_x rfl ?_
      refine thenQ_n ?_
      refine W_seq rfl ?_
      refine W_reg rfl ?_
      refine Rv rfl rfl rfl (U_move rfl) rfl rfl ?_
      refine Rv rfl rfl rfl (U_move rfl) rfl rfl ?_
      refine Rv rfl rfl rfl (U_lenOf rfl len_ros) rfl rfl ?_
      refine Rv rfl rfl rfl (U_quo (c := (s / (((reachedQ ks).length : Nat) : Int))) rfl rfl (by omega) (wquoP (by omega) (by omega) (by omega))) rfl rfl ?_
      refine Rv rfl rfl rfl (U_assign rfl) rfl rfl ?_
      refine Rv rfl rfl rfl (U_assign rfl) rfl rfl ?_
      refine Re rfl ?_
      refine thenQ_n ?_
      refine W_ret rfl ?_
      exact retL (rlT rfl (rlT rfl rl0)) (by first | rfl | (simp only [packA]; rfl; first | done | rfl)) rfl
end Go.Proofs.Ythoodfiacfmhgaa
end

section
/- Contracts of package plate: what the statements use. -/
namespace Go.Proofs.Ythoodfiacfmhgaa
set_option maxRecDepth 20000
open Go.AE
abbrev b8 (n : Nat) : AV := .int .u8 n
/-- Whether two plates are the same. -/
def samP (p q : Pl) : Bool := decide (p.n = q.n) && decide (p.ds = q.ds)
theorem samP_self (p : Pl) : samP p p = true := by simp [samP]
/-- The kinds that a byte names. -/
def kdB (b i : Nat) : Bool := decide (b >>> i &&& 1 = 1)
noncomputable def kdsQ (b : Nat) : List Int := filt (kdB b) 8
noncomputable def reaB (ks : List Int) : Bool := decide (chkK ks = 0) && (decide (0 < (((reaR ks).length : Nat) : Int)) && decide (chkK (reaR ks) = 0))
/-- A plan, by numbers. -/
def plnN (ks : List Int) (bs : List Nat) : List Int := if h : 0 < ks.length then bs.map fun b => ks[b % ks.length]'(Nat.mod_lt _ h) else []
abbrev bytesA (l : List Nat) (c : Option Nat) : AV := .ros (l.map b8) l.length c
theorem plnN_len {ks : List Int} {bs : List Nat} : (plnN ks bs).length ≤ bs.length := by unfold plnN; split <;> simp
/-- Whether a list comes behind another one. -/
def bhd (a b : List Int) : Bool := if a.length ≠ b.length then true else decide (0 < cmpL a b)
theorem cmpL_gt {a b : List Int} {k : Nat} (h1 : k < a.length) (h2 : k < b.length) (h : a[k] ≠ b[k]) : decide (0 < cmpL (a.drop k) (b.drop k)) = decide (b[k] < a[k]) := by
  rw [cmpL_lt h1 h2 (by unfold cmpI; split; decide; split; decide; omega)]
  unfold cmpI
  congr 1
  rw [eq_iff_iff]
  split
  · constructor <;> intro h3 <;> omega
  · split <;> constructor <;> intro h3 <;> omega
def grt (p : Pl) : Bool := decide (80 < p.ds.length)
theorem reaR_len {ks : List Int} : (reaR ks).length ≤ 8 := by unfold reaR; split; exact filt_len; simp
theorem great_p (p : Pl) (c : Option Nat) : Pure Try.prog 17 [plA p c] (.bool (grt p)) := by
  refine pure_of_body Try.func17 (c := body Try.f17) rfl (by simp [Try.ntmps17]) fun w0 Φ0 => ?_
  refine W_seq rfl ?_
  refine W_reg rfl ?_
  refine Rv rfl rfl rfl (U_boxF rfl rfl rfl) rfl rfl ?_
  refine Rv rfl rfl rfl (U_assign rfl) rfl rfl ?_
  refine Re rfl ?_
  refine thenQ_n ?_
  refine W_seq rfl ?_
  refine W_reg rfl ?_
  refine Rv rfl rfl rfl (U_fieldAddrR rfl) rfl rfl ?_
  refine Rv rfl rfl rfl (U_load1 rfl rfl rfl) rfl rfl ?_
  refine Rv rfl rfl rfl (U_lenOf rfl len_ros) rfl rfl ?_
  refine Rv rfl rfl rfl (U_gtr rfl rfl) rfl rfl ?_
  refine Rv rfl rfl rfl (U_assign rfl) rfl rfl ?_
  refine Re rfl ?_
  refine thenQ_n ?_
  refine W_ret rfl ?_
  exact retL (rlT rfl rl0) (by first | rfl | (simp only [packA]; congr 1; unfold grt; congr 1; rw [eq_iff_iff]; omega; first | done | rfl)) rfl
theorem samP_p (p q : Pl) (c d : Option Nat) (hl : p.ds.length ≤ 1000000) (hl2 : q.ds.length ≤ 1000000) : Pure Try.prog 25 [plA p c, plA q d] (.bool (samP p q)) := by
  refine pure_of_body Try.func25 (c := body Try.f25) rfl (by simp [Try.ntmps25]) fun w0 Φ0 => ?_
  refine W_seq rfl ?_
  refine W_reg rfl ?_
  refine Rv rfl rfl rfl (U_boxF rfl rfl rfl) rfl rfl ?_
  refine Rv rfl rfl rfl (U_boxF rfl rfl rfl) rfl rfl ?_
  refine Rv rfl rfl rfl (U_assign rfl) rfl rfl ?_
  refine Re rfl ?_
  refine thenQ_n ?_
  refine W_seq rfl ?_
  refine Wjoin ⟨[(4, .bool ((decide (p.n = q.n)) && (decide (p.ds = q.ds))))], [], 0, []⟩ ?_ ?_
  · refine W_reg rfl ?_
    refine Rv rfl rfl rfl (U_fieldAddrR rfl) rfl rfl ?_
    refine Rv rfl rfl rfl (U_load1 rfl rfl rfl) rfl rfl ?_
    refine Rv rfl rfl rfl (U_fieldAddrR rfl) rfl rfl ?_
    refine Rv rfl rfl rfl (U_load1 rfl rfl rfl) rfl rfl ?_
    refine Rv rfl rfl rfl (U_eql rfl rfl) rfl rfl ?_
    refine Rv rfl rfl rfl (U_move rfl) rfl rfl ?_
    refine Rsplit (t := 10) rfl (fun hg1 => ?_) (fun hg1 => ?_)
    · rw [hg1]
      have hg1' : p.n = q.n := of_decide_eq_true hg1
      refine Rv rfl rfl rfl (U_fieldAddrR rfl) rfl rfl ?_
      refine Rv rfl rfl rfl (U_load1 rfl rfl rfl) rfl rfl ?_
      refine Rv rfl rfl rfl (U_fieldAddrR rfl) rfl rfl ?_
      refine Rv rfl rfl rfl (U_load1 rfl rfl rfl) rfl rfl ?_
      refine Rv rfl rfl rfl (U_call rfl rfl (same_p p.ds q.ds c d (by first | assumption | omega | (simp; done) | (simp; omega)) (by first | assumption | omega | (simp; done) | (simp; omega))) rfl) rfl rfl ?_
      refine Rv rfl rfl rfl (U_pick_t rfl rfl) rfl rfl ?_
      refine Rv rfl rfl rfl (U_assign rfl) rfl rfl ?_
      refine Re rfl ?_
      exact joinTo id ⟨eD rfl rfl, trivial⟩ trivial rfl rfl rfl rfl (fun _ _ => rfl)
    · rw [hg1]
      have hg1' : ¬ (p.n = q.n) := of_decide_eq_false hg1
      refine Rs rfl rfl rfl rfl rfl ?_
      refine Rs rfl rfl rfl rfl rfl ?_
      refine Rs rfl rfl rfl rfl rfl ?_
      refine Rs rfl rfl rfl rfl rfl ?_
      refine Rs rfl rfl rfl rfl rfl ?_
      refine Rv rfl rfl rfl (U_pick_f rfl rfl) rfl rfl ?_
      refine Rv rfl rfl rfl (U_assign rfl) rfl rfl ?_
      refine Re rfl ?_
      exact joinTo id ⟨eD rfl rfl, trivial⟩ trivial rfl rfl rfl rfl (fun _ _ => rfl)
  refine thenQ_n ?_
  refine W_ret rfl ?_
  exact retL (rlT rfl rl0) (by first | rfl | (simp only [packA]; rfl; first | done | rfl)) rfl
theorem ints_p (a b : List Int) (c d : Option Nat) (ha : a.length ≤ 1000000) (hb : b.length ≤ 1000000) : Pure Try.prog 26 [intsA a c, intsA b d] (.bool (decide (a = b))) := by
  refine pure_of_body Try.func26 (c := body Try.f26) rfl (by simp [Try.ntmps26]) fun w0 Φ0 => ?_
  refine W_seq rfl ?_
  refine W_reg rfl ?_
  refine Rv rfl rfl rfl (U_assign rfl) rfl rfl ?_
  refine Re rfl ?_
  refine thenQ_n ?_
  refine W_seq rfl ?_
  refine W_reg rfl ?_
  refine Rv rfl rfl rfl (U_move rfl) rfl rfl ?_
  refine Rv rfl rfl rfl (U_move rfl) rfl rfl ?_
  refine Rv rfl rfl rfl (U_call rfl rfl (same_p a b c d (by first | assumption | omega | (simp; done) | (simp; omega)) (by first | assumption | omega | (simp; done) | (simp; omega))) rfl) rfl rfl ?_
  refine Rv rfl rfl rfl (U_assign rfl) rfl rfl ?_
  refine Re rfl ?_
  refine thenQ_n ?_
  refine W_ret rfl ?_
  exact retL (rlT rfl rl0) rfl rfl
theorem kinds_p (b : Nat) (hb : b < 256) : Pure Try.prog 50 [.int .u8 (b : Nat)] (intsA (kdsQ b) none) := by
  refine pure_of_body Try.func50 (c := body Try.f50) rfl (by simp [Try.ntmps50]) fun w0 Φ0 => ?_
  refine W_seq rfl ?_
  refine W_reg rfl ?_
  refine Rv rfl rfl rfl (U_assign rfl) rfl rfl ?_
  refine Re rfl ?_
  refine thenQ_n ?_
  refine W_seq rfl ?_
  refine W_reg rfl ?_
  refine Rv rfl rfl rfl (U_assign rfl) rfl rfl ?_
  refine Re rfl ?_
  refine thenQ_n ?_
  refine W_seq rfl ?_
  refine W_seq rfl ?_
  refine W_reg rfl ?_
  refine Rv rfl rfl rfl (U_assign rfl) rfl rfl ?_
  refine Re rfl ?_
  refine thenQ_n ?_
  refine W_block rfl ?_
  refine LoopTo (T' := [(0, .int .u8 ((b : Nat) : Int)), (3, .out 0 [].length 1), (4, i64 ((0 : Nat) : Int))]) (H' := [(0, outB ([].map i64) 3 [].length)]) (n := 1) rfl (fun mz_ qz_ => ∃ (k : Nat) (l : List Int), k ≤ 8 ∧ l = filt (kdB b) k ∧ mz_ = 8 - k ∧ qz_ = ⟨[(0, .int .u8 ((b : Nat) : Int)), (3, .out 0 l.length 1), (4, i64 ((k : Nat) : Int))], [(0, outB (l.map i64) 3 l.length)], 1, []⟩) ⟨0, [], (by omega), rfl, rfl, rfl⟩ id ⟨eD rfl rfl, eW rfl le_nils_out rfl, eD rfl rfl, trivial⟩ ⟨rO0 rfl, trivial⟩ rfl rfl rfl rfl (fun _ _ => rfl) ?_
  rintro _ _ ⟨k, l, hi0_0, hi0_1, rfl, rfl⟩
  have hll : l.length ≤ k := by rw [hi0_1]; exact filt_len
  refine W_seq rfl ?_
  refine W_seq rfl ?_
  refine W_reg rfl ?_
  refine Rv rfl rfl rfl (U_move rfl) rfl rfl ?_
  refine Rv rfl rfl rfl (U_lss rfl rfl) rfl rfl ?_
  refine Re rfl ?_
  refine thenQ_n ?_
  refine WcondP rfl rfl (fun hc0 => ?_) (fun hc0 => ?_)
  · have hck : k < 8 := by omega
    have hsh := Nat.shiftRight_le b k
    refine W_skip rfl ?_
    refine thenQ_n ?_
    refine W_seq rfl ?_
    refine W_block rfl ?_
    refine W_seq rfl ?_
    refine W_reg rfl ?_
    refine Rv rfl rfl rfl (U_move rfl) rfl rfl ?_
    refine Rv rfl rfl rfl (U_move rfl) rfl rfl ?_
    refine Rv rfl rfl rfl (U_shr rfl rfl (by omega) (shrN8 (n := b) (i := k) (by omega))) rfl rfl ?_
    refine Rv rfl rfl rfl (U_and rfl rfl (andN8 (a := b >>> k) (b := 1) (by omega) (by omega))) rfl rfl ?_
    refine Rv rfl rfl rfl (U_eql rfl rfl) rfl rfl ?_
    refine Re rfl ?_
    refine thenQ_n ?_
    refine WcondP rfl rfl (fun hc1 => ?_) (fun hc1 => ?_)
    · have hbt : kdB b k = true := by unfold kdB; exact decide_eq_true (by exact_mod_cast hc1)
      refine W_reg rfl ?_
      refine Rv rfl rfl rfl (U_move rfl) rfl rfl ?_
      refine Rv rfl rfl rfl (U_move rfl) rfl rfl ?_
      refine Rv rfl rfl rfl (U_buildSliceF (by rfl) (by decide) rfl rfl rfl) rfl rfl ?_
      refine Ra rfl rfl rfl (U_appO (b := 0) (m := 0) (cs' := (l ++ [((k : Nat) : Int)]).map i64) (n' := (l ++ [((k : Nat) : Int)]).length) rfl rfl (by simp) rfl (map_len1 _) rfl rfl (by omega) (appM _ _) (len1 _ _)) rfl rfl rfl ?_
      refine Rv rfl rfl rfl (U_assign rfl) rfl rfl ?_
      refine Re rfl ?_
      refine blkQ_n ?_
      refine thenQ_n ?_
      refine W_reg rfl ?_
      refine Rv rfl rfl rfl (U_move rfl) rfl rfl ?_
      refine Rv rfl rfl rfl (U_add rfl rfl (w64e (m := ((k + 1 : Nat) : Int)) (by omega) (by omega) (by omega))) rfl rfl ?_
      refine Rv rfl rfl rfl (U_assign rfl) rfl rfl ?_
      refine Re rfl ?_
      refine thenQ_n ?_
      exact againTo (T' := [(0, .int .u8 ((b : Nat) : Int)), (3, .out 0 (l ++ [((k : Nat) : Int)]).length 1), (4, i64 (((k + 1) : Nat) : Int))]) (H' := [(0, outB ((l ++ [((k : Nat) : Int)]).map i64) 3 (l ++ [((k : Nat) : Int)]).length)]) (n := 1) (8 - (k + 1)) ⟨k + 1, l ++ [((k : Nat) : Int)], (by omega), (by first | (rw [filt_t hbt, hi0_1]; done) | (rw [filt_f hbt, hi0_1]; done)), rfl, rfl⟩ (by omega) (mapN [1]) ⟨eD rfl rfl, e_ rfl rfl, eD rfl rfl, trivial⟩ ⟨rO (mapD (fun _ => rfl) _) rfl rfl, trivial⟩ rfl rfl rfl rfl (fun _ h => absurd h (Nat.not_lt_zero _))
    · have hbt : kdB b k = false := by unfold kdB; exact decide_eq_false (by exact_mod_cast hc1)
      refine W_skip rfl ?_
      refine blkQ_n ?_
      refine thenQ_n ?_
      refine W_reg rfl ?_
      refine Rv rfl rfl rfl (U_move rfl) rfl rfl ?_
      refine Rv rfl rfl rfl (U_add rfl rfl (w64e (m := ((k + 1 : Nat) : Int)) (by omega) (by omega) (by omega))) rfl rfl ?_
      refine Rv rfl rfl rfl (U_assign rfl) rfl rfl ?_
      refine Re rfl ?_
      refine thenQ_n ?_
      exact againTo (T' := [(0, .int .u8 ((b : Nat) : Int)), (3, .out 0 l.length 1), (4, i64 (((k + 1) : Nat) : Int))]) (H' := [(0, outB (l.map i64) 3 l.length)]) (n := 1) (8 - (k + 1)) ⟨k + 1, l, (by omega), (by first | (rw [filt_t hbt, hi0_1]; done) | (rw [filt_f hbt, hi0_1]; done)), rfl, rfl⟩ (by omega) id ⟨eD rfl rfl, e_ rfl rfl, eD rfl rfl, trivial⟩ ⟨rO (mapD (fun _ => rfl) _) rfl rfl, trivial⟩ rfl rfl rfl rfl (fun _ _ => rfl)
  · refine W_exit rfl ?_
    refine thenQ_x ?_
    refine thenQ_x ?_
    refine blkQ_x rfl ?_
    refine thenQ_n ?_
    refine W_seq rfl ?_
    refine W_reg rfl ?_
    refine Rv rfl rfl rfl (U_move rfl) rfl rfl ?_
    refine Rv rfl rfl rfl (U_assign rfl) rfl rfl ?_
    refine Re rfl ?_
    refine thenQ_n ?_
    refine WfrO 0 (l.map i64) rfl (mapD (fun _ => rfl) _) (T' := [(2, .ros (l.map i64) l.length none)]) (H' := []) ⟨fO rfl, trivial⟩ trivial ?_
    refine W_ret rfl ?_
    exact retL (rlT rfl rl0) (by first | rfl | (simp only [packA]; rw [hi0_1, show k = 8 by omega]; rfl; first | done | rfl)) rfl
theorem reached51_p (ks : List Int) (c : Option Nat) (hl : ks.length ≤ 1000000) : Pure Try.prog 51 [intsA ks c] (.tup [intsA (reaR ks) none, .bool (reaB ks)]) := by
  have hrl := reaR_len (ks := ks)
  refine pure_of_body Try.func51 (c := body Try.f51) rfl (by simp [Try.ntmps51]) fun w0 Φ0 => ?_
  refine W_seq rfl ?_
  refine W_reg rfl ?_
  refine Rv rfl rfl rfl (U_assign rfl) rfl rfl ?_
  refine Rv rfl rfl rfl (U_assign rfl) rfl rfl ?_
  refine Re rfl ?_
  refine thenQ_n ?_
  refine W_seq rfl ?_
  refine W_reg rfl ?_
  refine Rv rfl rfl rfl (U_move rfl) rfl rfl ?_
  refine Rv rfl rfl rfl (U_call rfl rfl (reachedA_p ks c (by first | assumption | omega)) rfl) rfl rfl ?_
  refine Rv rfl rfl rfl (U_move rfl) rfl rfl ?_
  refine Rv rfl rfl rfl (U_extract rfl rfl) rfl rfl ?_
  refine Rv rfl rfl rfl (U_extract rfl rfl) rfl rfl ?_
  refine Rv rfl rfl rfl (U_assign rfl) rfl rfl ?_
  refine Rv rfl rfl rfl (U_assign rfl) rfl rfl ?_
  refine Re rfl ?_
  refine thenQ_n ?_
  refine W_seq rfl ?_
  refine Wjoin ⟨[(2, .ros ((reaR ks).map i64) ((reaR ks).length) none), (3, .bool ((decide ((chkK ks) = 0)) && ((decide (0 < (((reaR ks).length : Nat) : Int))) && (decide ((chkK (reaR ks)) = 0)))))], [], 0, []⟩ ?_ ?_
  · refine W_reg rfl ?_
    refine Rv rfl rfl rfl (U_move rfl) rfl rfl ?_
    refine Rv rfl rfl rfl (U_move rfl) rfl rfl ?_
    refine Rv rfl rfl rfl (U_eql rfl rfl) rfl rfl ?_
    refine Rv rfl rfl rfl (U_move rfl) rfl rfl ?_
    refine Rsplit (t := 14) rfl (fun hg1 => ?_) (fun hg1 => ?_)
    · rw [hg1]
      have hg1' : (chkK ks) = 0 := of_decide_eq_true hg1
      refine Rv rfl rfl rfl (U_move rfl) rfl rfl ?_
      refine Rv rfl rfl rfl (U_lenOf rfl len_ros) rfl rfl ?_
      refine Rv rfl rfl rfl (U_gtr rfl rfl) rfl rfl ?_
      refine Rv rfl rfl rfl (U_pick_t rfl rfl) rfl rfl ?_
      refine Rv rfl rfl rfl (U_move rfl) rfl rfl ?_
      refine Rsplit (t := 19) rfl (fun hg2 => ?_) (fun hg2 => ?_)
      · rw [hg2]
        have hg2' : 0 < (((reaR ks).length : Nat) : Int) := of_decide_eq_true hg2
        refine Rv rfl rfl rfl (U_move rfl) rfl rfl ?_
        refine Rv rfl rfl rfl (U_call rfl rfl (chkKR_p (reaR ks) none (by first | assumption | omega)) rfl) rfl rfl ?_
        refine Rv rfl rfl rfl (U_eql rfl rfl) rfl rfl ?_
        refine Rv rfl rfl rfl (U_pick_t rfl rfl) rfl rfl ?_
        refine Rv rfl rfl rfl (U_assign rfl) rfl rfl ?_
        refine Rv rfl rfl rfl (U_assign rfl) rfl rfl ?_
        refine Re rfl ?_
        exact joinTo id ⟨eD rfl rfl, eD rfl rfl, trivial⟩ trivial rfl rfl rfl rfl (fun _ _ => rfl)
      · rw [hg2]
        have hg2' : ¬ (0 < (((reaR ks).length : Nat) : Int)) := of_decide_eq_false hg2
        refine Rs rfl rfl rfl rfl rfl ?_
        refine Rs rfl rfl rfl rfl rfl ?_
        refine Rs rfl rfl rfl rfl rfl ?_
        refine Rv rfl rfl rfl (U_pick_f rfl rfl) rfl rfl ?_
        refine Rv rfl rfl rfl (U_assign rfl) rfl rfl ?_
        refine Rv rfl rfl rfl (U_assign rfl) rfl rfl ?_
        refine Re rfl ?_
        exact joinTo id ⟨eD rfl rfl, eD rfl rfl, trivial⟩ trivial rfl rfl rfl rfl (fun _ _ => rfl)
    · rw [hg1]
      have hg1' : ¬ ((chkK ks) = 0) := of_decide_eq_false hg1
      refine Rs rfl rfl rfl rfl rfl ?_
      refine Rs rfl rfl rfl rfl rfl ?_
      refine Rs rfl rfl rfl rfl rfl ?_
      refine Rv rfl rfl rfl (U_pick_f rfl rfl) rfl rfl ?_
      refine Rv rfl rfl rfl (U_move rfl) rfl rfl ?_
      refine Rs rfl rfl rfl rfl rfl ?_
      refine Rs rfl rfl rfl rfl rfl ?_
      refine Rs rfl rfl rfl rfl rfl ?_
      refine Rv rfl rfl rfl (U_pick_f rfl rfl) rfl rfl ?_
      refine Rv rfl rfl rfl (U_assign rfl) rfl rfl ?_
      refine Rv rfl rfl rfl (U_assign rfl) rfl rfl ?_
      refine Re rfl ?_
      exact joinTo id ⟨eD rfl rfl, eD rfl rfl, trivial⟩ trivial rfl rfl rfl rfl (fun _ _ => rfl)
  refine thenQ_n ?_
  refine W_ret rfl ?_
  exact retL (rlT rfl (rlT rfl rl0)) (by first | rfl | (simp only [packA]; rfl; first | done | rfl)) rfl
theorem grt_len {p : Pl} (h : (!grt p) = true) : p.ds.length ≤ 1000000 := by simp [grt] at h; omega
theorem fine_p (p : Pl) (c : Option Nat) : Pure Try.prog 55 [plA p c] (.bool (!grt p && decide (chkP p = 0))) := by
  refine pure_of_body Try.func55 (c := body Try.f55) rfl (by simp [Try.ntmps55]) fun w0 Φ0 => ?_
  refine W_seq rfl ?_
  refine W_reg rfl ?_
  refine Rv rfl rfl rfl (U_boxF rfl rfl rfl) rfl rfl ?_
  refine Rv rfl rfl rfl (U_assign rfl) rfl rfl ?_
  refine Re rfl ?_
  refine thenQ_n ?_
  refine W_seq rfl ?_
  refine Wjoin ⟨[(2, .bool ((!(grt p)) && (decide ((chkP p) = 0))))], [], 0, []⟩ ?_ ?_
  · refine W_reg rfl ?_
    refine Rv rfl rfl rfl (U_load2 rfl rfl rfl rfl) rfl rfl ?_
    refine Rv rfl rfl rfl (U_call rfl rfl (great_p p c) rfl) rfl rfl ?_
    refine Rv rfl rfl rfl (U_not rfl) rfl rfl ?_
    refine Rv rfl rfl rfl (U_move rfl) rfl rfl ?_
    refine Rsplit (t := 6) rfl (fun hg1 => ?_) (fun hg1 => ?_)
    · rw [hg1]
      refine Rv rfl rfl rfl (U_load2 rfl rfl rfl rfl) rfl rfl ?_
      refine Rv rfl rfl rfl (U_call rfl rfl (chkPR_p p c (by first | assumption | omega | exact grt_len (by assumption))) rfl) rfl rfl ?_
      refine Rv rfl rfl rfl (U_eql rfl rfl) rfl rfl ?_
      refine Rv rfl rfl rfl (U_pick_t rfl rfl) rfl rfl ?_
      refine Rv rfl rfl rfl (U_assign rfl) rfl rfl ?_
      refine Re rfl ?_
      exact joinTo id ⟨eD rfl rfl, trivial⟩ trivial rfl rfl rfl rfl (fun _ _ => rfl)
    · rw [hg1]
      refine Rs rfl rfl rfl rfl rfl ?_
      refine Rs rfl rfl rfl rfl rfl ?_
      refine Rs rfl rfl rfl rfl rfl ?_
      refine Rv rfl rfl rfl (U_pick_f rfl rfl) rfl rfl ?_
      refine Rv rfl rfl rfl (U_assign rfl) rfl rfl ?_
      refine Re rfl ?_
      exact joinTo id ⟨eD rfl rfl, trivial⟩ trivial rfl rfl rfl rfl (fun _ _ => rfl)
  refine thenQ_n ?_
  refine W_ret rfl ?_
  exact retL (rlT rfl rl0) rfl rfl
theorem square_p (n : Int) (l : List Int) (c : Option Nat) : Pure Try.prog 59 [i64 n, intsA l c] (.agg [i64 n, intsA l c]) := by
  refine pure_of_body Try.func59 (c := body Try.f59) rfl (by simp [Try.ntmps59]) fun w0 Φ0 => ?_
  refine W_seq rfl ?_
  refine W_reg rfl ?_
  refine Ra rfl rfl rfl (U_alloc) rfl rfl rfl ?_
  refine Re rfl ?_
  refine thenQ_n ?_
  refine W_seq rfl ?_
  refine W_reg rfl ?_
  refine Rv rfl rfl rfl (U_move rfl) rfl rfl ?_
  refine Rv rfl rfl rfl (U_move rfl) rfl rfl ?_
  refine Rv rfl rfl rfl (U_build rfl rfl) rfl rfl ?_
  refine Rn rfl rfl rfl (U_storeAll rfl rfl rfl rfl rfl rfl) rfl ?_
  refine Re rfl ?_
  refine thenQ_n ?_
  refine W_ret rfl ?_
  exact retL (rlA rfl rfl rfl rl0) rfl rfl
theorem of_p (l : List Int) (c : Option Nat) : Pure Try.prog 60 [intsA l c] (intsA l c) := by
  refine pure_of_body Try.func60 (c := body Try.f60) rfl (by simp [Try.ntmps60]) fun w0 Φ0 => ?_
  refine W_seq rfl ?_
  refine W_reg rfl ?_
  refine Rv rfl rfl rfl (U_assign rfl) rfl rfl ?_
  refine Re rfl ?_
  refine thenQ_n ?_
  refine W_seq rfl ?_
  refine W_reg rfl ?_
  refine Rv rfl rfl rfl (U_move rfl) rfl rfl ?_
  refine Rv rfl rfl rfl (U_assign rfl) rfl rfl ?_
  refine Re rfl ?_
  refine thenQ_n ?_
  refine W_ret rfl ?_
  exact retL (rlT rfl rl0) rfl rfl
theorem plnN_pos {ks : List Int} {bs : List Nat} (h : 0 < ks.length) : plnN ks bs = bs.map fun b => ks[b % ks.length]'(Nat.mod_lt _ h) := dif_pos h
theorem plnN_take {ks : List Int} {bs : List Nat} (h : 0 < ks.length) {k : Nat} (hk : k < bs.length) : plnN ks (bs.take (k + 1)) = plnN ks (bs.take k) ++ [ks[bs[k] % ks.length]'(Nat.mod_lt _ h)] := by
  rw [plnN_pos h, plnN_pos h, List.take_succ_eq_append_getElem hk, List.map_append]; rfl
theorem plnN_all {ks : List Int} {bs : List Nat} {k : Nat} (h : k < bs.length → ks.length = 0) : plnN ks (bs.take k) = plnN ks bs := by
  by_cases hk : k < bs.length
  · have h2 := h hk; unfold plnN; rw [dif_neg (by omega), dif_neg (by omega)]
  · rw [List.take_of_length_le (by omega)]
theorem planned_p (ks : List Int) (c : Option Nat) (hl : ks.length ≤ 1000000) (bs : List Nat) (d : Option Nat) (hb : bs.length ≤ 1000000) (hbb : ∀ b ∈ bs, b < 256) : Pure Try.prog 52 [intsA ks c, bytesA bs d] (intsA (plnN ks bs) none) := by
  refine pure_of_body Try.func52 (c := body Try.f52) rfl (by simp [Try.ntmps52]) fun w0 Φ0 => ?_
  refine W_seq rfl ?_
  refine W_reg rfl ?_
  refine Rv rfl rfl rfl (U_assign rfl) rfl rfl ?_
  refine Re rfl ?_
  refine thenQ_n ?_
  refine W_seq rfl ?_
  refine W_reg rfl ?_
  refine Rv rfl rfl rfl (U_assign rfl) rfl rfl ?_
  refine Re rfl ?_
  refine thenQ_n ?_
  refine W_seq rfl ?_
  refine W_seq rfl ?_
  refine W_reg rfl ?_
  refine Rv rfl rfl rfl (U_assign rfl) rfl rfl ?_
  refine Re rfl ?_
  refine thenQ_n ?_
  refine W_block rfl ?_
  refine LoopTo (T' := [(0, .ros (ks.map i64) ks.length c), (1, .ros (bs.map b8) bs.length d), (5, .out 0 [].length 1), (6, i64 ((0 : Nat) : Int))]) (H' := [(0, outB ([].map i64) 3 [].length)]) (n := 1) rfl (fun mz_ qz_ => ∃ (k : Nat) (l : List Int), k ≤ bs.length ∧ l = plnN ks (bs.take k) ∧ mz_ = bs.length - k ∧ qz_ = ⟨[(0, .ros (ks.map i64) ks.length c), (1, .ros (bs.map b8) bs.length d), (5, .out 0 l.length 1), (6, i64 ((k : Nat) : Int))], [(0, outB (l.map i64) 3 l.length)], 1, []⟩) ⟨0, [], (by omega), (by unfold plnN; split <;> simp), rfl, rfl⟩ id ⟨eD rfl rfl, eD rfl rfl, eW rfl le_nils_out rfl, eD rfl rfl, trivial⟩ ⟨rO0 rfl, trivial⟩ rfl rfl rfl rfl (fun _ _ => rfl) ?_
  rintro _ _ ⟨k, l, hi0_0, hi0_1, rfl, rfl⟩
  have hll : l.length ≤ k := by rw [hi0_1]; exact Nat.le_trans plnN_len (by simp; omega)
  refine W_seq rfl ?_
  refine W_seq rfl ?_
  refine Wjoin ⟨[(0, .ros (ks.map i64) ks.length c), (1, .ros (bs.map b8) bs.length d), (5, .out 0 l.length 1), (6, i64 ((k : Nat) : Int)), (15, .bool ((decide (((k : Nat) : Int) < ((bs.length : Nat) : Int))) && (decide (0 < ((ks.length : Nat) : Int)))))], [(0, outB (l.map i64) 3 l.length)], 1, []⟩ ?_ ?_
  · refine W_reg rfl ?_
    refine Rv rfl rfl rfl (U_move rfl) rfl rfl ?_
    refine Rv rfl rfl rfl (U_move rfl) rfl rfl ?_
    refine Rv rfl rfl rfl (U_lenOf rfl len_ros) rfl rfl ?_
    refine Rv rfl rfl rfl (U_lss rfl rfl) rfl rfl ?_
    refine Rv rfl rfl rfl (U_move rfl) rfl rfl ?_
    refine Rsplit (t := 11) rfl (fun hg1 => ?_) (fun hg1 => ?_)
    · rw [hg1]
      have hg1' : ((k : Nat) : Int) < ((bs.length : Nat) : Int) := of_decide_eq_true hg1
      refine Rv rfl rfl rfl (U_move rfl) rfl rfl ?_
      refine Rv rfl rfl rfl (U_lenOf rfl len_ros) rfl rfl ?_
      refine Rv rfl rfl rfl (U_gtr rfl rfl) rfl rfl ?_
      refine Rv rfl rfl rfl (U_pick_t rfl rfl) rfl rfl ?_
      refine Re rfl ?_
      exact joinTo id ⟨eD rfl rfl, eD rfl rfl, e_ rfl rfl, eD rfl rfl, eD rfl rfl, trivial⟩ ⟨rO (mapD (fun _ => rfl) _) rfl rfl, trivial⟩ rfl rfl rfl rfl (fun _ _ => rfl)
    · rw [hg1]
      have hg1' : ¬ (((k : Nat) : Int) < ((bs.length : Nat) : Int)) := of_decide_eq_false hg1
      refine Rs rfl rfl rfl rfl rfl ?_
      refine Rs rfl rfl rfl rfl rfl ?_
      refine Rs rfl rfl rfl rfl rfl ?_
      refine Rv rfl rfl rfl (U_pick_f rfl rfl) rfl rfl ?_
      refine Re rfl ?_
      exact joinTo id ⟨eD rfl rfl, eD rfl rfl, e_ rfl rfl, eD rfl rfl, eD rfl rfl, trivial⟩ ⟨rO (mapD (fun _ => rfl) _) rfl rfl, trivial⟩ rfl rfl rfl rfl (fun _ _ => rfl)
  refine thenQ_n ?_
  refine Wcond rfl rfl (fun hc0 => ?_) (fun hc0 => ?_)
  · have hck : k < bs.length := by simp at hc0; omega
    have hks : 0 < ks.length := by simp at hc0; omega
    have hbk := hbb _ (List.getElem_mem hck)
    have hmd := Nat.mod_lt bs[k] hks
    refine W_skip rfl ?_
    refine thenQ_n ?_
    refine W_seq rfl ?_
    refine W_block rfl ?_
    refine W_reg rfl ?_
    refine Rv rfl rfl rfl (U_move rfl) rfl rfl ?_
    refine Rv rfl rfl rfl (U_move rfl) rfl rfl ?_
    refine Rv rfl rfl rfl (U_move rfl) rfl rfl ?_
    refine Rv rfl rfl rfl (U_move rfl) rfl rfl ?_
    have hx2 : k < bs.length := by omega
    refine Rv rfl rfl rfl (U_indexR (j := k) rfl rfl rfl hx2) rfl rfl ?_
    refine Rv rfl rfl rfl (U_load1 rfl rfl (getM hx2)) rfl rfl ?_
    refine Rv rfl rfl rfl (U_convInt (by rfl) rfl (wr_i64 (by omega) (by omega))) rfl rfl ?_
    refine Rv rfl rfl rfl (U_move rfl) rfl rfl ?_
    refine Rv rfl rfl rfl (U_lenOf rfl len_ros) rfl rfl ?_
    refine Rv rfl rfl rfl (U_rem (c := ((bs[k] % ks.length : Nat) : Int)) rfl rfl (by omega) (tmodN _ _)) rfl rfl ?_
    have hx3 : (bs[k] % ks.length) < ks.length := by omega
    refine Rv rfl rfl rfl (U_indexR (j := (bs[k] % ks.length)) rfl rfl rfl hx3) rfl rfl ?_
    refine Rv rfl rfl rfl (U_load1 rfl rfl (getM hx3)) rfl rfl ?_
    refine Rv rfl rfl rfl (U_buildSliceF (by rfl) (by decide) rfl rfl rfl) rfl rfl ?_
    refine Ra rfl rfl rfl (U_appO (b := 0) (m := 0) (cs' := (l ++ [ks[(bs[k] % ks.length)]]).map i64) (n' := (l ++ [ks[(bs[k] % ks.length)]]).length) rfl rfl (by simp) rfl (map_len1 _) rfl rfl (by omega) (appM _ _) (len1 _ _)) rfl rfl rfl ?_
    refine Rv rfl rfl rfl (U_assign rfl) rfl rfl ?_
    refine Re rfl ?_
    refine blkQ_n ?_
    refine thenQ_n ?_
    refine W_reg rfl ?_
    refine Rv rfl rfl rfl (U_move rfl) rfl rfl ?_
    refine Rv rfl rfl rfl (U_add rfl rfl (w64e (m := ((k + 1 : Nat) : Int)) (by omega) (by omega) (by omega))) rfl rfl ?_
    refine Rv rfl rfl rfl (U_assign rfl) rfl rfl ?_
    refine Re rfl ?_
    refine thenQ_n ?_
    exact againTo (T' := [(0, .ros (ks.map i64) ks.length c), (1, .ros (bs.map b8) bs.length d), (5, .out 0 (l ++ [ks[(bs[k] % ks.length)]]).length 1), (6, i64 (((k + 1) : Nat) : Int))]) (H' := [(0, outB ((l ++ [ks[(bs[k] % ks.length)]]).map i64) 3 (l ++ [ks[(bs[k] % ks.length)]]).length)]) (n := 1) (bs.length - (k + 1)) ⟨k + 1, l ++ [ks[(bs[k] % ks.length)]], (by omega), (by rw [plnN_take hks hck, hi0_1]), rfl, rfl⟩ (by omega) (mapN [1]) ⟨eD rfl rfl, eD rfl rfl, e_ rfl rfl, eD rfl rfl, trivial⟩ ⟨rO (mapD (fun _ => rfl) _) rfl rfl, trivial⟩ rfl rfl rfl rfl (fun _ h => absurd h (Nat.not_lt_zero _))
  · have hc0' := Bool.eq_false_iff.1 hc0
    refine W_exit rfl ?_
    refine thenQ_x ?_
    refine thenQ_x ?_
    refine blkQ_x rfl ?_
    refine thenQ_n ?_
    refine W_seq rfl ?_
    refine W_reg rfl ?_
    refine Rv rfl rfl rfl (U_move rfl) rfl rfl ?_
    refine Rv rfl rfl rfl (U_assign rfl) rfl rfl ?_
    refine Re rfl ?_
    refine thenQ_n ?_
    refine WfrO 0 (l.map i64) rfl (mapD (fun _ => rfl) _) (T' := [(4, .ros (l.map i64) l.length none)]) (H' := []) ⟨fO rfl, trivial⟩ trivial ?_
    refine W_ret rfl ?_
    exact retL (rlT rfl rl0) (by first | rfl | (simp only [packA]; rw [hi0_1, plnN_all (fun h => by have h2 := hc0; simp only [Bool.and_eq_false_iff, decide_eq_false_iff_not] at h2; omega)]; first | done | rfl)) rfl
theorem behind_p (a b : List Int) (c d : Option Nat) (ha : a.length ≤ 1000000) (hb : b.length ≤ 1000000) : Pure Try.prog 57 [intsA a c, intsA b d] (.bool (bhd a b)) := by
  refine pure_of_body Try.func57 (c := body Try.f57) rfl (by simp [Try.ntmps57]) fun w0 Φ0 => ?_
  refine W_seq rfl ?_
  refine W_reg rfl ?_
  refine Rv rfl rfl rfl (U_assign rfl) rfl rfl ?_
  refine Re rfl ?_
  refine thenQ_n ?_
  refine W_seq rfl ?_
  refine W_seq rfl ?_
  refine W_reg rfl ?_
  refine Rv rfl rfl rfl (U_move rfl) rfl rfl ?_
  refine Rv rfl rfl rfl (U_lenOf rfl len_ros) rfl rfl ?_
  refine Rv rfl rfl rfl (U_move rfl) rfl rfl ?_
  refine Rv rfl rfl rfl (U_lenOf rfl len_ros) rfl rfl ?_
  refine Rv rfl rfl rfl (U_neq rfl rfl) rfl rfl ?_
  refine Re rfl ?_
  refine thenQ_n ?_
  refine WcondP rfl rfl (fun hc0 => ?_) (fun hc0 => ?_)
  · refine W_seq rfl ?_
    refine W_reg rfl ?_
    refine Rv rfl rfl rfl (U_assign rfl) rfl rfl ?_
    refine Re rfl ?_
    refine thenQ_n ?_
    refine W_ret rfl ?_
    refine thenQ_r ?_
    exact retL (rlT rfl rl0) (by first | rfl | (simp only [packA]; rw [bhd, if_pos (by omega)]; first | done | rfl) | (simp only [packA]; rw [bhd, if_neg (by omega), hi0_1, cmpL_gt hck hck2 (by omega)]; first | done | rfl) | (simp only [packA]; rw [bhd, if_neg (by omega), hi0_1, cmpL_end3 (by omega) (by omega)]; first | done | rfl)) rfl
  · rw [Decidable.not_not] at hc0
    have hlen : a.length = b.length := by omega
    refine W_skip rfl ?_
    refine thenQ_n ?_
    refine W_seq rfl ?_
    refine W_seq rfl ?_
    refine W_reg rfl ?_
    refine Rv rfl rfl rfl (U_assign rfl) rfl rfl ?_
    refine Re rfl ?_
    refine thenQ_n ?_
    refine W_block rfl ?_
    refine LoopTo (T' := [(0, .ros (a.map i64) a.length c), (1, .ros (b.map i64) b.length d), (5, i64 ((0 : Nat) : Int))]) (H' := []) (n := 0) rfl (fun mz_ qz_ => ∃ (k : Nat), k ≤ a.length ∧ cmpL a b = cmpL (a.drop k) (b.drop k) ∧ mz_ = a.length - k ∧ qz_ = ⟨[(0, .ros (a.map i64) a.length c), (1, .ros (b.map i64) b.length d), (5, i64 ((k : Nat) : Int))], [], 0, []⟩) ⟨0, (by omega), rfl, rfl, rfl⟩ id ⟨eD rfl rfl, eD rfl rfl, eD rfl rfl, trivial⟩ trivial rfl rfl rfl rfl (fun _ _ => rfl) ?_
    rintro _ _ ⟨k, hi0_0, hi0_1, rfl, rfl⟩
    refine W_seq rfl ?_
    refine W_seq rfl ?_
    refine W_reg rfl ?_
    refine Rv rfl rfl rfl (U_move rfl) rfl rfl ?_
    refine Rv rfl rfl rfl (U_move rfl) rfl rfl ?_
    refine Rv rfl rfl rfl (U_lenOf rfl len_ros) rfl rfl ?_
    refine Rv rfl rfl rfl (U_lss rfl rfl) rfl rfl ?_
    refine Re rfl ?_
    refine thenQ_n ?_
    refine WcondP rfl rfl (fun hc1 => ?_) (fun hc1 => ?_)
    · have hck : k < a.length := by omega
      have hck2 : k < b.length := by omega
      refine W_skip rfl ?_
      refine thenQ_n ?_
      refine W_seq rfl ?_
      refine W_block rfl ?_
      refine W_seq rfl ?_
      refine Wdraw rfl (by kernel_rfl) (by kernel_rfl) ?_
      refine Dv rfl rfl rfl (U_move rfl) rfl rfl ?_
      refine Dv rfl rfl rfl (U_move rfl) rfl rfl ?_
      have hx1 : k < a.length := by omega
      refine Dv rfl rfl rfl (U_indexR (j := k) rfl rfl rfl hx1) rfl rfl ?_
      refine Dv rfl rfl rfl (U_load1 rfl rfl (getM hx1)) rfl rfl ?_
      refine Dv rfl rfl rfl (U_move rfl) rfl rfl ?_
      refine Dv rfl rfl rfl (U_move rfl) rfl rfl ?_
      have hx2 : k < b.length := by omega
      refine Dv rfl rfl rfl (U_indexR (j := k) rfl rfl rfl hx2) rfl rfl ?_
      refine Dv rfl rfl rfl (U_load1 rfl rfl (getM hx2)) rfl rfl ?_
      refine Dv rfl rfl rfl (U_neq rfl rfl) rfl rfl ?_
      refine Dr.nil rfl ?_
      refine thenQ_n ?_
      refine WcondP rfl rfl (fun hc2 => ?_) (fun hc2 => ?_)
      · refine W_seq rfl ?_
        refine Wdraw rfl (by kernel_rfl) (by kernel_rfl) ?_
        refine Dv rfl rfl rfl (U_move rfl) rfl rfl ?_
        refine Dv rfl rfl rfl (U_move rfl) rfl rfl ?_
        refine Dv rfl rfl rfl (U_indexR (j := k) rfl rfl rfl hx1) rfl rfl ?_
        refine Dv rfl rfl rfl (U_load1 rfl rfl (getM hx1)) rfl rfl ?_
        refine Dv rfl rfl rfl (U_move rfl) rfl rfl ?_
        refine Dv rfl rfl rfl (U_move rfl) rfl rfl ?_
        refine Dv rfl rfl rfl (U_indexR (j := k) rfl rfl rfl hx2) rfl rfl ?_
        refine Dv rfl rfl rfl (U_load1 rfl rfl (getM hx2)) rfl rfl ?_
        refine Dv rfl rfl rfl (U_gtr rfl rfl) rfl rfl ?_
        refine Dv rfl rfl rfl (U_assign rfl) rfl rfl ?_
        refine Dr.nil rfl ?_
        refine thenQ_n ?_
        refine W_ret rfl ?_
        refine blkQ_r ?_
        refine thenQ_r ?_
        refine thenQ_r ?_
        refine blkQ_r ?_
        refine thenQ_r ?_
        exact retL (rlT rfl rl0) (by first | rfl | (simp only [packA]; rw [bhd, if_pos (by omega)]; first | done | rfl) | (simp only [packA]; rw [bhd, if_neg (by omega), hi0_1, cmpL_gt hck hck2 (by omega)]; first | done | rfl) | (simp only [packA]; rw [bhd, if_neg (by omega), hi0_1, cmpL_end3 (by omega) (by omega)]; first | done | rfl)) rfl
      · rw [Decidable.not_not] at hc2
        refine W_skip rfl ?_
        refine blkQ_n ?_
        refine thenQ_n ?_
        refine W_reg rfl ?_
        refine Rv rfl rfl rfl (U_move rfl) rfl rfl ?_
        refine Rv rfl rfl rfl (U_add rfl rfl (w64e (m := ((k + 1 : Nat) : Int)) (by omega) (by omega) (by omega))) rfl rfl ?_
        refine Rv rfl rfl rfl (U_assign rfl) rfl rfl ?_
        refine Re rfl ?_
        refine thenQ_n ?_
        exact againTo (T' := [(0, .ros (a.map i64) a.length c), (1, .ros (b.map i64) b.length d), (5, i64 (((k + 1) : Nat) : Int))]) (H' := []) (n := 0) (a.length - (k + 1)) ⟨k + 1, (by omega), (hi0_1.trans (cmpL_same hck hck2 (by omega))), rfl, rfl⟩ (by omega) id ⟨eD rfl rfl, eD rfl rfl, eD rfl rfl, trivial⟩ trivial rfl rfl rfl rfl (fun _ _ => rfl)
    · refine W_exit rfl ?_
      refine thenQ_x ?_
      refine thenQ_x ?_
      refine blkQ_x rfl ?_
      refine thenQ_n ?_
      refine W_seq rfl ?_
      refine W_reg rfl ?_
      refine Rv rfl rfl rfl (U_assign rfl) rfl rfl ?_
      refine Re rfl ?_
      refine thenQ_n ?_
      refine W_ret rfl ?_
      exact retL (rlT rfl rl0) (by first | rfl | (simp only [packA]; rw [bhd, if_pos (by omega)]; first | done | rfl) | (simp only [packA]; rw [bhd, if_neg (by omega), hi0_1, cmpL_gt hck hck2 (by omega)]; first | done | rfl) | (simp only [packA]; rw [bhd, if_neg (by omega), hi0_1, cmpL_end3 (by omega) (by omega)]; first | done | rfl)) rfl
end Go.Proofs.Ythoodfiacfmhgaa
end
