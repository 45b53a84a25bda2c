import Derived.Test.YthoodfiacfmhgaaM4
set_option linter.all false
section
/- Contracts of the smallest functions of package plate. -/
namespace Go.Proofs.Ythoodfiacfmhgaa
set_option maxRecDepth 20000
open Go.AE
theorem tmodP {a b : Int} (h : 0 ≤ a) : a.tmod b = a % b := Int.tmod_eq_emod_of_nonneg h
theorem wquoP {a b : Int} (h : 0 ≤ a) (h2 : a ≤ 9223372036854775807) (h3 : 0 < b) : IntKind.i64.wrap (a.tdiv b) = a / b := by
  rw [Int.tdiv_eq_ediv_of_nonneg h]
  have h4 := Int.ediv_nonneg h (Int.le_of_lt h3)
  have h5 := Int.ediv_le_self b h
  exact w64 (by omega) (by omega)
abbrev i64 (n : Int) : AV := .int .i64 n
def body (fn : Func) : Code := (fn.body).getD .skip
abbrev intsA (l : List Int) (c : Option Nat) : AV := .ros (l.map i64) l.length c
theorem fnD {f : FuncId} {ca : List AV} (h : dataL ca) : (AV.fn f [] ca).data := by simp only [AV.data, AV.isd, isdL, Bool.true_and]; exact h
/-- The first place where a test holds. -/
def idxI {α : Type} (p : α → Bool) (l : List α) : Int := match l.findIdx? p with
  | some i => i
  | none => -1
theorem idx_hit {α : Type} {p : α → Bool} {l : List α} {k : Nat} (hk : k < l.length) (h : ∀ j (hj : j < l.length), j < k → p l[j] = false) (hp : p l[k] = true) : idxI p l = k := by
  have : l.findIdx? p = some k := List.findIdx?_eq_some_iff_getElem.2 ⟨hk, hp, fun j hj => by simp [h j (by omega) hj]⟩
  simp [idxI, this]
theorem idx_end {α : Type} {p : α → Bool} {l : List α} (h : ∀ j (hj : j < l.length), p l[j] = false) : idxI p l = -1 := by
  have : l.findIdx? p = none := by
    rw [List.findIdx?_eq_none_iff]; intro x hx
    obtain ⟨j, hj, rfl⟩ := List.getElem_of_mem hx; exact h j hj
  simp [idxI, this]
theorem idx_any {α : Type} {p : α → Bool} {l : List α} : decide (0 ≤ idxI p l) = l.any p := by
  cases h : l.findIdx? p with
  | none =>
    have := List.findIdx?_eq_none_iff.1 h
    have : l.any p = false := by rw [List.any_eq_false]; intro x hx; simp [this x hx]
    simp [idxI, h, this]
  | some i =>
    obtain ⟨hi, hp, _⟩ := List.findIdx?_eq_some_iff_getElem.1 h
    have : l.any p = true := List.any_eq_true.2 ⟨l[i], List.getElem_mem hi, hp⟩
    simp [idxI, h, this]
theorem any_false {α : Type} {p : α → Bool} {l : List α} (h : ∀ j (hj : j < l.length), p l[j] = false) : l.any p = false := by
  rw [List.any_eq_false]; intro x hx; obtain ⟨j, hj, rfl⟩ := List.getElem_of_mem hx; rw [h j hj]; simp
theorem any_true {α : Type} {p : α → Bool} {l : List α} {j : Nat} (hj : j < l.length) (h : p l[j] = true) : l.any p = true := List.any_eq_true.2 ⟨_, List.getElem_mem hj, h⟩
theorem allB_true {α : Type} {p : α → Bool} {l : List α} (h : ∀ j (hj : j < l.length), p l[j] = true) : l.all p = true := by
  rw [List.all_eq_true]; intro x hx; obtain ⟨j, hj, rfl⟩ := List.getElem_of_mem hx; exact h j hj
theorem allB_false {α : Type} {p : α → Bool} {l : List α} {j : Nat} (hj : j < l.length) (h : p l[j] = false) : l.all p = false := by
  rw [List.all_eq_false]; exact ⟨_, List.getElem_mem hj, by rw [h]; simp⟩
def inL (lo hi : Int) (l : List Int) : Bool := l.all fun n => decide (lo ≤ n) && decide (n ≤ hi)
theorem inL_any (lo hi : Int) (l : List Int) : (!l.any fun n => decide (n < lo) || decide (hi < n)) = inL lo hi l := by
  unfold inL
  induction l with
  | nil => rfl
  | cons a l ih =>
    rw [List.any_cons, List.all_cons, Bool.not_or, ih]
    congr 1
    rw [Bool.eq_iff_iff]; simp <;> omega
theorem list_eq {α : Type} {a b : List α} (hl : a.length = b.length) (h : ∀ j (h1 : j < a.length) (h2 : j < b.length), a[j] = b[j]) : a = b := List.ext_getElem hl h
theorem list_ne {α : Type} {a b : List α} {j : Nat} (h1 : j < a.length) (h2 : j < b.length) (h : a[j] ≠ b[j]) : a ≠ b := by rintro rfl; exact h rfl
theorem out_p (n lo hi : Int) : Pure Try.prog 91 [i64 n, .rop [i64 lo] 0, .rop [i64 hi] 0] (.bool (decide (n < lo) || decide (hi < n))) := by
  refine pure_of_body Try.func91 (c := body Try.f91) rfl (by simp [Try.ntmps91]) fun w0 Φ0 => ?_
  refine W_seq rfl ?_
  refine W_reg rfl ?_
  refine Rv rfl rfl rfl (U_assign rfl) rfl rfl ?_
  refine Re rfl ?_
  refine thenQ_n ?_
  refine W_seq rfl ?_
  refine Wjoin ⟨[(4, .bool ((decide (n < lo)) || (decide (hi < n))))], [], 0, []⟩ ?_ ?_
  · refine W_reg rfl ?_
    refine Rv rfl rfl rfl (U_move rfl) rfl rfl ?_
    refine Rv rfl rfl rfl (U_load1 rfl rfl rfl) rfl rfl ?_
    refine Rv rfl rfl rfl (U_lss rfl rfl) rfl rfl ?_
    refine Rv rfl rfl rfl (U_move rfl) rfl rfl ?_
    refine Rsplit (t := 8) rfl (fun hg1 => ?_) (fun hg1 => ?_)
    · rw [hg1]
      have hg1' : n < lo := of_decide_eq_true hg1
      refine Rs rfl rfl rfl rfl rfl ?_
      refine Rs rfl rfl rfl rfl rfl ?_
      refine Rs rfl rfl rfl rfl rfl ?_
      refine Rv rfl rfl rfl (U_pick_t rfl rfl) rfl rfl ?_
      refine Rv rfl rfl rfl (U_assign rfl) rfl rfl ?_
      refine Re rfl ?_
      exact joinTo id ⟨eD rfl rfl, trivial⟩ trivial rfl rfl rfl rfl (fun _ _ => rfl)
    · rw [hg1]
      have hg1' : ¬ (n < lo) := of_decide_eq_false hg1
      refine Rv rfl rfl rfl (U_move rfl) rfl rfl ?_
      refine Rv rfl rfl rfl (U_load1 rfl rfl rfl) rfl rfl ?_
      refine Rv rfl rfl rfl (U_gtr rfl rfl) rfl rfl ?_
      refine Rv rfl rfl rfl (U_pick_f rfl rfl) rfl rfl ?_
      refine Rv rfl rfl rfl (U_assign rfl) rfl rfl ?_
      refine Re rfl ?_
      exact joinTo id ⟨eD rfl rfl, trivial⟩ trivial rfl rfl rfl rfl (fun _ _ => rfl)
  refine thenQ_n ?_
  refine W_ret rfl ?_
  exact retL (rlT rfl rl0) rfl rfl
theorem idxInt_p {f : FuncId} [FnOk Try.prog f] {ca : List AV} (hca : dataL ca) (p : Int → Bool) (l : List Int) (c : Option Nat) (hl : l.length ≤ 1000000) (hp : ∀ x ∈ l, Pure Try.prog f (i64 x :: ca) (.bool (p x))) : Pure Try.prog 93 [intsA l c, .fn f [] ca] (i64 (idxI p l)) := by
  refine pure_of_body Try.func93 (c := body Try.f93) rfl (by simp [Try.ntmps93]) fun w0 Φ0 => ?_
  refine W_seq rfl ?_
  refine W_reg rfl ?_
  refine Rv rfl rfl rfl (U_assign rfl) rfl rfl ?_
  refine Re rfl ?_
  refine thenQ_n ?_
  refine W_seq rfl ?_
  refine W_seq rfl ?_
  refine W_reg rfl ?_
  refine Rv rfl rfl rfl (U_move rfl) rfl rfl ?_
  refine Rv rfl rfl rfl (U_lenOf rfl len_ros) rfl rfl ?_
  refine Rv rfl rfl rfl (U_move rfl) rfl rfl ?_
  refine Re rfl ?_
  refine thenQ_n ?_
  refine W_block rfl ?_
  refine LoopTo (T' := [(0, .ros (l.map i64) l.length c), (1, .fn f [] ca), (7, i64 ((l.length : Nat) : Int)), (8, i64 ((0 : Nat) : Int))]) (H' := []) (n := 0) rfl (fun mz_ qz_ => ∃ (k : Nat), k ≤ l.length ∧ (∀ j (hj : j < l.length), j < k → p l[j] = false) ∧ mz_ = l.length - k ∧ qz_ = ⟨[(0, .ros (l.map i64) l.length c), (1, .fn f [] ca), (7, i64 ((l.length : Nat) : Int)), (8, i64 ((k : Nat) : Int))], [], 0, []⟩) ⟨0, (by omega), (fun j hj h => absurd h (Nat.not_lt_zero _)), rfl, rfl⟩ id ⟨eD rfl rfl, eD rfl (fnD hca), eD rfl rfl, eD rfl rfl, trivial⟩ trivial rfl rfl rfl rfl (fun _ _ => rfl) ?_
  rintro _ _ ⟨k, hi0_0, hi0_1, rfl, rfl⟩
  refine W_seq rfl ?_
  refine W_reg rfl ?_
  refine Rv rfl rfl rfl (U_lss rfl rfl) rfl rfl ?_
  refine Re rfl ?_
  refine thenQ_n ?_
  refine W_seq rfl ?_
  refine WcondP rfl rfl (fun hc0 => ?_) (fun hc0 => ?_)
  · have hck : k < l.length := by omega
    refine W_skip rfl ?_
    refine thenQ_n ?_
    refine W_seq rfl ?_
    refine W_block rfl ?_
    refine W_seq rfl ?_
    refine W_reg rfl ?_
    refine Rv rfl rfl rfl (U_move rfl) rfl rfl ?_
    refine Rv rfl rfl rfl (U_assign rfl) rfl rfl ?_
    refine Re rfl ?_
    refine thenQ_n ?_
    refine W_seq rfl ?_
    refine W_reg rfl ?_
    refine Rv rfl rfl rfl (U_move rfl) rfl rfl ?_
    refine Rv rfl rfl rfl (U_move rfl) rfl rfl ?_
    refine Rv rfl rfl rfl (U_move rfl) rfl rfl ?_
    have hx1 : k < l.length := by omega
    refine Rv rfl rfl rfl (U_indexR (j := k) rfl rfl rfl hx1) rfl rfl ?_
    refine Rv rfl rfl rfl (U_load1 rfl rfl (getM hx1)) rfl rfl ?_
    refine Rv rfl rfl rfl (U_call rfl rfl (hp _ (List.getElem_mem hck)) (dataL_cons.2 ⟨rfl, hca⟩)) rfl rfl ?_
    refine Re rfl ?_
    refine thenQ_n ?_
    refine Wcond rfl rfl (fun hc1 => ?_) (fun hc1 => ?_)
    · refine W_seq rfl ?_
      refine W_reg rfl ?_
      refine Rv rfl rfl rfl (U_move rfl) rfl rfl ?_
      refine Rv rfl rfl rfl (U_assign rfl) rfl rfl ?_
      refine Re rfl ?_
      refine thenQ_n ?_
      refine W_ret rfl ?_
      refine blkQ_r ?_
      refine thenQ_r ?_
      refine thenQ_r ?_
      refine blkQ_r ?_
      refine thenQ_r ?_
      exact retL (rlT rfl rl0) (by first | rfl | (simp only [packA]; rw [idx_hit hck hi0_1 hc1]; first | done | rfl) | (simp only [packA]; rw [idx_end fun j hj => hi0_1 j hj (by omega)]; first | done | rfl)) rfl
    · have hc1' := Bool.eq_false_iff.1 hc1
      refine W_skip rfl ?_
      refine blkQ_n ?_
      refine thenQ_n ?_
      refine W_reg rfl ?_
      refine Rv rfl rfl rfl (U_add rfl rfl (w64e (m := ((k + 1 : Nat) : Int)) (by omega) (by omega) (by omega))) rfl rfl ?_
      refine Rv rfl rfl rfl (U_move rfl) rfl rfl ?_
      refine Re rfl ?_
      refine thenQ_n ?_
      exact againTo (T' := [(0, .ros (l.map i64) l.length c), (1, .fn f [] ca), (7, i64 ((l.length : Nat) : Int)), (8, i64 (((k + 1) : Nat) : Int))]) (H' := []) (n := 0) (l.length - (k + 1)) ⟨k + 1, (by omega), (by intro j hj h; rcases Nat.lt_succ_iff_lt_or_eq.1 h with h | rfl; exact hi0_1 j hj h; simpa using hc1), rfl, rfl⟩ (by omega) id ⟨eD rfl rfl, eD rfl (fnD hca), eD rfl rfl, eD rfl rfl, trivial⟩ trivial rfl rfl rfl rfl (fun _ _ => rfl)
  · refine W_exit rfl ?_
    refine thenQ_x ?_
    refine thenQ_x ?_
    refine blkQ_x rfl ?_
    refine thenQ_n ?_
    refine W_seq rfl ?_
    refine W_reg rfl ?_
    refine Rv rfl rfl rfl (U_assign rfl) rfl rfl ?_
    refine Re rfl ?_
    refine thenQ_n ?_
    refine W_ret rfl ?_
    exact retL (rlT rfl rl0) (by first | rfl | (simp only [packA]; rw [idx_hit hck hi0_1 hc1]; first | done | rfl) | (simp only [packA]; rw [idx_end fun j hj => hi0_1 j hj (by omega)]; first | done | rfl)) rfl
theorem anyInt_p {f : FuncId} [FnOk Try.prog f] {ca : List AV} (hca : dataL ca) (p : Int → Bool) (l : List Int) (c : Option Nat) (hl : l.length ≤ 1000000) (hp : ∀ x ∈ l, Pure Try.prog f (i64 x :: ca) (.bool (p x))) : Pure Try.prog 76 [intsA l c, .fn f [] ca] (.bool (l.any p)) := by
  refine pure_of_body Try.func76 (c := body Try.f76) rfl (by simp [Try.ntmps76]) fun w0 Φ0 => ?_
  refine W_seq rfl ?_
  refine W_reg rfl ?_
  refine Rv rfl rfl rfl (U_assign rfl) rfl rfl ?_
  refine Re rfl ?_
  refine thenQ_n ?_
  refine W_seq rfl ?_
  refine W_reg rfl ?_
  refine Rv rfl rfl rfl (U_move rfl) rfl rfl ?_
  refine Rv rfl rfl rfl (U_move rfl) rfl rfl ?_
  refine Rv rfl rfl rfl (U_call rfl rfl (idxInt_p hca p l c hl hp) (dataL_cons.2 ⟨rfl, dataL_cons.2 ⟨fnD hca, rfl⟩⟩)) rfl rfl ?_
  refine Rv rfl rfl rfl (U_geq rfl rfl) rfl rfl ?_
  refine Rv rfl rfl rfl (U_assign rfl) rfl rfl ?_
  refine Re rfl ?_
  refine thenQ_n ?_
  refine W_ret rfl ?_
  exact retL (rlT rfl rl0) (by first | rfl | (simp only [packA]; rw [← idx_any]; first | done | rfl)) rfl
theorem within_p (lo hi : Int) (l : List Int) (c : Option Nat) (hl : l.length ≤ 1000000) : Pure Try.prog 65 [i64 lo, i64 hi, intsA l c] (.bool (inL lo hi l)) := by
  refine pure_of_body Try.func65 (c := body Try.f65) rfl (by simp [Try.ntmps65]) fun w0 Φ0 => ?_
  refine W_seq rfl ?_
  refine W_reg rfl ?_
  refine Rv rfl rfl rfl (U_boxF rfl rfl rfl) rfl rfl ?_
  refine Rv rfl rfl rfl (U_boxF rfl rfl rfl) rfl rfl ?_
  refine Rv rfl rfl rfl (U_assign rfl) rfl rfl ?_
  refine Re rfl ?_
  refine thenQ_n ?_
  refine W_seq rfl ?_
  refine W_reg rfl ?_
  refine Rv rfl rfl rfl (U_move rfl) rfl rfl ?_
  refine Rv rfl rfl rfl (U_makeFunc rfl rfl) rfl rfl ?_
  refine Rv rfl rfl rfl (U_call rfl rfl (anyInt_p (f := 91) (ca := [.rop [i64 lo] 0, .rop [i64 hi] 0]) rfl (fun n => decide (n < lo) || decide (hi < n)) l c hl (fun x _ => out_p x lo hi)) rfl) rfl rfl ?_
  refine Rv rfl rfl rfl (U_not rfl) rfl rfl ?_
  refine Rv rfl rfl rfl (U_assign rfl) rfl rfl ?_
  refine Re rfl ?_
  refine thenQ_n ?_
  refine W_ret rfl ?_
  exact retL (rlT rfl rl0) (by first | rfl | (simp only [packA]; rw [inL_any]; first | done | rfl)) rfl
theorem index_p (l : List Int) (x : Int) (c : Option Nat) (hl : l.length ≤ 1000000) : Pure Try.prog 92 [intsA l c, i64 x] (i64 (idxI (fun y => decide (x = y)) l)) := by
  refine pure_of_body Try.func92 (c := body Try.f92) rfl (by simp [Try.ntmps92]) fun w0 Φ0 => ?_
  refine W_seq rfl ?_
  refine W_reg rfl ?_
  refine Rv rfl rfl rfl (U_assign rfl) rfl rfl ?_
  refine Re rfl ?_
  refine thenQ_n ?_
  refine W_seq rfl ?_
  refine W_seq rfl ?_
  refine W_reg rfl ?_
  refine Rv rfl rfl rfl (U_move rfl) rfl rfl ?_
  refine Rv rfl rfl rfl (U_lenOf rfl len_ros) rfl rfl ?_
  refine Rv rfl rfl rfl (U_move rfl) rfl rfl ?_
  refine Re rfl ?_
  refine thenQ_n ?_
  refine W_block rfl ?_
  refine LoopTo (T' := [(0, .ros (l.map i64) l.length c), (1, i64 x), (7, i64 ((l.length : Nat) : Int)), (8, i64 ((0 : Nat) : Int))]) (H' := []) (n := 0) rfl (fun mz_ qz_ => ∃ (k : Nat), k ≤ l.length ∧ (∀ j (hj : j < l.length), j < k → decide (x = l[j]) = false) ∧ mz_ = l.length - k ∧ qz_ = ⟨[(0, .ros (l.map i64) l.length c), (1, i64 x), (7, i64 ((l.length : Nat) : Int)), (8, i64 ((k : Nat) : Int))], [], 0, []⟩) ⟨0, (by omega), (fun j hj h => absurd h (Nat.not_lt_zero _)), rfl, rfl⟩ id ⟨eD rfl rfl, eD rfl rfl, eD rfl rfl, eD rfl rfl, trivial⟩ trivial rfl rfl rfl rfl (fun _ _ => rfl) ?_
  rintro _ _ ⟨k, hi0_0, hi0_1, rfl, rfl⟩
  refine W_seq rfl ?_
  refine W_reg rfl ?_
  refine Rv rfl rfl rfl (U_lss rfl rfl) rfl rfl ?_
  refine Re rfl ?_
  refine thenQ_n ?_
  refine W_seq rfl ?_
  refine WcondP rfl rfl (fun hc0 => ?_) (fun hc0 => ?_)
  · have hck : k < l.length := by omega
    refine W_skip rfl ?_
    refine thenQ_n ?_
    refine W_seq rfl ?_
    refine W_block rfl ?_
    refine W_seq rfl ?_
    refine W_reg rfl ?_
    refine Rv rfl rfl rfl (U_move rfl) rfl rfl ?_
    refine Rv rfl rfl rfl (U_assign rfl) rfl rfl ?_
    refine Re rfl ?_
    refine thenQ_n ?_
    refine W_seq rfl ?_
    refine W_reg rfl ?_
    refine Rv rfl rfl rfl (U_move rfl) rfl rfl ?_
    refine Rv rfl rfl rfl (U_move rfl) rfl rfl ?_
    refine Rv rfl rfl rfl (U_move rfl) rfl rfl ?_
    have hx1 : k < l.length := by omega
    refine Rv rfl rfl rfl (U_indexR (j := k) rfl rfl rfl hx1) rfl rfl ?_
    refine Rv rfl rfl rfl (U_load1 rfl rfl (getM hx1)) rfl rfl ?_
    refine Rv rfl rfl rfl (U_eql rfl rfl) rfl rfl ?_
    refine Re rfl ?_
    refine thenQ_n ?_
    refine WcondP rfl rfl (fun hc1 => ?_) (fun hc1 => ?_)
    · refine W_seq rfl ?_
      refine W_reg rfl ?_
      refine Rv rfl rfl rfl (U_move rfl) rfl rfl ?_
      refine Rv rfl rfl rfl (U_assign rfl) rfl rfl ?_
      refine Re rfl ?_
      refine thenQ_n ?_
      refine W_ret rfl ?_
      refine blkQ_r ?_
      refine thenQ_r ?_
      refine thenQ_r ?_
      refine blkQ_r ?_
      refine thenQ_r ?_
      exact retL (rlT rfl rl0) (by first | rfl | (simp only [packA]; rw [idx_hit (p := fun y => decide (x = y)) hck hi0_1 (by simpa using hc1)]; first | done | rfl) | (simp only [packA]; rw [idx_end (p := fun y => decide (x = y)) fun j hj => hi0_1 j hj (by omega)]; first | done | rfl)) rfl
    · refine W_skip rfl ?_
      refine blkQ_n ?_
      refine thenQ_n ?_
      refine W_reg rfl ?_
      refine Rv rfl rfl rfl (U_add rfl rfl (w64e (m := ((k + 1 : Nat) : Int)) (by omega) (by omega) (by omega))) rfl rfl ?_
      refine Rv rfl rfl rfl (U_move rfl) rfl rfl ?_
      refine Re rfl ?_
      refine thenQ_n ?_
      exact againTo (T' := [(0, .ros (l.map i64) l.length c), (1, i64 x), (7, i64 ((l.length : Nat) : Int)), (8, i64 (((k + 1) : Nat) : Int))]) (H' := []) (n := 0) (l.length - (k + 1)) ⟨k + 1, (by omega), (by intro j hj h; rcases Nat.lt_succ_iff_lt_or_eq.1 h with h | rfl; exact hi0_1 j hj h; simpa using hc1), rfl, rfl⟩ (by omega) id ⟨eD rfl rfl, eD rfl rfl, eD rfl rfl, eD rfl rfl, trivial⟩ trivial rfl rfl rfl rfl (fun _ _ => rfl)
  · refine W_exit rfl ?_
    refine thenQ_x ?_
    refine thenQ_x ?_
    refine blkQ_x rfl ?_
    refine thenQ_n ?_
    refine W_seq rfl ?_
    refine W_reg rfl ?_
    refine Rv rfl rfl rfl (U_assign rfl) rfl rfl ?_
    refine Re rfl ?_
    refine thenQ_n ?_
    refine W_ret rfl ?_
    exact retL (rlT rfl rl0) (by first | rfl | (simp only [packA]; rw [idx_hit (p := fun y => decide (x = y)) hck hi0_1 (by simpa using hc1)]; first | done | rfl) | (simp only [packA]; rw [idx_end (p := fun y => decide (x = y)) fun j hj => hi0_1 j hj (by omega)]; first | done | rfl)) rfl
theorem contains_p (l : List Int) (x : Int) (c : Option Nat) (hl : l.length ≤ 1000000) : Pure Try.prog 75 [intsA l c, i64 x] (.bool (l.any fun y => decide (x = y))) := by
  refine pure_of_body Try.func75 (c := body Try.f75) rfl (by simp [Try.ntmps75]) fun w0 Φ0 => ?_
  refine W_seq rfl ?_
  refine W_reg rfl ?_
  refine Rv rfl rfl rfl (U_assign rfl) rfl rfl ?_
  refine Re rfl ?_
  refine thenQ_n ?_
  refine W_seq rfl ?_
  refine W_reg rfl ?_
  refine Rv rfl rfl rfl (U_move rfl) rfl rfl ?_
  refine Rv rfl rfl rfl (U_move rfl) rfl rfl ?_
  refine Rv rfl rfl rfl (U_call rfl rfl (index_p l x c (by first | assumption | omega)) rfl) rfl rfl ?_
  refine Rv rfl rfl rfl (U_geq rfl rfl) rfl rfl ?_
  refine Rv rfl rfl rfl (U_assign rfl) rfl rfl ?_
  refine Re rfl ?_
  refine thenQ_n ?_
  refine W_ret rfl ?_
  exact retL (rlT rfl rl0) (by first | rfl | (simp only [packA]; rw [← idx_any]; first | done | rfl)) rfl
theorem equal_p (a b : List Int) (c d : Option Nat) (ha : a.length ≤ 1000000) (hb : b.length ≤ 1000000) : Pure Try.prog 63 [intsA a c, intsA b d] (.bool (decide (a = b))) := by
  refine pure_of_body Try.func63 (c := body Try.f63) rfl (by simp [Try.ntmps63]) fun w0 Φ0 => ?_
  refine W_seq rfl ?_
  refine W_reg rfl ?_
  refine Rv rfl rfl rfl (U_assign rfl) rfl rfl ?_
  refine Re rfl ?_
  refine thenQ_n ?_
  refine W_seq rfl ?_
  refine W_seq rfl ?_
  refine W_reg rfl ?_
  refine Rv rfl rfl rfl (U_move rfl) rfl rfl ?_
  refine Rv rfl rfl rfl (U_lenOf rfl len_ros) rfl rfl ?_
  refine Rv rfl rfl rfl (U_move rfl) rfl rfl ?_
  refine Rv rfl rfl rfl (U_lenOf rfl len_ros) rfl rfl ?_
  refine Rv rfl rfl rfl (U_neq rfl rfl) rfl rfl ?_
  refine Re rfl ?_
  refine thenQ_n ?_
  refine WcondP rfl rfl (fun hc0 => ?_) (fun hc0 => ?_)
  · refine W_seq rfl ?_
    refine W_reg rfl ?_
    refine Rv rfl rfl rfl (U_assign rfl) rfl rfl ?_
    refine Re rfl ?_
    refine thenQ_n ?_
    refine W_ret rfl ?_
    refine thenQ_r ?_
    exact retL (rlT rfl rl0) (by first | rfl | (simp only [packA]; congr 1; symm; simp only [decide_eq_false_iff_not]; rintro rfl; exact hc0 rfl; first | done | rfl) | (simp only [packA]; congr 1; symm; simp only [decide_eq_false_iff_not]; exact list_ne hck hck2 hc2; first | done | rfl) | (simp only [packA]; congr 1; symm; simp only [decide_eq_true_eq]; exact list_eq hlen fun j h1 h2 => hi0_1 j h1 h2 (by omega); first | done | rfl)) rfl
  · rw [Decidable.not_not] at hc0
    have hlen : a.length = b.length := by omega
    refine W_skip rfl ?_
    refine thenQ_n ?_
    refine W_seq rfl ?_
    refine W_seq rfl ?_
    refine W_reg rfl ?_
    refine Rv rfl rfl rfl (U_move rfl) rfl rfl ?_
    refine Rv rfl rfl rfl (U_lenOf rfl len_ros) rfl rfl ?_
    refine Rv rfl rfl rfl (U_move rfl) rfl rfl ?_
    refine Re rfl ?_
    refine thenQ_n ?_
    refine W_block rfl ?_
    refine LoopTo (T' := [(0, .ros (a.map i64) a.length c), (1, .ros (b.map i64) b.length d), (12, i64 ((a.length : Nat) : Int)), (13, i64 ((0 : Nat) : Int))]) (H' := []) (n := 0) rfl (fun mz_ qz_ => ∃ (k : Nat), k ≤ a.length ∧ (∀ j (h1 : j < a.length) (h2 : j < b.length), j < k → a[j] = b[j]) ∧ mz_ = a.length - k ∧ qz_ = ⟨[(0, .ros (a.map i64) a.length c), (1, .ros (b.map i64) b.length d), (12, i64 ((a.length : Nat) : Int)), (13, i64 ((k : Nat) : Int))], [], 0, []⟩) ⟨0, (by omega), (fun j h1 h2 h => absurd h (Nat.not_lt_zero _)), rfl, rfl⟩ id ⟨eD rfl rfl, eD rfl rfl, eD rfl rfl, eD rfl rfl, trivial⟩ trivial rfl rfl rfl rfl (fun _ _ => rfl) ?_
    rintro _ _ ⟨k, hi0_0, hi0_1, rfl, rfl⟩
    refine W_seq rfl ?_
    refine W_reg rfl ?_
    refine Rv rfl rfl rfl (U_lss rfl rfl) rfl rfl ?_
    refine Re rfl ?_
    refine thenQ_n ?_
    refine W_seq rfl ?_
    refine WcondP rfl rfl (fun hc1 => ?_) (fun hc1 => ?_)
    · have hck : k < a.length := by omega
      have hck2 : k < b.length := by omega
      refine W_skip rfl ?_
      refine thenQ_n ?_
      refine W_seq rfl ?_
      refine W_block rfl ?_
      refine W_seq rfl ?_
      refine W_reg rfl ?_
      refine Rv rfl rfl rfl (U_move rfl) rfl rfl ?_
      refine Rv rfl rfl rfl (U_assign rfl) rfl rfl ?_
      refine Re rfl ?_
      refine thenQ_n ?_
      refine W_seq rfl ?_
      refine Wdraw rfl (by kernel_rfl) (by kernel_rfl) ?_
      refine Dv rfl rfl rfl (U_move rfl) rfl rfl ?_
      refine Dv rfl rfl rfl (U_move rfl) rfl rfl ?_
      have hx1 : k < a.length := by omega
      refine Dv rfl rfl rfl (U_indexR (j := k) rfl rfl rfl hx1) rfl rfl ?_
      refine Dv rfl rfl rfl (U_load1 rfl rfl (getM hx1)) rfl rfl ?_
      refine Dv rfl rfl rfl (U_move rfl) rfl rfl ?_
      refine Dv rfl rfl rfl (U_move rfl) rfl rfl ?_
      have hx2 : k < b.length := by omega
      refine Dv rfl rfl rfl (U_indexR (j := k) rfl rfl rfl hx2) rfl rfl ?_
      refine Dv rfl rfl rfl (U_load1 rfl rfl (getM hx2)) rfl rfl ?_
      refine Dv rfl rfl rfl (U_neq rfl rfl) rfl rfl ?_
      refine Dr.nil rfl ?_
      refine thenQ_n ?_
      refine WcondP rfl rfl (fun hc2 => ?_) (fun hc2 => ?_)
      · refine W_seq rfl ?_
        refine W_reg rfl ?_
        refine Rv rfl rfl rfl (U_assign rfl) rfl rfl ?_
        refine Re rfl ?_
        refine thenQ_n ?_
        refine W_ret rfl ?_
        refine blkQ_r ?_
        refine thenQ_r ?_
        refine thenQ_r ?_
        refine blkQ_r ?_
        refine thenQ_r ?_
        exact retL (rlT rfl rl0) (by first | rfl | (simp only [packA]; congr 1; symm; simp only [decide_eq_false_iff_not]; rintro rfl; exact hc0 rfl; first | done | rfl) | (simp only [packA]; congr 1; symm; simp only [decide_eq_false_iff_not]; exact list_ne hck hck2 hc2; first | done | rfl) | (simp only [packA]; congr 1; symm; simp only [decide_eq_true_eq]; exact list_eq hlen fun j h1 h2 => hi0_1 j h1 h2 (by omega); first | done | rfl)) rfl
      · rw [Decidable.not_not] at hc2
        refine W_skip rfl ?_
        refine blkQ_n ?_
        refine thenQ_n ?_
        refine W_reg rfl ?_
        refine Rv rfl rfl rfl (U_add rfl rfl (w64e (m := ((k + 1 : Nat) : Int)) (by omega) (by omega) (by omega))) rfl rfl ?_
        refine Rv rfl rfl rfl (U_move rfl) rfl rfl ?_
        refine Re rfl ?_
        refine thenQ_n ?_
        exact againTo (T' := [(0, .ros (a.map i64) a.length c), (1, .ros (b.map i64) b.length d), (12, i64 ((a.length : Nat) : Int)), (13, i64 (((k + 1) : Nat) : Int))]) (H' := []) (n := 0) (a.length - (k + 1)) ⟨k + 1, (by omega), (by intro j h1 h2 h; rcases Nat.lt_succ_iff_lt_or_eq.1 h with h | rfl; exact hi0_1 j h1 h2 h; simpa using hc2), rfl, rfl⟩ (by omega) id ⟨eD rfl rfl, eD rfl rfl, eD rfl rfl, eD rfl rfl, trivial⟩ trivial rfl rfl rfl rfl (fun _ _ => rfl)
    · refine W_exit rfl ?_
      refine thenQ_x ?_
      refine thenQ_x ?_
      refine blkQ_x rfl ?_
      refine thenQ_n ?_
      refine W_seq rfl ?_
      refine W_reg rfl ?_
      refine Rv rfl rfl rfl (U_assign rfl) rfl rfl ?_
      refine Re rfl ?_
      refine thenQ_n ?_
      refine W_ret rfl ?_
      exact retL (rlT rfl rl0) (by first | rfl | (simp only [packA]; congr 1; symm; simp only [decide_eq_false_iff_not]; rintro rfl; exact hc0 rfl; first | done | rfl) | (simp only [packA]; congr 1; symm; simp only [decide_eq_false_iff_not]; exact list_ne hck hck2 hc2; first | done | rfl) | (simp only [packA]; congr 1; symm; simp only [decide_eq_true_eq]; exact list_eq hlen fun j h1 h2 => hi0_1 j h1 h2 (by omega); first | done | rfl)) rfl
theorem same_p (a b : List Int) (c d : Option Nat) (ha : a.length ≤ 1000000) (hb : b.length ≤ 1000000) : Pure Try.prog 66 [intsA a c, intsA b d] (.bool (decide (a = b))) := by
  refine pure_of_body Try.func66 (c := body Try.f66) rfl (by simp [Try.ntmps66]) fun w0 Φ0 => ?_
  refine W_seq rfl ?_
  refine W_reg rfl ?_
  refine Rv rfl rfl rfl (U_assign rfl) rfl rfl ?_
  refine Re rfl ?_
  refine thenQ_n ?_
  refine W_seq rfl ?_
  refine W_seq rfl ?_
  refine W_reg rfl ?_
  refine Rv rfl rfl rfl (U_move rfl) rfl rfl ?_
  refine Rv rfl rfl rfl (U_lenOf rfl len_ros) rfl rfl ?_
  refine Rv rfl rfl rfl (U_move rfl) rfl rfl ?_
  refine Rv rfl rfl rfl (U_lenOf rfl len_ros) rfl rfl ?_
  refine Rv rfl rfl rfl (U_neq rfl rfl) rfl rfl ?_
  refine Re rfl ?_
  refine thenQ_n ?_
  refine WcondP rfl rfl (fun hc0 => ?_) (fun hc0 => ?_)
  · refine W_seq rfl ?_
    refine W_reg rfl ?_
    refine Rv rfl rfl rfl (U_assign rfl) rfl rfl ?_
    refine Re rfl ?_
    refine thenQ_n ?_
    refine W_ret rfl ?_
    refine thenQ_r ?_
    exact retL (rlT rfl rl0) (by first | rfl | (simp only [packA]; congr 1; symm; simp only [decide_eq_false_iff_not]; rintro rfl; exact hc0 rfl; first | done | rfl) | (simp only [packA]; congr 1; symm; simp only [decide_eq_false_iff_not]; exact list_ne hck hck2 hc2; first | done | rfl) | (simp only [packA]; congr 1; symm; simp only [decide_eq_true_eq]; exact list_eq hlen fun j h1 h2 => hi0_1 j h1 h2 (by omega); first | done | rfl)) rfl
  · rw [Decidable.not_not] at hc0
    have hlen : a.length = b.length := by omega
    refine W_skip rfl ?_
    refine thenQ_n ?_
    refine W_seq rfl ?_
    refine W_seq rfl ?_
    refine W_reg rfl ?_
    refine Rv rfl rfl rfl (U_assign rfl) rfl rfl ?_
    refine Re rfl ?_
    refine thenQ_n ?_
    refine W_block rfl ?_
    refine LoopTo (T' := [(0, .ros (a.map i64) a.length c), (1, .ros (b.map i64) b.length d), (5, i64 ((0 : Nat) : Int))]) (H' := []) (n := 0) rfl (fun mz_ qz_ => ∃ (k : Nat), k ≤ a.length ∧ (∀ j (h1 : j < a.length) (h2 : j < b.length), j < k → a[j] = b[j]) ∧ mz_ = a.length - k ∧ qz_ = ⟨[(0, .ros (a.map i64) a.length c), (1, .ros (b.map i64) b.length d), (5, i64 ((k : Nat) : Int))], [], 0, []⟩) ⟨0, (by omega), (fun j h1 h2 h => absurd h (Nat.not_lt_zero _)), rfl, rfl⟩ id ⟨eD rfl rfl, eD rfl rfl, eD rfl rfl, trivial⟩ trivial rfl rfl rfl rfl (fun _ _ => rfl) ?_
    rintro _ _ ⟨k, hi0_0, hi0_1, rfl, rfl⟩
    refine W_seq rfl ?_
    refine W_seq rfl ?_
    refine W_reg rfl ?_
    refine Rv rfl rfl rfl (U_move rfl) rfl rfl ?_
    refine Rv rfl rfl rfl (U_move rfl) rfl rfl ?_
    refine Rv rfl rfl rfl (U_lenOf rfl len_ros) rfl rfl ?_
    refine Rv rfl rfl rfl (U_lss rfl rfl) rfl rfl ?_
    refine Re rfl ?_
    refine thenQ_n ?_
    refine WcondP rfl rfl (fun hc1 => ?_) (fun hc1 => ?_)
    · have hck : k < a.length := by omega
      have hck2 : k < b.length := by omega
      refine W_skip rfl ?_
      refine thenQ_n ?_
      refine W_seq rfl ?_
      refine W_block rfl ?_
      refine W_seq rfl ?_
      refine Wdraw rfl (by kernel_rfl) (by kernel_rfl) ?_
      refine Dv rfl rfl rfl (U_move rfl) rfl rfl ?_
      refine Dv rfl rfl rfl (U_move rfl) rfl rfl ?_
      have hx1 : k < a.length := by omega
      refine Dv rfl rfl rfl (U_indexR (j := k) rfl rfl rfl hx1) rfl rfl ?_
      refine Dv rfl rfl rfl (U_load1 rfl rfl (getM hx1)) rfl rfl ?_
      refine Dv rfl rfl rfl (U_move rfl) rfl rfl ?_
      refine Dv rfl rfl rfl (U_move rfl) rfl rfl ?_
      have hx2 : k < b.length := by omega
      refine Dv rfl rfl rfl (U_indexR (j := k) rfl rfl rfl hx2) rfl rfl ?_
      refine Dv rfl rfl rfl (U_load1 rfl rfl (getM hx2)) rfl rfl ?_
      refine Dv rfl rfl rfl (U_neq rfl rfl) rfl rfl ?_
      refine Dr.nil rfl ?_
      refine thenQ_n ?_
      refine WcondP rfl rfl (fun hc2 => ?_) (fun hc2 => ?_)
      · refine W_seq rfl ?_
        refine W_reg rfl ?_
        refine Rv rfl rfl rfl (U_assign rfl) rfl rfl ?_
        refine Re rfl ?_
        refine thenQ_n ?_
        refine W_ret rfl ?_
        refine blkQ_r ?_
        refine thenQ_r ?_
        refine thenQ_r ?_
        refine blkQ_r ?_
        refine thenQ_r ?_
        exact retL (rlT rfl rl0) (by first | rfl | (simp only [packA]; congr 1; symm; simp only [decide_eq_false_iff_not]; rintro rfl; exact hc0 rfl; first | done | rfl) | (simp only [packA]; congr 1; symm; simp only [decide_eq_false_iff_not]; exact list_ne hck hck2 hc2; first | done | rfl) | (simp only [packA]; congr 1; symm; simp only [decide_eq_true_eq]; exact list_eq hlen fun j h1 h2 => hi0_1 j h1 h2 (by omega); first | done | rfl)) rfl
      · rw [Decidable.not_not] at hc2
        refine W_skip rfl ?_
        refine blkQ_n ?_
        refine thenQ_n ?_
        refine W_reg rfl ?_
        refine Rv rfl rfl rfl (U_move rfl) rfl rfl ?_
        refine Rv rfl rfl rfl (U_add rfl rfl (w64e (m := ((k + 1 : Nat) : Int)) (by omega) (by omega) (by omega))) rfl rfl ?_
        refine Rv rfl rfl rfl (U_assign rfl) rfl rfl ?_
        refine Re rfl ?_
        refine thenQ_n ?_
        exact againTo (T' := [(0, .ros (a.map i64) a.length c), (1, .ros (b.map i64) b.length d), (5, i64 (((k + 1) : Nat) : Int))]) (H' := []) (n := 0) (a.length - (k + 1)) ⟨k + 1, (by omega), (by intro j h1 h2 h; rcases Nat.lt_succ_iff_lt_or_eq.1 h with h | rfl; exact hi0_1 j h1 h2 h; simpa using hc2), rfl, rfl⟩ (by omega) id ⟨eD rfl rfl, eD rfl rfl, eD rfl rfl, trivial⟩ trivial rfl rfl rfl rfl (fun _ _ => rfl)
    · refine W_exit rfl ?_
      refine thenQ_x ?_
      refine thenQ_x ?_
      refine blkQ_x rfl ?_
      refine thenQ_n ?_
      refine W_seq rfl ?_
      refine W_reg rfl ?_
      refine Rv rfl rfl rfl (U_assign rfl) rfl rfl ?_
      refine Re rfl ?_
      refine thenQ_n ?_
      refine W_ret rfl ?_
      exact retL (rlT rfl rl0) (by first | rfl | (simp only [packA]; congr 1; symm; simp only [decide_eq_false_iff_not]; rintro rfl; exact hc0 rfl; first | done | rfl) | (simp only [packA]; congr 1; symm; simp only [decide_eq_false_iff_not]; exact list_ne hck hck2 hc2; first | done | rfl) | (simp only [packA]; congr 1; symm; simp only [decide_eq_true_eq]; exact list_eq hlen fun j h1 h2 => hi0_1 j h1 h2 (by omega); first | done | rfl)) rfl
end Go.Proofs.Ythoodfiacfmhgaa
end

section
/- Contracts of package plate: which plates and kinds are valid, motions after one another. -/
namespace Go.Proofs.Ythoodfiacfmhgaa
set_option maxRecDepth 20000
open Go.AE
/-- A plate. -/
structure Pl where
  n : Int
  ds : List Int
  deriving DecidableEq
abbrev plA (p : Pl) (c : Option Nat) : AV := .agg [i64 p.n, intsA p.ds c]
abbrev spotA (p : Int × Int) : AV := .agg [i64 p.1, i64 p.2]
def isMo (m : Int) : Bool := decide (0 ≤ m) && decide (m < 8)
/-- The error of a plate. -/
def chkP (p : Pl) : Int := if inL 1 8 [p.n] = false then 6 else if (p.ds.length : Int) ≠ p.n * p.n then 15 else if inL 0 3 p.ds = false then 3 else 0
/-- Whether kinds are as described, from a number on. -/
def okK : Int → List Int → Bool
  | _, [] => true
  | nx, k :: l => inL nx 7 [k] && okK (k + 1) l
def chkK (ks : List Int) : Int := if okK 0 ks = true then 0 else 3
/-- A motion after one. -/
def aft (a b : Int) : Int := (if 4 ≤ b then b % 4 - a % 4 + 4 else a % 4 + b % 4) % 4 + (a / 4 + b / 4) % 2 * 4
def invM (m : Int) : Int := if 4 ≤ m then m else (4 - m) % 4
/-- The error of a plate, and of motions. -/
def opE (p : Pl) (l : List Int) : Int := if chkP p ≠ 0 then chkP p else if inL 0 7 l = true then 0 else 2
theorem sq_bd {n : Int} (h : inL 1 8 [n] = true) : 1 ≤ n ∧ n ≤ 8 ∧ 1 ≤ n * n ∧ n * n ≤ 64 := by
  have h' : 1 ≤ n ∧ n ≤ 8 := by simpa [inL] using h
  have h1 := Int.mul_le_mul h'.2 h'.2 (by omega) (by omega)
  have h2 := Int.mul_le_mul h'.1 h'.1 (by omega) (by omega)
  exact ⟨h'.1, h'.2, h2, h1⟩
theorem inL1 {lo hi n : Int} : inL lo hi [n] = (decide (lo ≤ n) && decide (n ≤ hi)) := by simp [inL]
theorem okK_drop {nx : Int} {l : List Int} {k : Nat} (h : k < l.length) : okK nx (l.drop k) = (inL nx 7 [l[k]] && okK (l[k] + 1) (l.drop (k + 1))) := by
  rw [List.drop_eq_getElem_cons h, okK]
theorem okK_iff : ∀ (l : List Int) (nx : Int), okK nx l = true ↔ (∀ h : 0 < l.length, nx ≤ l[0]) ∧ (∀ j (h : j < l.length), l[j] ≤ 7) ∧ ∀ j (h : j + 1 < l.length), l[j] < l[j + 1]
  | [], nx => by simp [okK]
  | k :: l, nx => by
    rw [okK, Bool.and_eq_true, okK_iff l (k + 1), inL1]
    constructor
    · rintro ⟨h1, h2, h3, h4⟩
      have h1' : nx ≤ k ∧ k ≤ 7 := by simpa using h1
      refine ⟨fun _ => h1'.1, fun j hj => ?_, fun j hj => ?_⟩
      · cases j with
        | zero => exact h1'.2
        | succ j => exact h3 j (by simpa using hj)
      · cases j with
        | zero => have := h2 (by simpa using hj); simp; omega
        | succ j => exact h4 j (by simpa using hj)
    · rintro ⟨h1, h2, h3⟩
      refine ⟨by have := h1 (by simp); have := h2 0 (by simp); simp at *; omega, fun h => ?_, fun j hj => h2 (j + 1) (by simpa using hj), fun j hj => h3 (j + 1) (by simpa using hj)⟩
      have := h3 0 (by simpa using h); simp at this; omega
theorem okK_of {l : List Int} (h1 : ∀ j (h : j < l.length), 0 ≤ l[j] ∧ l[j] < 8) (h2 : ∀ j (h : j + 1 < l.length), l[j] < l[j + 1]) : okK 0 l = true :=
  (okK_iff l 0).2 ⟨fun h => (h1 0 h).1, fun j h => by have := h1 j h; omega, h2⟩
theorem okK_get : ∀ {l : List Int} {nx : Int}, okK nx l = true → ∀ x ∈ l, nx ≤ x ∧ x ≤ 7
  | [], _, _, x, hx => by simp at hx
  | k :: l, nx, h, x, hx => by
    rw [okK, Bool.and_eq_true, inL1] at h
    have h1 : nx ≤ k ∧ k ≤ 7 := by simpa using h.1
    rcases List.mem_cons.1 hx with rfl | hx
    · exact h1
    · have := okK_get h.2 x hx; omega
theorem kr_ok {ks : List Int} {k : Nat} (hk : k < ks.length) (h : (!isMo ks[k] || decide (0 < (k : Int)) && decide (ks[k] ≤ ks[k - 1])) = false) : (0 ≤ ks[k] ∧ ks[k] < 8) ∧ ∀ h : 0 < k, ks[k - 1] < ks[k] := by
  simp [isMo] at h
  refine ⟨h.1, fun h0 => h.2 h0⟩
theorem kr_bad {ks : List Int} {k : Nat} (hk : k < ks.length) (h : (!isMo ks[k] || decide (0 < (k : Int)) && decide (ks[k] ≤ ks[k - 1])) = true) : ¬ okK 0 ks = true := fun hok => by
  have h1 := okK_get hok ks[k] (List.getElem_mem hk)
  have h2 := ((okK_iff ks 0).1 hok).2.2
  simp [isMo] at h
  rcases h with h | ⟨h3, h4⟩
  · omega
  · have := h2 (k - 1) (by omega)
    simp only [show k - 1 + 1 = k by omega] at this
    omega
theorem isMo_p (m : Int) : Pure Try.prog 53 [i64 m] (.bool (isMo m)) := by
  refine pure_of_body Try.func53 (c := body Try.f53) rfl (by simp [Try.ntmps53]) fun w0 Φ0 => ?_
  refine W_seq rfl ?_
  refine W_reg rfl ?_
  refine Rv rfl rfl rfl (U_assign rfl) rfl rfl ?_
  refine Re rfl ?_
  refine thenQ_n ?_
  refine W_seq rfl ?_
  refine Wjoin ⟨[(2, .bool ((decide (0 ≤ m)) && (decide (m < 8))))], [], 0, []⟩ ?_ ?_
  · refine W_reg rfl ?_
    refine Rv rfl rfl rfl (U_move rfl) rfl rfl ?_
    refine Rv rfl rfl rfl (U_geq rfl rfl) rfl rfl ?_
    refine Rv rfl rfl rfl (U_move rfl) rfl rfl ?_
    refine Rsplit (t := 5) rfl (fun hg1 => ?_) (fun hg1 => ?_)
    · rw [hg1]
      have hg1' : 0 ≤ m := of_decide_eq_true hg1
      refine Rv rfl rfl rfl (U_move rfl) rfl rfl ?_
      refine Rv rfl rfl rfl (U_lss rfl rfl) rfl rfl ?_
      refine Rv rfl rfl rfl (U_pick_t rfl rfl) rfl rfl ?_
      refine Rv rfl rfl rfl (U_assign rfl) rfl rfl ?_
      refine Re rfl ?_
      exact joinTo id ⟨eD rfl rfl, trivial⟩ trivial rfl rfl rfl rfl (fun _ _ => rfl)
    · rw [hg1]
      have hg1' : ¬ (0 ≤ m) := of_decide_eq_false hg1
      refine Rs rfl rfl rfl rfl rfl ?_
      refine Rs rfl rfl rfl rfl rfl ?_
      refine Rv rfl rfl rfl (U_pick_f rfl rfl) rfl rfl ?_
      refine Rv rfl rfl rfl (U_assign rfl) rfl rfl ?_
      refine Re rfl ?_
      exact joinTo id ⟨eD rfl rfl, trivial⟩ trivial rfl rfl rfl rfl (fun _ _ => rfl)
  refine thenQ_n ?_
  refine W_ret rfl ?_
  exact retL (rlT rfl rl0) (by first | rfl | (simp only [packA]; congr 1; rw [Bool.eq_iff_iff]; simp [isMo]; first | done | rfl)) rfl
theorem has_p (l : List Int) (x : Int) (c : Option Nat) (hl : l.length ≤ 1000000) : Pure Try.prog 54 [intsA l c, i64 x] (.bool (l.any fun y => decide (x = y))) := by
  refine pure_of_body Try.func54 (c := body Try.f54) rfl (by simp [Try.ntmps54]) fun w0 Φ0 => ?_
  refine W_seq rfl ?_
  refine W_reg rfl ?_
  refine Rv rfl rfl rfl (U_assign rfl) rfl rfl ?_
  refine Re rfl ?_
  refine thenQ_n ?_
  refine W_seq rfl ?_
  refine W_seq rfl ?_
  refine W_reg rfl ?_
  refine Rv rfl rfl rfl (U_assign rfl) rfl rfl ?_
  refine Re rfl ?_
  refine thenQ_n ?_
  refine W_block rfl ?_
  refine LoopTo (T' := [(0, .ros (l.map i64) l.length c), (1, i64 x), (5, i64 ((0 : Nat) : Int))]) (H' := []) (n := 0) rfl (fun mz_ qz_ => ∃ (k : Nat), k ≤ l.length ∧ (∀ j (hj : j < l.length), j < k → (fun y => decide (x = y)) l[j] = false) ∧ mz_ = l.length - k ∧ qz_ = ⟨[(0, .ros (l.map i64) l.length c), (1, i64 x), (5, i64 ((k : Nat) : Int))], [], 0, []⟩) ⟨0, (by omega), (fun j hj h => absurd h (Nat.not_lt_zero _)), rfl, rfl⟩ id ⟨eD rfl rfl, eD rfl rfl, eD rfl rfl, trivial⟩ trivial rfl rfl rfl rfl (fun _ _ => rfl) ?_
  rintro _ _ ⟨k, hi0_0, hi0_1, rfl, rfl⟩
  refine W_seq rfl ?_
  refine W_seq rfl ?_
  refine W_reg rfl ?_
  refine Rv rfl rfl rfl (U_move rfl) rfl rfl ?_
  refine Rv rfl rfl rfl (U_move rfl) rfl rfl ?_
  refine Rv rfl rfl rfl (U_lenOf rfl len_ros) rfl rfl ?_
  refine Rv rfl rfl rfl (U_lss rfl rfl) rfl rfl ?_
  refine Re rfl ?_
  refine thenQ_n ?_
  refine WcondP rfl rfl (fun hc0 => ?_) (fun hc0 => ?_)
  · have hck : k < l.length := by omega
    refine W_skip rfl ?_
    refine thenQ_n ?_
    refine W_seq rfl ?_
    refine W_block rfl ?_
    refine W_seq rfl ?_
    refine W_reg rfl ?_
    refine Rv rfl rfl rfl (U_move rfl) rfl rfl ?_
    refine Rv rfl rfl rfl (U_move rfl) rfl rfl ?_
    have hx1 : k < l.length := by omega
    refine Rv rfl rfl rfl (U_indexR (j := k) rfl rfl rfl hx1) rfl rfl ?_
    refine Rv rfl rfl rfl (U_load1 rfl rfl (getM hx1)) rfl rfl ?_
    refine Rv rfl rfl rfl (U_move rfl) rfl rfl ?_
    refine Rv rfl rfl rfl (U_eql rfl rfl) rfl rfl ?_
    refine Re rfl ?_
    refine thenQ_n ?_
    refine WcondP rfl rfl (fun hc1 => ?_) (fun hc1 => ?_)
    · refine W_seq rfl ?_
      refine W_reg rfl ?_
      refine Rv rfl rfl rfl (U_assign rfl) rfl rfl ?_
      refine Re rfl ?_
      refine thenQ_n ?_
      refine W_ret rfl ?_
      refine blkQ_r ?_
      refine thenQ_r ?_
      refine thenQ_r ?_
      refine blkQ_r ?_
      refine thenQ_r ?_
      exact retL (rlT rfl rl0) (by first | rfl | (simp only [packA]; rw [any_true (p := fun y => decide (x = y)) hck (by simpa using hc1.symm)]; first | done | rfl) | (simp only [packA]; rw [any_false (p := fun y => decide (x = y)) fun j hj => hi0_1 j hj (by omega)]; first | done | rfl)) rfl
    · refine W_skip rfl ?_
      refine blkQ_n ?_
      refine thenQ_n ?_
      refine W_reg rfl ?_
      refine Rv rfl rfl rfl (U_move rfl) rfl rfl ?_
      refine Rv rfl rfl rfl (U_add rfl rfl (w64e (m := ((k + 1 : Nat) : Int)) (by omega) (by omega) (by omega))) rfl rfl ?_
      refine Rv rfl rfl rfl (U_assign rfl) rfl rfl ?_
      refine Re rfl ?_
      refine thenQ_n ?_
      exact againTo (T' := [(0, .ros (l.map i64) l.length c), (1, i64 x), (5, i64 (((k + 1) : Nat) : Int))]) (H' := []) (n := 0) (l.length - (k + 1)) ⟨k + 1, (by omega), (by intro j hj h; rcases Nat.lt_succ_iff_lt_or_eq.1 h with h | rfl; exact hi0_1 j hj h; simpa [eq_comm] using hc1), rfl, rfl⟩ (by omega) id ⟨eD rfl rfl, eD rfl rfl, eD rfl rfl, trivial⟩ trivial rfl rfl rfl rfl (fun _ _ => rfl)
  · refine W_exit rfl ?_
    refine thenQ_x ?_
    refine thenQ_x ?_
    refine blkQ_x rfl ?_
    refine thenQ_n ?_
    refine W_seq rfl ?_
    refine W_reg rfl ?_
    refine Rv rfl rfl rfl (U_assign rfl) rfl rfl ?_
    refine Re rfl ?_
    refine thenQ_n ?_
    refine W_ret rfl ?_
    exact retL (rlT rfl rl0) (by first | rfl | (simp only [packA]; rw [any_true (p := fun y => decide (x = y)) hck (by simpa using hc1.symm)]; first | done | rfl) | (simp only [packA]; rw [any_false (p := fun y => decide (x = y)) fun j hj => hi0_1 j hj (by omega)]; first | done | rfl)) rfl
theorem chkP_p (p : Pl) (c : Option Nat) (hl : p.ds.length ≤ 1000000) : Pure Try.prog 23 [plA p c] (i64 (chkP p)) := by
  refine pure_of_body Try.func23 (c := body Try.f23) rfl (by simp [Try.ntmps23]) fun w0 Φ0 => ?_
  refine W_seq rfl ?_
  refine W_reg rfl ?_
  refine Rv rfl rfl rfl (U_boxF rfl rfl rfl) rfl rfl ?_
  refine Rv rfl rfl rfl (U_assign rfl) rfl rfl ?_
  refine Re rfl ?_
  refine thenQ_n ?_
  refine W_seq rfl ?_
  refine W_block rfl ?_
  refine W_seq rfl ?_
  refine W_reg rfl ?_
  refine Rv rfl rfl rfl (U_fieldAddrR rfl) rfl rfl ?_
  refine Rv rfl rfl rfl (U_load1 rfl rfl rfl) rfl rfl ?_
  refine Rv rfl rfl rfl (U_buildSliceF (by rfl) (by decide) rfl rfl rfl) rfl rfl ?_
  refine Rv rfl rfl rfl (U_call rfl rfl (within_p 1 8 [p.n] (some 1) (by first | assumption | omega | (simp; done) | (simp; omega))) rfl) rfl rfl ?_
  refine Rv rfl rfl rfl (U_not rfl) rfl rfl ?_
  refine Rv rfl rfl rfl (U_assign rfl) rfl rfl ?_
  refine Re rfl ?_
  refine thenQ_n ?_
  refine Wcond rfl rfl (fun hc0 => ?_) (fun hc0 => ?_)
  · refine W_seq rfl ?_
    refine W_reg rfl ?_
    refine Rv rfl rfl rfl (U_assign rfl) rfl rfl ?_
    refine Re rfl ?_
    refine thenQ_n ?_
    refine W_ret rfl ?_
    refine blkQ_r ?_
    refine thenQ_r ?_
    exact retL (rlT rfl rl0) (by first | rfl | (simp only [packA]; rw [chkP, if_pos (by simpa using hc0)]; first | done | rfl) | (simp only [packA]; rw [chkP, if_neg (by simpa using hc0), if_pos hc1]; first | done | rfl) | (simp only [packA]; rw [chkP, if_neg (by simpa using hc0), if_neg (by simpa using hc1), if_pos (by simpa using hc2)]; first | done | rfl) | (simp only [packA]; rw [chkP, if_neg (by simpa using hc0), if_neg (by simpa using hc1), if_neg (by simpa using hc2)]; first | done | rfl)) rfl
  · have hc0' := Bool.eq_false_iff.1 hc0
    have hs := sq_bd (by simpa using hc0 : inL 1 8 [p.n] = true)
    refine W_seq rfl ?_
    refine W_reg rfl ?_
    refine Rv rfl rfl rfl (U_fieldAddrR rfl) rfl rfl ?_
    refine Rv rfl rfl rfl (U_load1 rfl rfl rfl) rfl rfl ?_
    refine Rv rfl rfl rfl (U_lenOf rfl len_ros) rfl rfl ?_
    refine Rv rfl rfl rfl (U_fieldAddrR rfl) rfl rfl ?_
    refine Rv rfl rfl rfl (U_load1 rfl rfl rfl) rfl rfl ?_
    refine Rv rfl rfl rfl (U_fieldAddrR rfl) rfl rfl ?_
    refine Rv rfl rfl rfl (U_load1 rfl rfl rfl) rfl rfl ?_
    refine Rv rfl rfl rfl (U_mul rfl rfl (w64 (by omega) (by omega))) rfl rfl ?_
    refine Rv rfl rfl rfl (U_neq rfl rfl) rfl rfl ?_
    refine Rv rfl rfl rfl (U_assign rfl) rfl rfl ?_
    refine Re rfl ?_
    refine thenQ_n ?_
    refine WcondP rfl rfl (fun hc1 => ?_) (fun hc1 => ?_)
    · refine W_seq rfl ?_
      refine W_reg rfl ?_
      refine Rv rfl rfl rfl (U_assign rfl) rfl rfl ?_
      refine Re rfl ?_
      refine thenQ_n ?_
      refine W_ret rfl ?_
      refine blkQ_r ?_
      refine thenQ_r ?_
      exact retL (rlT rfl rl0) (by first | rfl | (simp only [packA]; rw [chkP, if_pos (by simpa using hc0)]; first | done | rfl) | (simp only [packA]; rw [chkP, if_neg (by simpa using hc0), if_pos hc1]; first | done | rfl) | (simp only [packA]; rw [chkP, if_neg (by simpa using hc0), if_neg (by simpa using hc1), if_pos (by simpa using hc2)]; first | done | rfl) | (simp only [packA]; rw [chkP, if_neg (by simpa using hc0), if_neg (by simpa using hc1), if_neg (by simpa using hc2)]; first | done | rfl)) rfl
    · rw [Decidable.not_not] at hc1
      refine W_seq rfl ?_
      refine W_reg rfl ?_
      refine Rv rfl rfl rfl (U_fieldAddrR rfl) rfl rfl ?_
      refine Rv rfl rfl rfl (U_load1 rfl rfl rfl) rfl rfl ?_
      refine Rv rfl rfl rfl (U_call rfl rfl (within_p 0 3 p.ds c (by first | assumption | omega | (simp; done) | (simp; omega))) rfl) rfl rfl ?_
      refine Rv rfl rfl rfl (U_not rfl) rfl rfl ?_
      refine Rv rfl rfl rfl (U_assign rfl) rfl rfl ?_
      refine Re rfl ?_
      refine thenQ_n ?_
      refine Wcond rfl rfl (fun hc2 => ?_) (fun hc2 => ?_)
      · refine W_seq rfl ?_
        refine W_reg rfl ?_
        refine Rv rfl rfl rfl (U_assign rfl) rfl rfl ?_
        refine Re rfl ?_
        refine thenQ_n ?_
        refine W_ret rfl ?_
        refine blkQ_r ?_
        refine thenQ_r ?_
        exact retL (rlT rfl rl0) (by first | rfl | (simp only [packA]; rw [chkP, if_pos (by simpa using hc0)]; first | done | rfl) | (simp only [packA]; rw [chkP, if_neg (by simpa using hc0), if_pos hc1]; first | done | rfl) | (simp only [packA]; rw [chkP, if_neg (by simpa using hc0), if_neg (by simpa using hc1), if_pos (by simpa using hc2)]; first | done | rfl) | (simp only [packA]; rw [chkP, if_neg (by simpa using hc0), if_neg (by simpa using hc1), if_neg (by simpa using hc2)]; first | done | rfl)) rfl
      · have hc2' := Bool.eq_false_iff.1 hc2
        refine W_skip rfl ?_
        refine blkQ_n ?_
        refine thenQ_n ?_
        refine W_seq rfl ?_
        refine W_reg rfl ?_
        refine Rv rfl rfl rfl (U_assign rfl) rfl rfl ?_
        refine Re rfl ?_
        refine thenQ_n ?_
        refine W_ret rfl ?_
        exact retL (rlT rfl rl0) (by first | rfl | (simp only [packA]; rw [chkP, if_pos (by simpa using hc0)]; first | done | rfl) | (simp only [packA]; rw [chkP, if_neg (by simpa using hc0), if_pos hc1]; first | done | rfl) | (simp only [packA]; rw [chkP, if_neg (by simpa using hc0), if_neg (by simpa using hc1), if_pos (by simpa using hc2)]; first | done | rfl) | (simp only [packA]; rw [chkP, if_neg (by simpa using hc0), if_neg (by simpa using hc1), if_neg (by simpa using hc2)]; first | done | rfl)) rfl
theorem chkPR_p (p : Pl) (c : Option Nat) (hl : p.ds.length ≤ 1000000) : Pure Try.prog 24 [plA p c] (i64 (chkP p)) := by
  refine pure_of_body Try.func24 (c := body Try.f24) rfl (by simp [Try.ntmps24]) fun w0 Φ0 => ?_
  refine W_seq rfl ?_
  refine W_reg rfl ?_
  refine Rv rfl rfl rfl (U_boxF rfl rfl rfl) rfl rfl ?_
  refine Rv rfl rfl rfl (U_assign rfl) rfl rfl ?_
  refine Re rfl ?_
  refine thenQ_n ?_
  refine W_seq rfl ?_
  refine W_seq rfl ?_
  refine Wjoin ⟨[(1, .rop [i64 p.n, .ros (p.ds.map i64) p.ds.length c] 0), (11, .bool ((decide (p.n < 1)) || (decide (8 < p.n))))], [], 0, []⟩ ?_ ?_
  · refine W_reg rfl ?_
    refine Rv rfl rfl rfl (U_fieldAddrR rfl) rfl rfl ?_
    refine Rv rfl rfl rfl (U_load1 rfl rfl rfl) rfl rfl ?_
    refine Rv rfl rfl rfl (U_lss rfl rfl) rfl rfl ?_
    refine Rv rfl rfl rfl (U_move rfl) rfl rfl ?_
    refine Rsplit (t := 7) rfl (fun hg1 => ?_) (fun hg1 => ?_)
    · rw [hg1]
      have hg1' : p.n < 1 := of_decide_eq_true hg1
      refine Rs rfl rfl rfl rfl rfl ?_
      refine Rs rfl rfl rfl rfl rfl ?_
      refine Rs rfl rfl rfl rfl rfl ?_
      refine Rv rfl rfl rfl (U_pick_t rfl rfl) rfl rfl ?_
      refine Re rfl ?_
      exact joinTo id ⟨eD rfl rfl, eD rfl rfl, trivial⟩ trivial rfl rfl rfl rfl (fun _ _ => rfl)
    · rw [hg1]
      have hg1' : ¬ (p.n < 1) := of_decide_eq_false hg1
      refine Rv rfl rfl rfl (U_fieldAddrR rfl) rfl rfl ?_
      refine Rv rfl rfl rfl (U_load1 rfl rfl rfl) rfl rfl ?_
      refine Rv rfl rfl rfl (U_gtr rfl rfl) rfl rfl ?_
      refine Rv rfl rfl rfl (U_pick_f rfl rfl) rfl rfl ?_
      refine Re rfl ?_
      exact joinTo id ⟨eD rfl rfl, eD rfl rfl, trivial⟩ trivial rfl rfl rfl rfl (fun _ _ => rfl)
  refine thenQ_n ?_
  refine Wcond rfl rfl (fun hc0 => ?_) (fun hc0 => ?_)
  · refine W_seq rfl ?_
    refine W_reg rfl ?_
    refine Rv rfl rfl rfl (U_assign rfl) rfl rfl ?_
    refine Re rfl ?_
    refine thenQ_n ?_
    refine W_ret rfl ?_
    refine thenQ_r ?_
    exact retL (rlT rfl rl0) (by first | rfl | (simp only [packA]; rw [chkP, if_pos (by rw [inL1]; simp at hc0 ⊢; omega)]; first | done | rfl) | (simp only [packA]; rw [chkP, if_neg (by rw [inL1]; simp; omega), if_pos hc1]; first | done | rfl) | (simp only [packA]; rw [chkP, if_neg (by rw [inL1]; simp; omega), if_neg (by simpa using hc1), if_pos (by rw [inL]; exact allB_false hck (by simp at hc3 ⊢; omega))]; first | done | rfl) | (simp only [packA]; rw [chkP, if_neg (by rw [inL1]; simp; omega), if_neg (by simpa using hc1), if_neg (by rw [inL, allB_true fun j hj => hi0_1 j hj (by omega)]; simp)]; first | done | rfl)) rfl
  · have hc0' := Bool.eq_false_iff.1 hc0
    have hs := sq_bd (n := p.n) (by rw [inL1]; simp at hc0 ⊢; omega)
    refine W_skip rfl ?_
    refine thenQ_n ?_
    refine W_seq rfl ?_
    refine W_seq rfl ?_
    refine W_reg rfl ?_
    refine Rv rfl rfl rfl (U_fieldAddrR rfl) rfl rfl ?_
    refine Rv rfl rfl rfl (U_load1 rfl rfl rfl) rfl rfl ?_
    refine Rv rfl rfl rfl (U_lenOf rfl len_ros) rfl rfl ?_
    refine Rv rfl rfl rfl (U_fieldAddrR rfl) rfl rfl ?_
    refine Rv rfl rfl rfl (U_load1 rfl rfl rfl) rfl rfl ?_
    refine Rv rfl rfl rfl (U_fieldAddrR rfl) rfl rfl ?_
    refine Rv rfl rfl rfl (U_load1 rfl rfl rfl) rfl rfl ?_
    refine Rv rfl rfl rfl (U_mul rfl rfl (w64 (by omega) (by omega))) rfl rfl ?_
    refine Rv rfl rfl rfl (U_neq rfl rfl) rfl rfl ?_
    refine Re rfl ?_
    refine thenQ_n ?_
    refine WcondP rfl rfl (fun hc1 => ?_) (fun hc1 => ?_)
    · refine W_seq rfl ?_
      refine W_reg rfl ?_
      refine Rv rfl rfl rfl (U_assign rfl) rfl rfl ?_
      refine Re rfl ?_
      refine thenQ_n ?_
      refine W_ret rfl ?_
      refine thenQ_r ?_
      exact retL (rlT rfl rl0) (by first | rfl | (simp only [packA]; rw [chkP, if_pos (by rw [inL1]; simp at hc0 ⊢; omega)]; first | done | rfl) | (simp only [packA]; rw [chkP, if_neg (by rw [inL1]; simp; omega), if_pos hc1]; first | done | rfl) | (simp only [packA]; rw [chkP, if_neg (by rw [inL1]; simp; omega), if_neg (by simpa using hc1), if_pos (by rw [inL]; exact allB_false hck (by simp at hc3 ⊢; omega))]; first | done | rfl) | (simp only [packA]; rw [chkP, if_neg (by rw [inL1]; simp; omega), if_neg (by simpa using hc1), if_neg (by rw [inL, allB_true fun j hj => hi0_1 j hj (by omega)]; simp)]; first | done | rfl)) rfl
    · rw [Decidable.not_not] at hc1
      refine W_skip rfl ?_
      refine thenQ_n ?_
      refine W_seq rfl ?_
      refine W_seq rfl ?_
      refine W_reg rfl ?_
      refine Rv rfl rfl rfl (U_assign rfl) rfl rfl ?_
      refine Re rfl ?_
      refine thenQ_n ?_
      refine W_block rfl ?_
      refine LoopTo (T' := [(1, .rop [i64 p.n, .ros (p.ds.map i64) p.ds.length c] 0), (3, i64 ((0 : Nat) : Int))]) (H' := []) (n := 0) rfl (fun mz_ qz_ => ∃ (k : Nat), k ≤ p.ds.length ∧ (∀ j (hj : j < p.ds.length), j < k → (fun n => decide (0 ≤ n) && decide (n ≤ 3)) p.ds[j] = true) ∧ mz_ = p.ds.length - k ∧ qz_ = ⟨[(1, .rop [i64 p.n, .ros (p.ds.map i64) p.ds.length c] 0), (3, i64 ((k : Nat) : Int))], [], 0, []⟩) ⟨0, (by omega), (fun j hj h => absurd h (Nat.not_lt_zero _)), rfl, rfl⟩ id ⟨eD rfl rfl, eD rfl rfl, trivial⟩ trivial rfl rfl rfl rfl (fun _ _ => rfl) ?_
      rintro _ _ ⟨k, hi0_0, hi0_1, rfl, rfl⟩
      refine W_seq rfl ?_
      refine W_seq rfl ?_
      refine W_reg rfl ?_
      refine Rv rfl rfl rfl (U_move rfl) rfl rfl ?_
      refine Rv rfl rfl rfl (U_fieldAddrR rfl) rfl rfl ?_
      refine Rv rfl rfl rfl (U_load1 rfl rfl rfl) rfl rfl ?_
      refine Rv rfl rfl rfl (U_lenOf rfl len_ros) rfl rfl ?_
      refine Rv rfl rfl rfl (U_lss rfl rfl) rfl rfl ?_
      refine Re rfl ?_
      refine thenQ_n ?_
      refine WcondP rfl rfl (fun hc2 => ?_) (fun hc2 => ?_)
      · have hck : k < p.ds.length := by omega
        refine W_skip rfl ?_
        refine thenQ_n ?_
        refine W_seq rfl ?_
        refine W_block rfl ?_
        refine W_seq rfl ?_
        refine Wjoin ⟨[(1, .rop [i64 p.n, .ros (p.ds.map i64) p.ds.length c] 0), (3, i64 ((k : Nat) : Int)), (41, .bool ((decide (p.ds[k] < 0)) || (decide (3 < p.ds[k]))))], [], 0, []⟩ ?_ ?_
        · refine W_reg rfl ?_
          refine Rv rfl rfl rfl (U_fieldAddrR rfl) rfl rfl ?_
          refine Rv rfl rfl rfl (U_load1 rfl rfl rfl) rfl rfl ?_
          refine Rv rfl rfl rfl (U_move rfl) rfl rfl ?_
          have hx2 : k < p.ds.length := by omega
          refine Rv rfl rfl rfl (U_indexR (j := k) rfl rfl rfl hx2) rfl rfl ?_
          refine Rv rfl rfl rfl (U_load1 rfl rfl (getM hx2)) rfl rfl ?_
          refine Rv rfl rfl rfl (U_lss rfl rfl) rfl rfl ?_
          refine Rv rfl rfl rfl (U_move rfl) rfl rfl ?_
          refine Rsplit (t := 34) rfl (fun hg3 => ?_) (fun hg3 => ?_)
          · rw [hg3]
            have hg3' : p.ds[k] < 0 := of_decide_eq_true hg3
            refine Rs rfl rfl rfl rfl rfl ?_
            refine Rs rfl rfl rfl rfl rfl ?_
            refine Rs rfl rfl rfl rfl rfl ?_
            refine Rs rfl rfl rfl rfl rfl ?_
            refine Rs rfl rfl rfl rfl rfl ?_
            refine Rs rfl rfl rfl rfl rfl ?_
            refine Rv rfl rfl rfl (U_pick_t rfl rfl) rfl rfl ?_
            refine Re rfl ?_
            exact joinTo id ⟨eD rfl rfl, eD rfl rfl, eD rfl rfl, trivial⟩ trivial rfl rfl rfl rfl (fun _ _ => rfl)
          · rw [hg3]
            have hg3' : ¬ (p.ds[k] < 0) := of_decide_eq_false hg3
            refine Rv rfl rfl rfl (U_fieldAddrR rfl) rfl rfl ?_
            refine Rv rfl rfl rfl (U_load1 rfl rfl rfl) rfl rfl ?_
            refine Rv rfl rfl rfl (U_move rfl) rfl rfl ?_
            refine Rv rfl rfl rfl (U_indexR (j := k) rfl rfl rfl hx2) rfl rfl ?_
            refine Rv rfl rfl rfl (U_load1 rfl rfl (getM hx2)) rfl rfl ?_
            refine Rv rfl rfl rfl (U_gtr rfl rfl) rfl rfl ?_
            refine Rv rfl rfl rfl (U_pick_f rfl rfl) rfl rfl ?_
            refine Re rfl ?_
            exact joinTo id ⟨eD rfl rfl, eD rfl rfl, eD rfl rfl, trivial⟩ trivial rfl rfl rfl rfl (fun _ _ => rfl)
        refine thenQ_n ?_
        refine Wcond rfl rfl (fun hc3 => ?_) (fun hc3 => ?_)
        · refine W_seq rfl ?_
          refine W_reg rfl ?_
          refine Rv rfl rfl rfl (U_assign rfl) rfl rfl ?_
          refine Re rfl ?_
          refine thenQ_n ?_
          refine W_ret rfl ?_
          refine blkQ_r ?_
          refine thenQ_r ?_
          refine thenQ_r ?_
          refine blkQ_r ?_
          refine thenQ_r ?_
          exact retL (rlT rfl rl0) (by first | rfl | (simp only [packA]; rw [chkP, if_pos (by rw [inL1]; simp at hc0 ⊢; omega)]; first | done | rfl) | (simp only [packA]; rw [chkP, if_neg (by rw [inL1]; simp; omega), if_pos hc1]; first | done | rfl) | (simp only [packA]; rw [chkP, if_neg (by rw [inL1]; simp; omega), if_neg (by simpa using hc1), if_pos (by rw [inL]; exact allB_false hck (by simp at hc3 ⊢; omega))]; first | done | rfl) | (simp only [packA]; rw [chkP, if_neg (by rw [inL1]; simp; omega), if_neg (by simpa using hc1), if_neg (by rw [inL, allB_true fun j hj => hi0_1 j hj (by omega)]; simp)]; first | done | rfl)) rfl
        · have hc3' := Bool.eq_false_iff.1 hc3
          refine W_skip rfl ?_
          refine blkQ_n ?_
          refine thenQ_n ?_
          refine W_reg rfl ?_
          refine Rv rfl rfl rfl (U_move rfl) rfl rfl ?_
          refine Rv rfl rfl rfl (U_add rfl rfl (w64e (m := ((k + 1 : Nat) : Int)) (by omega) (by omega) (by omega))) rfl rfl ?_
          refine Rv rfl rfl rfl (U_assign rfl) rfl rfl ?_
          refine Re rfl ?_
          refine thenQ_n ?_
          exact againTo (T' := [(1, .rop [i64 p.n, .ros (p.ds.map i64) p.ds.length c] 0), (3, i64 (((k + 1) : Nat) : Int))]) (H' := []) (n := 0) (p.ds.length - (k + 1)) ⟨k + 1, (by omega), (by intro j hj h; rcases Nat.lt_succ_iff_lt_or_eq.1 h with h | rfl; exact hi0_1 j hj h; simp at hc3 ⊢; omega), rfl, rfl⟩ (by omega) id ⟨eD rfl rfl, eD rfl rfl, trivial⟩ trivial rfl rfl rfl rfl (fun _ _ => rfl)
      · refine W_exit rfl ?_
        refine thenQ_x ?_
        refine thenQ_x ?_
        refine blkQ_x rfl ?_
        refine thenQ_n ?_
        refine W_seq rfl ?_
        refine W_reg rfl ?_
        refine Rv rfl rfl rfl (U_assign rfl) rfl rfl ?_
        refine Re rfl ?_
        refine thenQ_n ?_
        refine W_ret rfl ?_
        exact retL (rlT rfl rl0) (by first | rfl | (simp only [packA]; rw [chkP, if_pos (by rw [inL1]; simp at hc0 ⊢; omega)]; first | done | rfl) | (simp only [packA]; rw [chkP, if_neg (by rw [inL1]; simp; omega), if_pos hc1]; first | done | rfl) | (simp only [packA]; rw [chkP, if_neg (by rw [inL1]; simp; omega), if_neg (by simpa using hc1), if_pos (by rw [inL]; exact allB_false hck (by simp at hc3 ⊢; omega))]; first | done | rfl) | (simp only [packA]; rw [chkP, if_neg (by rw [inL1]; simp; omega), if_neg (by simpa using hc1), if_neg (by rw [inL, allB_true fun j hj => hi0_1 j hj (by omega)]; simp)]; first | done | rfl)) rfl
theorem chkK_p (ks : List Int) (c : Option Nat) (hl : ks.length ≤ 1000000) : Pure Try.prog 71 [intsA ks c] (i64 (chkK ks)) := by
  refine pure_of_body Try.func71 (c := body Try.f71) rfl (by simp [Try.ntmps71]) fun w0 Φ0 => ?_
  refine W_seq rfl ?_
  refine W_reg rfl ?_
  refine Rv rfl rfl rfl (U_assign rfl) rfl rfl ?_
  refine Re rfl ?_
  refine thenQ_n ?_
  refine W_seq rfl ?_
  refine W_reg rfl ?_
  refine Rv rfl rfl rfl (U_assign rfl) rfl rfl ?_
  refine Re rfl ?_
  refine thenQ_n ?_
  refine W_seq rfl ?_
  refine W_seq rfl ?_
  refine W_reg rfl ?_
  refine Rv rfl rfl rfl (U_move rfl) rfl rfl ?_
  refine Rv rfl rfl rfl (U_lenOf rfl len_ros) rfl rfl ?_
  refine Rv rfl rfl rfl (U_move rfl) rfl rfl ?_
  refine Re rfl ?_
  refine thenQ_n ?_
  refine W_block rfl ?_
  refine LoopTo (T' := [(3, i64 0), (6, .ros (ks.map i64) ks.length c), (7, i64 ((ks.length : Nat) : Int)), (8, i64 ((0 : Nat) : Int))]) (H' := []) (n := 0) rfl (fun mz_ qz_ => ∃ (k : Nat) (nx : Int), k ≤ ks.length ∧ okK 0 ks = okK nx (ks.drop k) ∧ (0 ≤ nx ∧ nx ≤ 8) ∧ mz_ = ks.length - k ∧ qz_ = ⟨[(3, i64 nx), (6, .ros (ks.map i64) ks.length c), (7, i64 ((ks.length : Nat) : Int)), (8, i64 ((k : Nat) : Int))], [], 0, []⟩) ⟨0, 0, (by omega), rfl, (by omega), rfl, rfl⟩ id ⟨eD rfl rfl, eD rfl rfl, eD rfl rfl, eD rfl rfl, trivial⟩ trivial rfl rfl rfl rfl (fun _ _ => rfl) ?_
  rintro _ _ ⟨k, nx, hi0_0, hi0_1, hi0_2, rfl, rfl⟩
  refine W_seq rfl ?_
  refine W_reg rfl ?_
  refine Rv rfl rfl rfl (U_lss rfl rfl) rfl rfl ?_
  refine Re rfl ?_
  refine thenQ_n ?_
  refine W_seq rfl ?_
  refine WcondP rfl rfl (fun hc0 => ?_) (fun hc0 => ?_)
  · have hck : k < ks.length := by omega
    refine W_skip rfl ?_
    refine thenQ_n ?_
    refine W_seq rfl ?_
    refine W_block rfl ?_
    refine W_seq rfl ?_
    refine W_reg rfl ?_
    have hx1 : k < ks.length := by omega
    refine Rv rfl rfl rfl (U_indexR (j := k) rfl rfl rfl hx1) rfl rfl ?_
    refine Rv rfl rfl rfl (U_load1 rfl rfl (getM hx1)) rfl rfl ?_
    refine Rv rfl rfl rfl (U_assign rfl) rfl rfl ?_
    refine Re rfl ?_
    refine thenQ_n ?_
    refine W_seq rfl ?_
    refine W_seq rfl ?_
    refine W_reg rfl ?_
    refine Rv rfl rfl rfl (U_move rfl) rfl rfl ?_
    refine Rv rfl rfl rfl (U_move rfl) rfl rfl ?_
    refine Rv rfl rfl rfl (U_buildSliceF (by rfl) (by decide) rfl rfl rfl) rfl rfl ?_
    refine Rv rfl rfl rfl (U_call rfl rfl (within_p nx 7 [ks[k]] (some 1) (by first | assumption | omega | (simp; done) | (simp; omega))) rfl) rfl rfl ?_
    refine Rv rfl rfl rfl (U_not rfl) rfl rfl ?_
    refine Re rfl ?_
    refine thenQ_n ?_
    refine Wcond rfl rfl (fun hc1 => ?_) (fun hc1 => ?_)
    · refine W_seq rfl ?_
      refine W_reg rfl ?_
      refine Rv rfl rfl rfl (U_assign rfl) rfl rfl ?_
      refine Re rfl ?_
      refine thenQ_n ?_
      refine W_ret rfl ?_
      refine thenQ_r ?_
      refine blkQ_r ?_
      refine thenQ_r ?_
      refine thenQ_r ?_
      refine blkQ_r ?_
      refine thenQ_r ?_
      exact retL (rlT rfl rl0) (by first | rfl | (simp only [packA]; rw [chkK, hi0_1, okK_drop hck, (by simpa using hc1 : inL nx 7 [ks[k]] = false)]; first | done | rfl) | (simp only [packA]; rw [chkK, hi0_1, List.drop_length]; simp [okK]; first | done | rfl)) rfl
    · have hc1' := Bool.eq_false_iff.1 hc1
      have hc1s : inL nx 7 [ks[k]] = true := by simpa using hc1
      have hc1b : nx ≤ ks[k] ∧ ks[k] ≤ 7 := by simpa [inL] using hc1s
      refine W_skip rfl ?_
      refine thenQ_n ?_
      refine W_reg rfl ?_
      refine Rv rfl rfl rfl (U_move rfl) rfl rfl ?_
      refine Rv rfl rfl rfl (U_add rfl rfl (w64 (by omega) (by omega))) rfl rfl ?_
      refine Rv rfl rfl rfl (U_assign rfl) rfl rfl ?_
      refine Re rfl ?_
      refine blkQ_n ?_
      refine thenQ_n ?_
      refine W_reg rfl ?_
      refine Rv rfl rfl rfl (U_add rfl rfl (w64e (m := ((k + 1 : Nat) : Int)) (by omega) (by omega) (by omega))) rfl rfl ?_
      refine Rv rfl rfl rfl (U_move rfl) rfl rfl ?_
      refine Re rfl ?_
      refine thenQ_n ?_
      exact againTo (T' := [(3, i64 (ks[k] + 1)), (6, .ros (ks.map i64) ks.length c), (7, i64 ((ks.length : Nat) : Int)), (8, i64 (((k + 1) : Nat) : Int))]) (H' := []) (n := 0) (ks.length - (k + 1)) ⟨k + 1, ks[k] + 1, (by omega), (by rw [hi0_1, okK_drop hck, hc1s, Bool.true_and]), (by omega), rfl, rfl⟩ (by omega) id ⟨eD rfl rfl, eD rfl rfl, eD rfl rfl, eD rfl rfl, trivial⟩ trivial rfl rfl rfl rfl (fun _ _ => rfl)
  · obtain rfl : k = ks.length := by omega
    refine W_exit rfl ?_
    refine thenQ_x ?_
    refine thenQ_x ?_
    refine blkQ_x rfl ?_
    refine thenQ_n ?_
    refine W_seq rfl ?_
    refine W_reg rfl ?_
    refine Rv rfl rfl rfl (U_assign rfl) rfl rfl ?_
    refine Re rfl ?_
    refine thenQ_n ?_
    refine W_ret rfl ?_
    exact retL (rlT rfl rl0) (by first | rfl | (simp only [packA]; rw [chkK, hi0_1, okK_drop hck, (by simpa using hc1 : inL nx 7 [ks[k]] = false)]; first | done | rfl) | (simp only [packA]; rw [chkK, hi0_1, List.drop_length]; simp [okK]; first | done | rfl)) rfl
theorem chkKR_p (ks : List Int) (c : Option Nat) (hl : ks.length ≤ 1000000) : Pure Try.prog 58 [intsA ks c] (i64 (chkK ks)) := by
  refine pure_of_body Try.func58 (c := body Try.f58) rfl (by simp [Try.ntmps58]) fun w0 Φ0 => ?_
  refine W_seq rfl ?_
  refine W_reg rfl ?_
  refine Rv rfl rfl rfl (U_assign rfl) rfl rfl ?_
  refine Re rfl ?_
  refine thenQ_n ?_
  refine W_seq rfl ?_
  refine W_seq rfl ?_
  refine W_reg rfl ?_
  refine Rv rfl rfl rfl (U_assign rfl) rfl rfl ?_
  refine Re rfl ?_
  refine thenQ_n ?_
  refine W_block rfl ?_
  refine LoopTo (T' := [(0, .ros (ks.map i64) ks.length c), (3, i64 ((0 : Nat) : Int))]) (H' := []) (n := 0) rfl (fun mz_ qz_ => ∃ (k : Nat), k ≤ ks.length ∧ (∀ j (hj : j < ks.length), j < k → (0 ≤ ks[j] ∧ ks[j] < 8) ∧ ∀ h : 0 < j, ks[j - 1] < ks[j]) ∧ mz_ = ks.length - k ∧ qz_ = ⟨[(0, .ros (ks.map i64) ks.length c), (3, i64 ((k : Nat) : Int))], [], 0, []⟩) ⟨0, (by omega), (fun j hj h => absurd h (Nat.not_lt_zero _)), rfl, rfl⟩ id ⟨eD rfl rfl, eD rfl rfl, trivial⟩ trivial rfl rfl rfl rfl (fun _ _ => rfl) ?_
  rintro _ _ ⟨k, hi0_0, hi0_1, rfl, rfl⟩
  refine W_seq rfl ?_
  refine W_seq rfl ?_
  refine W_reg rfl ?_
  refine Rv rfl rfl rfl (U_move rfl) rfl rfl ?_
  refine Rv rfl rfl rfl (U_move rfl) rfl rfl ?_
  refine Rv rfl rfl rfl (U_lenOf rfl len_ros) rfl rfl ?_
  refine Rv rfl rfl rfl (U_lss rfl rfl) rfl rfl ?_
  refine Re rfl ?_
  refine thenQ_n ?_
  refine WcondP rfl rfl (fun hc0 => ?_) (fun hc0 => ?_)
  · have hck : k < ks.length := by omega
    refine W_skip rfl ?_
    refine thenQ_n ?_
    refine W_seq rfl ?_
    refine W_block rfl ?_
    refine W_seq rfl ?_
    refine Wjoin ⟨[(0, .ros (ks.map i64) ks.length c), (3, i64 ((k : Nat) : Int)), (31, .bool ((!(isMo ks[k])) || ((decide (0 < ((k : Nat) : Int))) && (decide (ks[k] ≤ ks[(k - 1)])))))], [], 0, []⟩ ?_ ?_
    · refine WdrawL [14] rfl (by kernel_rfl) (by kernel_rfl) ?_
      refine Dv rfl rfl rfl (U_move rfl) rfl rfl ?_
      refine Dv rfl rfl rfl (U_move rfl) rfl rfl ?_
      have hx1 : k < ks.length := by omega
      refine Dv rfl rfl rfl (U_indexR (j := k) rfl rfl rfl hx1) rfl rfl ?_
      refine Dv rfl rfl rfl (U_load1 rfl rfl (getM hx1)) rfl rfl ?_
      refine Dv rfl rfl rfl (U_call rfl rfl (isMo_p ks[k]) rfl) rfl rfl ?_
      refine Dv rfl rfl rfl (U_not rfl) rfl rfl ?_
      refine Dv rfl rfl rfl (U_move rfl) rfl rfl ?_
      refine Dsplit (t := 16) rfl (fun hg2 => ?_) (fun hg2 => ?_)
      · rw [hg2]
        refine Ds rfl rfl rfl rfl rfl ?_
        refine Ds rfl rfl rfl rfl rfl ?_
        refine Ds rfl rfl rfl rfl rfl ?_
        refine Ds rfl rfl rfl rfl rfl ?_
        refine Ds rfl rfl rfl rfl rfl ?_
        refine Ds rfl rfl rfl rfl rfl ?_
        refine Ds rfl rfl rfl rfl rfl ?_
        refine Ds rfl rfl rfl rfl rfl ?_
        refine Ds rfl rfl rfl rfl rfl ?_
        refine Ds rfl rfl rfl rfl rfl ?_
        refine Ds rfl rfl rfl rfl rfl ?_
        refine Ds rfl rfl rfl rfl rfl ?_
        refine Ds rfl rfl rfl rfl rfl ?_
        refine Ds rfl rfl rfl rfl rfl ?_
        refine Dv rfl rfl rfl (U_pick_t rfl rfl) rfl rfl ?_
        refine Dr.nil rfl ?_
        exact joinTo id ⟨eD rfl rfl, eD rfl rfl, eD rfl rfl, trivial⟩ trivial rfl rfl rfl rfl (fun _ _ => rfl)
      · rw [hg2]
        refine Dv rfl rfl rfl (U_move rfl) rfl rfl ?_
        refine Dv rfl rfl rfl (U_gtr rfl rfl) rfl rfl ?_
        refine Dv rfl rfl rfl (U_move rfl) rfl rfl ?_
        refine Dsplit (t := 19) rfl (fun hg3 => ?_) (fun hg3 => ?_)
        · rw [hg3]
          have hg3' : 0 < ((k : Nat) : Int) := of_decide_eq_true hg3
          refine Dv rfl rfl rfl (U_move rfl) rfl rfl ?_
          refine Dv rfl rfl rfl (U_move rfl) rfl rfl ?_
          refine Dv rfl rfl rfl (U_indexR (j := k) rfl rfl rfl hx1) rfl rfl ?_
          refine Dv rfl rfl rfl (U_load1 rfl rfl (getM hx1)) rfl rfl ?_
          refine Dv rfl rfl rfl (U_move rfl) rfl rfl ?_
          refine Dv rfl rfl rfl (U_move rfl) rfl rfl ?_
          refine Dv rfl rfl rfl (U_sub rfl rfl (w64e (m := ((k - 1 : Nat) : Int)) (by omega) (by omega) (by omega))) rfl rfl ?_
          have hx4 : (k - 1) < ks.length := by omega
          refine Dv rfl rfl rfl (U_indexR (j := (k - 1)) rfl rfl rfl hx4) rfl rfl ?_
          refine Dv rfl rfl rfl (U_load1 rfl rfl (getM hx4)) rfl rfl ?_
          refine Dv rfl rfl rfl (U_leq rfl rfl) rfl rfl ?_
          refine Dv rfl rfl rfl (U_pick_t rfl rfl) rfl rfl ?_
          refine Dv rfl rfl rfl (U_pick_f rfl rfl) rfl rfl ?_
          refine Dr.nil rfl ?_
          exact joinTo id ⟨eD rfl rfl, eD rfl rfl, eD rfl rfl, trivial⟩ trivial rfl rfl rfl rfl (fun _ _ => rfl)
        · rw [hg3]
          have hg3' : ¬ (0 < ((k : Nat) : Int)) := of_decide_eq_false hg3
          refine Ds rfl rfl rfl rfl rfl ?_
          refine Ds rfl rfl rfl rfl rfl ?_
          refine Ds rfl rfl rfl rfl rfl ?_
          refine Ds rfl rfl rfl rfl rfl ?_
          refine Ds rfl rfl rfl rfl rfl ?_
          refine Ds rfl rfl rfl rfl rfl ?_
          refine Ds rfl rfl rfl rfl rfl ?_
          refine Ds rfl rfl rfl rfl rfl ?_
          refine Ds rfl rfl rfl rfl rfl ?_
          refine Ds rfl rfl rfl rfl rfl ?_
          refine Dv rfl rfl rfl (U_pick_f rfl rfl) rfl rfl ?_
          refine Dv rfl rfl rfl (U_pick_f rfl rfl) rfl rfl ?_
          refine Dr.nil rfl ?_
          exact joinTo id ⟨eD rfl rfl, eD rfl rfl, eD rfl rfl, trivial⟩ trivial rfl rfl rfl rfl (fun _ _ => rfl)
    refine thenQ_n ?_
    refine Wcond rfl rfl (fun hc1 => ?_) (fun hc1 => ?_)
    · refine W_seq rfl ?_
      refine W_reg rfl ?_
      refine Rv rfl rfl rfl (U_assign rfl) rfl rfl ?_
      refine Re rfl ?_
      refine thenQ_n ?_
      refine W_ret rfl ?_
      refine blkQ_r ?_
      refine thenQ_r ?_
      refine thenQ_r ?_
      refine blkQ_r ?_
      refine thenQ_r ?_
      exact retL (rlT rfl rl0) (by first | rfl | (simp only [packA]; rw [chkK, if_neg (kr_bad hck hc1)]; first | done | rfl) | (simp only [packA]; rw [chkK, if_pos (okK_of (fun j hj => (hi0_1 j hj (by omega)).1) fun j hj => by simpa using (hi0_1 (j + 1) hj (by omega)).2 (Nat.succ_pos _))]; first | done | rfl)) rfl
    · have hc1' := Bool.eq_false_iff.1 hc1
      refine W_skip rfl ?_
      refine blkQ_n ?_
      refine thenQ_n ?_
      refine W_reg rfl ?_
      refine Rv rfl rfl rfl (U_move rfl) rfl rfl ?_
      refine Rv rfl rfl rfl (U_add rfl rfl (w64e (m := ((k + 1 : Nat) : Int)) (by omega) (by omega) (by omega))) rfl rfl ?_
      refine Rv rfl rfl rfl (U_assign rfl) rfl rfl ?_
      refine Re rfl ?_
      refine thenQ_n ?_
      exact againTo (T' := [(0, .ros (ks.map i64) ks.length c), (3, i64 (((k + 1) : Nat) : Int))]) (H' := []) (n := 0) (ks.length - (k + 1)) ⟨k + 1, (by omega), (by intro j hj h; rcases Nat.lt_succ_iff_lt_or_eq.1 h with h | rfl; exact hi0_1 j hj h; exact kr_ok hj hc1), rfl, rfl⟩ (by omega) id ⟨eD rfl rfl, eD rfl rfl, trivial⟩ trivial rfl rfl rfl rfl (fun _ _ => rfl)
  · refine W_exit rfl ?_
    refine thenQ_x ?_
    refine thenQ_x ?_
    refine blkQ_x rfl ?_
    refine thenQ_n ?_
    refine W_seq rfl ?_
    refine W_reg rfl ?_
    refine Rv rfl rfl rfl (U_assign rfl) rfl rfl ?_
    refine Re rfl ?_
    refine thenQ_n ?_
    refine W_ret rfl ?_
    exact retL (rlT rfl rl0) (by first | rfl | (simp only [packA]; rw [chkK, if_neg (kr_bad hck hc1)]; first | done | rfl) | (simp only [packA]; rw [chkK, if_pos (okK_of (fun j hj => (hi0_1 j hj (by omega)).1) fun j hj => by simpa using (hi0_1 (j + 1) hj (by omega)).2 (Nat.succ_pos _))]; first | done | rfl)) rfl
end Go.Proofs.Ythoodfiacfmhgaa
end

section
/- Contracts of package plate: motions after one another, spots. -/
namespace Go.Proofs.Ythoodfiacfmhgaa
set_option maxRecDepth 20000
open Go.AE
/-- A quarter turn. -/
def rotS (n : Int) (p : Int × Int) : Int × Int := (p.2, n - 1 - p.1)
def rotN (n : Int) : Nat → Int × Int → Int × Int
  | 0, p => p
  | k + 1, p => rotS n (rotN n k p)
/-- To which spot a motion brings what is in one. -/
def toS (n m : Int) (p : Int × Int) : Int × Int := rotN n (m % 4).toNat (p.1, if 4 ≤ m then n - 1 - p.2 else p.2)
def InS (n : Int) (p : Int × Int) : Prop := 0 ≤ p.1 ∧ p.1 < n ∧ 0 ≤ p.2 ∧ p.2 < n
theorem rotN_in {n : Int} {p : Int × Int} (h : InS n p) : ∀ k, InS n (rotN n k p)
  | 0 => h
  | k + 1 => by
    have := rotN_in h k
    unfold InS at *
    simp only [rotN, rotS]; omega
theorem mir_in {n m : Int} {p : Int × Int} (h : InS n p) : InS n (p.1, if 4 ≤ m then n - 1 - p.2 else p.2) := by
  unfold InS at *; simp only; split <;> omega
theorem toS_in {n m : Int} {p : Int × Int} (h : InS n p) : InS n (toS n m p) := rotN_in (mir_in h) _
theorem after_in {a b : Int} (ha : 0 ≤ a ∧ a < 8) (hb : 0 ≤ b ∧ b < 8) : 0 ≤ aft a b ∧ aft a b < 8 := by unfold aft; split <;> omega
theorem after_p (a b : Int) (ha : 0 ≤ a ∧ a < 8) (hb : 0 ≤ b ∧ b < 8) : Pure Try.prog 67 [i64 a, i64 b] (i64 (aft a b)) := by
  refine pure_of_body Try.func67 (c := body Try.f67) rfl (by simp [Try.ntmps67]) fun w0 Φ0 => ?_
  refine W_seq rfl ?_
  refine W_reg rfl ?_
  refine Rv rfl rfl rfl (U_assign rfl) rfl rfl ?_
  refine Re rfl ?_
  refine thenQ_n ?_
  refine W_seq rfl ?_
  refine W_reg rfl ?_
  refine Rv rfl rfl rfl (U_move rfl) rfl rfl ?_
  refine Rv rfl rfl rfl (U_rem (c := (a % 4)) rfl rfl (by omega) (tmodP (by omega))) rfl rfl ?_
  refine Rv rfl rfl rfl (U_move rfl) rfl rfl ?_
  refine Rv rfl rfl rfl (U_rem (c := (b % 4)) rfl rfl (by omega) (tmodP (by omega))) rfl rfl ?_
  refine Rv rfl rfl rfl (U_add rfl rfl (w64 (by omega) (by omega))) rfl rfl ?_
  refine Rv rfl rfl rfl (U_assign rfl) rfl rfl ?_
  refine Re rfl ?_
  refine thenQ_n ?_
  refine W_seq rfl ?_
  refine W_seq rfl ?_
  refine W_reg rfl ?_
  refine Rv rfl rfl rfl (U_move rfl) rfl rfl ?_
  refine Rv rfl rfl rfl (U_geq rfl rfl) rfl rfl ?_
  refine Re rfl ?_
  refine thenQ_n ?_
  refine Wjoin ⟨[(0, i64 a), (1, i64 b), (5, i64 (if 4 ≤ b then (((b % 4) - (a % 4)) + 4) else ((a % 4) + (b % 4))))], [], 0, []⟩ ?_ ?_
  · refine WcondP rfl rfl (fun hc0 => ?_) (fun hc0 => ?_)
    · refine W_reg rfl ?_
      refine Rv rfl rfl rfl (U_move rfl) rfl rfl ?_
      refine Rv rfl rfl rfl (U_rem (c := (b % 4)) rfl rfl (by omega) (tmodP (by omega))) rfl rfl ?_
      refine Rv rfl rfl rfl (U_move rfl) rfl rfl ?_
      refine Rv rfl rfl rfl (U_rem (c := (a % 4)) rfl rfl (by omega) (tmodP (by omega))) rfl rfl ?_
      refine Rv rfl rfl rfl (U_sub rfl rfl (w64 (by omega) (by omega))) rfl rfl ?_
      refine Rv rfl rfl rfl (U_add rfl rfl (w64 (by omega) (by omega))) rfl rfl ?_
      refine Rv rfl rfl rfl (U_assign rfl) rfl rfl ?_
      refine Re rfl ?_
      exact joinTo id ⟨eD rfl rfl, eD rfl rfl, eD (by first | rfl | (rw [if_pos hc0]; rfl) | (rw [if_neg hc0]; rfl) | (rw [if_neg (Bool.eq_false_iff.1 hc0)]; rfl)) rfl, trivial⟩ trivial rfl rfl rfl rfl (fun _ _ => rfl)
    · refine W_skip rfl ?_
      exact joinTo id ⟨eD rfl rfl, eD rfl rfl, eD (by first | rfl | (rw [if_pos hc0]; rfl) | (rw [if_neg hc0]; rfl) | (rw [if_neg (Bool.eq_false_iff.1 hc0)]; rfl)) rfl, trivial⟩ trivial rfl rfl rfl rfl (fun _ _ => rfl)
  refine thenQ_n ?_
  refine W_seq rfl ?_
  refine W_reg rfl ?_
  refine Rv rfl rfl rfl (U_move rfl) rfl rfl ?_
  refine Rv rfl rfl rfl (U_rem (c := ((if 4 ≤ b then (((b % 4) - (a % 4)) + 4) else ((a % 4) + (b % 4))) % 4)) rfl rfl (by omega) (tmodP (by omega))) rfl rfl ?_
  refine Rv rfl rfl rfl (U_move rfl) rfl rfl ?_
  refine Rv rfl rfl rfl (U_quo (c := (a / 4)) rfl rfl (by omega) (wquoP (by omega) (by omega) (by omega))) rfl rfl ?_
  refine Rv rfl rfl rfl (U_move rfl) rfl rfl ?_
  refine Rv rfl rfl rfl (U_quo (c := (b / 4)) rfl rfl (by omega) (wquoP (by omega) (by omega) (by omega))) rfl rfl ?_
  refine Rv rfl rfl rfl (U_add rfl rfl (w64 (by omega) (by omega))) rfl rfl ?_
  refine Rv rfl rfl rfl (U_rem (c := (((a / 4) + (b / 4)) % 2)) rfl rfl (by omega) (tmodP (by omega))) rfl rfl ?_
  refine Rv rfl rfl rfl (U_mul rfl rfl (w64 (by omega) (by omega))) rfl rfl ?_
  refine Rv rfl rfl rfl (U_add rfl rfl (w64 (by omega) (by omega))) rfl rfl ?_
  refine Rv rfl rfl rfl (U_assign rfl) rfl rfl ?_
  refine Re rfl ?_
  refine thenQ_n ?_
  refine W_ret rfl ?_
  exact retL (rlT rfl rl0) (by first | rfl | (simp only [packA]; congr 1; unfold aft; split <;> rfl; first | done | rfl)) rfl
theorem inverse_p (m : Int) (hm : 0 ≤ m ∧ m < 8) : Pure Try.prog 94 [i64 m] (i64 (invM m)) := by
  refine pure_of_body Try.func94 (c := body Try.f94) rfl (by simp [Try.ntmps94]) fun w0 Φ0 => ?_
  refine W_seq rfl ?_
  refine W_reg rfl ?_
  refine Rv rfl rfl rfl (U_assign rfl) rfl rfl ?_
  refine Re rfl ?_
  refine thenQ_n ?_
  refine W_seq rfl ?_
  refine W_seq rfl ?_
  refine W_reg rfl ?_
  refine Rv rfl rfl rfl (U_move rfl) rfl rfl ?_
  refine Rv rfl rfl rfl (U_geq rfl rfl) rfl rfl ?_
  refine Re rfl ?_
  refine thenQ_n ?_
  refine WcondP rfl rfl (fun hc0 => ?_) (fun hc0 => ?_)
  · refine W_seq rfl ?_
    refine W_reg rfl ?_
    refine Rv rfl rfl rfl (U_move rfl) rfl rfl ?_
    refine Rv rfl rfl rfl (U_assign rfl) rfl rfl ?_
    refine Re rfl ?_
    refine thenQ_n ?_
    refine W_ret rfl ?_
    refine thenQ_r ?_
    exact retL (rlT rfl rl0) (by first | rfl | (simp only [packA]; rw [invM, if_pos hc0]; first | done | rfl) | (simp only [packA]; rw [invM, if_neg hc0]; first | done | rfl)) rfl
  · refine W_skip rfl ?_
    refine thenQ_n ?_
    refine W_seq rfl ?_
    refine W_reg rfl ?_
    refine Rv rfl rfl rfl (U_move rfl) rfl rfl ?_
    refine Rv rfl rfl rfl (U_sub rfl rfl (w64 (by omega) (by omega))) rfl rfl ?_
    refine Rv rfl rfl rfl (U_rem (c := ((4 - m) % 4)) rfl rfl (by omega) (tmodP (by omega))) rfl rfl ?_
    refine Rv rfl rfl rfl (U_assign rfl) rfl rfl ?_
    refine Re rfl ?_
    refine thenQ_n ?_
    refine W_ret rfl ?_
    exact retL (rlT rfl rl0) (by first | rfl | (simp only [packA]; rw [invM, if_pos hc0]; first | done | rfl) | (simp only [packA]; rw [invM, if_neg hc0]; first | done | rfl)) rfl
theorem to_p (n m : Int) (p : Int × Int) (hn : 1 ≤ n ∧ n ≤ 8) (hm : 0 ≤ m ∧ m < 8) (hp : InS n p) : Pure Try.prog 90 [spotA p, i64 n, i64 m] (spotA (toS n m p)) := by
  have hp' := hp
  unfold InS at hp'
  refine pure_of_body Try.func90 (c := body Try.f90) rfl (by simp [Try.ntmps90]) fun w0 Φ0 => ?_
  refine W_seq rfl ?_
  refine W_reg rfl ?_
  refine Ra rfl rfl rfl (U_box rfl rfl) rfl rfl rfl ?_
  refine Ra rfl rfl rfl (U_alloc) rfl rfl rfl ?_
  refine Re rfl ?_
  refine thenQ_n ?_
  refine W_seq rfl ?_
  refine W_seq rfl ?_
  refine W_reg rfl ?_
  refine Rv rfl rfl rfl (U_move rfl) rfl rfl ?_
  refine Rv rfl rfl rfl (U_geq rfl rfl) rfl rfl ?_
  refine Re rfl ?_
  refine thenQ_n ?_
  refine Wjoin ⟨[(1, i64 n), (2, i64 m), (3, .ptr 0 0), (6, .ptr 1 0)], [(0, some (.cells [i64 p.1, i64 (if 4 ≤ m then ((n - 1) - p.2) else p.2)] 104)), (1, some (.cells [i64 0, i64 0] 104))], 2, []⟩ ?_ ?_
  · refine WcondP rfl rfl (fun hm4 => ?_) (fun hm4 => ?_)
    · refine W_reg rfl ?_
      refine Rv rfl rfl rfl (U_move rfl) rfl rfl ?_
      refine Rv rfl rfl rfl (U_sub rfl rfl (w64 (by omega) (by omega))) rfl rfl ?_
      refine Rv rfl rfl rfl (U_fieldAddr rfl) rfl rfl ?_
      refine Rv rfl rfl rfl (U_load1 rfl rfl rfl) rfl rfl ?_
      refine Rv rfl rfl rfl (U_sub rfl rfl (w64 (by omega) (by omega))) rfl rfl ?_
      refine Rv rfl rfl rfl (U_fieldAddr rfl) rfl rfl ?_
      refine Rn rfl rfl rfl (U_store rfl rfl rfl rfl rfl (Nat.le_of_ble_eq_true rfl) rfl rfl) rfl ?_
      refine Re rfl ?_
      exact joinTo id ⟨eD rfl rfl, eD rfl rfl, e_ rfl rfl, e_ rfl rfl, trivial⟩ ⟨rD rfl (by first | rfl | (rw [if_pos hm4]; rfl) | (rw [if_neg hm4]; rfl) | (rw [if_neg (Bool.eq_false_iff.1 hm4)]; rfl)) rfl, rD rfl rfl rfl, trivial⟩ rfl rfl rfl rfl (fun _ _ => rfl)
    · refine W_skip rfl ?_
      exact joinTo id ⟨eD rfl rfl, eD rfl rfl, e_ rfl rfl, e_ rfl rfl, trivial⟩ ⟨rD rfl (by first | rfl | (rw [if_pos hm4]; rfl) | (rw [if_neg hm4]; rfl) | (rw [if_neg (Bool.eq_false_iff.1 hm4)]; rfl)) rfl, rD rfl rfl rfl, trivial⟩ rfl rfl rfl rfl (fun _ _ => rfl)
  refine thenQ_n ?_
  refine W_seq rfl ?_
  refine W_seq rfl ?_
  refine W_reg rfl ?_
  refine Rv rfl rfl rfl (U_move rfl) rfl rfl ?_
  refine Rv rfl rfl rfl (U_rem (c := (m % 4)) rfl rfl (by omega) (tmodP (by omega))) rfl rfl ?_
  refine Rv rfl rfl rfl (U_move rfl) rfl rfl ?_
  refine Re rfl ?_
  refine thenQ_n ?_
  refine W_block rfl ?_
  refine LoopTo (T' := [(1, i64 n), (3, .ptr 0 0), (6, .ptr 1 0), (16, i64 (m % 4)), (17, i64 ((0 : Nat) : Int))]) (H' := [(0, some (.cells [i64 (p.1, if 4 ≤ m then n - 1 - p.2 else p.2).1, i64 (p.1, if 4 ≤ m then n - 1 - p.2 else p.2).2] 104)), (1, some (.cells [i64 0, i64 0] 104))]) (n := 2) rfl (fun mz_ qz_ => ∃ (k : Nat) (q : Int × Int), k ≤ (m % 4).toNat ∧ q = rotN n k (p.1, if 4 ≤ m then n - 1 - p.2 else p.2) ∧ InS n q ∧ mz_ = (m % 4).toNat - k ∧ qz_ = ⟨[(1, i64 n), (3, .ptr 0 0), (6, .ptr 1 0), (16, i64 (m % 4)), (17, i64 ((k : Nat) : Int))], [(0, some (.cells [i64 q.1, i64 q.2] 104)), (1, some (.cells [i64 0, i64 0] 104))], 2, []⟩) ⟨0, (p.1, if 4 ≤ m then n - 1 - p.2 else p.2), (by omega), rfl, (mir_in hp), rfl, rfl⟩ id ⟨eD rfl rfl, e_ rfl rfl, e_ rfl rfl, eD rfl rfl, eD rfl rfl, trivial⟩ ⟨rD rfl rfl rfl, rD rfl rfl rfl, trivial⟩ rfl rfl rfl rfl (fun _ _ => rfl) ?_
  rintro _ _ ⟨k, q, hi0_0, hi0_1, hi0_2, rfl, rfl⟩
  have hq := hi0_2
  unfold InS at hq
  refine W_seq rfl ?_
  refine W_reg rfl ?_
  refine Rv rfl rfl rfl (U_lss rfl rfl) rfl rfl ?_
  refine Re rfl ?_
  refine thenQ_n ?_
  refine W_seq rfl ?_
  refine WcondP rfl rfl (fun hc1 => ?_) (fun hc1 => ?_)
  · refine W_skip rfl ?_
    refine thenQ_n ?_
    refine W_seq rfl ?_
    refine W_block rfl ?_
    refine W_reg rfl ?_
    refine Rv rfl rfl rfl (U_fieldAddr rfl) rfl rfl ?_
    refine Rv rfl rfl rfl (U_load1 rfl rfl rfl) rfl rfl ?_
    refine Rv rfl rfl rfl (U_move rfl) rfl rfl ?_
    refine Rv rfl rfl rfl (U_sub rfl rfl (w64 (by omega) (by omega))) rfl rfl ?_
    refine Rv rfl rfl rfl (U_fieldAddr rfl) rfl rfl ?_
    refine Rv rfl rfl rfl (U_load1 rfl rfl rfl) rfl rfl ?_
    refine Rv rfl rfl rfl (U_sub rfl rfl (w64 (by omega) (by omega))) rfl rfl ?_
    refine Rv rfl rfl rfl (U_fieldAddr rfl) rfl rfl ?_
    refine Rn rfl rfl rfl (U_store rfl rfl rfl rfl rfl (Nat.le_of_ble_eq_true rfl) rfl rfl) rfl ?_
    refine Rv rfl rfl rfl (U_fieldAddr rfl) rfl rfl ?_
    refine Rn rfl rfl rfl (U_store rfl rfl rfl rfl rfl (Nat.le_of_ble_eq_true rfl) rfl rfl) rfl ?_
    refine Re rfl ?_
    refine blkQ_n ?_
    refine thenQ_n ?_
    refine W_reg rfl ?_
    refine Rv rfl rfl rfl (U_add rfl rfl (w64e (m := ((k + 1 : Nat) : Int)) (by omega) (by omega) (by omega))) rfl rfl ?_
    refine Rv rfl rfl rfl (U_move rfl) rfl rfl ?_
    refine Re rfl ?_
    refine thenQ_n ?_
    exact againTo (T' := [(1, i64 n), (3, .ptr 0 0), (6, .ptr 1 0), (16, i64 (m % 4)), (17, i64 (((k + 1) : Nat) : Int))]) (H' := [(0, some (.cells [i64 (rotS n q).1, i64 (rotS n q).2] 104)), (1, some (.cells [i64 0, i64 0] 104))]) (n := 2) ((m % 4).toNat - (k + 1)) ⟨k + 1, rotS n q, (by omega), (by rw [rotN, ← hi0_1]), (by rw [hi0_1]; exact rotN_in (mir_in (m := m) hp) (k + 1)), rfl, rfl⟩ (by omega) id ⟨eD rfl rfl, e_ rfl rfl, e_ rfl rfl, eD rfl rfl, eD rfl rfl, trivial⟩ ⟨rD rfl rfl rfl, rD rfl rfl rfl, trivial⟩ rfl rfl rfl rfl (fun _ _ => rfl)
  · refine W_exit rfl ?_
    refine thenQ_x ?_
    refine thenQ_x ?_
    refine blkQ_x rfl ?_
    refine thenQ_n ?_
    refine W_seq rfl ?_
    refine W_reg rfl ?_
    refine Rv rfl rfl rfl (U_load2 rfl rfl rfl rfl) rfl rfl ?_
    refine Rn rfl rfl rfl (U_storeAll rfl rfl rfl rfl rfl rfl) rfl ?_
    refine Re rfl ?_
    refine thenQ_n ?_
    refine W_ret rfl ?_
    exact retL (rlA rfl rfl rfl rl0) (by first | rfl | (simp only [packA]; rw [hi0_1, show k = (m % 4).toNat by omega]; rfl; first | done | rfl)) rfl
theorem toR_p (n m r c : Int) (hn : 1 ≤ n ∧ n ≤ 8) (hm : 0 ≤ m ∧ m < 8) (hp : InS n (r, c)) : Pure Try.prog 88 [i64 n, i64 m, i64 r, i64 c] (.tup [i64 (toS n m (r, c)).1, i64 (toS n m (r, c)).2]) := by
  have hp' := hp
  unfold InS at hp'
  refine pure_of_body Try.func88 (c := body Try.f88) rfl (by simp [Try.ntmps88]) fun w0 Φ0 => ?_
  refine W_seq rfl ?_
  refine W_reg rfl ?_
  refine Rv rfl rfl rfl (U_assign rfl) rfl rfl ?_
  refine Rv rfl rfl rfl (U_assign rfl) rfl rfl ?_
  refine Re rfl ?_
  refine thenQ_n ?_
  refine W_seq rfl ?_
  refine W_seq rfl ?_
  refine W_reg rfl ?_
  refine Rv rfl rfl rfl (U_move rfl) rfl rfl ?_
  refine Rv rfl rfl rfl (U_geq rfl rfl) rfl rfl ?_
  refine Re rfl ?_
  refine thenQ_n ?_
  refine Wjoin ⟨[(0, i64 n), (1, i64 m), (2, i64 r), (3, i64 (if 4 ≤ m then ((n - 1) - c) else c))], [], 0, []⟩ ?_ ?_
  · refine WcondP rfl rfl (fun hm4 => ?_) (fun hm4 => ?_)
    · refine W_reg rfl ?_
      refine Rv rfl rfl rfl (U_move rfl) rfl rfl ?_
      refine Rv rfl rfl rfl (U_sub rfl rfl (w64 (by omega) (by omega))) rfl rfl ?_
      refine Rv rfl rfl rfl (U_move rfl) rfl rfl ?_
      refine Rv rfl rfl rfl (U_sub rfl rfl (w64 (by omega) (by omega))) rfl rfl ?_
      refine Rv rfl rfl rfl (U_assign rfl) rfl rfl ?_
      refine Re rfl ?_
      exact joinTo id ⟨eD rfl rfl, eD rfl rfl, eD rfl rfl, eD (by first | rfl | (rw [if_pos hm4]; rfl) | (rw [if_neg hm4]; rfl) | (rw [if_neg (Bool.eq_false_iff.1 hm4)]; rfl)) rfl, trivial⟩ trivial rfl rfl rfl rfl (fun _ _ => rfl)
    · refine W_skip rfl ?_
      exact joinTo id ⟨eD rfl rfl, eD rfl rfl, eD rfl rfl, eD (by first | rfl | (rw [if_pos hm4]; rfl) | (rw [if_neg hm4]; rfl) | (rw [if_neg (Bool.eq_false_iff.1 hm4)]; rfl)) rfl, trivial⟩ trivial rfl rfl rfl rfl (fun _ _ => rfl)
  refine thenQ_n ?_
  refine W_seq rfl ?_
  refine W_seq rfl ?_
  refine W_reg rfl ?_
  refine Rv rfl rfl rfl (U_assign rfl) rfl rfl ?_
  refine Re rfl ?_
  refine thenQ_n ?_
  refine W_block rfl ?_
  refine LoopTo (T' := [(0, i64 n), (1, i64 m), (2, i64 (r, if 4 ≤ m then n - 1 - c else c).1), (3, i64 (r, if 4 ≤ m then n - 1 - c else c).2), (10, i64 ((0 : Nat) : Int))]) (H' := []) (n := 0) rfl (fun mz_ qz_ => ∃ (k : Nat) (q : Int × Int), k ≤ (m % 4).toNat ∧ q = rotN n k (r, if 4 ≤ m then n - 1 - c else c) ∧ InS n q ∧ mz_ = (m % 4).toNat - k ∧ qz_ = ⟨[(0, i64 n), (1, i64 m), (2, i64 q.1), (3, i64 q.2), (10, i64 ((k : Nat) : Int))], [], 0, []⟩) ⟨0, (r, if 4 ≤ m then n - 1 - c else c), (by omega), rfl, (mir_in (p := (r, c)) hp), rfl, rfl⟩ id ⟨eD rfl rfl, eD rfl rfl, eD rfl rfl, eD rfl rfl, eD rfl rfl, trivial⟩ trivial rfl rfl rfl rfl (fun _ _ => rfl) ?_
  rintro _ _ ⟨k, q, hi0_0, hi0_1, hi0_2, rfl, rfl⟩
  have hq := hi0_2
  unfold InS at hq
  refine W_seq rfl ?_
  refine W_seq rfl ?_
  refine W_reg rfl ?_
  refine Rv rfl rfl rfl (U_move rfl) rfl rfl ?_
  refine Rv rfl rfl rfl (U_move rfl) rfl rfl ?_
  refine Rv rfl rfl rfl (U_rem (c := (m % 4)) rfl rfl (by omega) (tmodP (by omega))) rfl rfl ?_
  refine Rv rfl rfl rfl (U_lss rfl rfl) rfl rfl ?_
  refine Re rfl ?_
  refine thenQ_n ?_
  refine WcondP rfl rfl (fun hc1 => ?_) (fun hc1 => ?_)
  · refine W_skip rfl ?_
    refine thenQ_n ?_
    refine W_seq rfl ?_
    refine W_block rfl ?_
    refine W_reg rfl ?_
    refine Rv rfl rfl rfl (U_move rfl) rfl rfl ?_
    refine Rv rfl rfl rfl (U_move rfl) rfl rfl ?_
    refine Rv rfl rfl rfl (U_sub rfl rfl (w64 (by omega) (by omega))) rfl rfl ?_
    refine Rv rfl rfl rfl (U_move rfl) rfl rfl ?_
    refine Rv rfl rfl rfl (U_sub rfl rfl (w64 (by omega) (by omega))) rfl rfl ?_
    refine Rv rfl rfl rfl (U_assign rfl) rfl rfl ?_
    refine Rv rfl rfl rfl (U_assign rfl) rfl rfl ?_
    refine Re rfl ?_
    refine blkQ_n ?_
    refine thenQ_n ?_
    refine W_reg rfl ?_
    refine Rv rfl rfl rfl (U_move rfl) rfl rfl ?_
    refine Rv rfl rfl rfl (U_add rfl rfl (w64e (m := ((k + 1 : Nat) : Int)) (by omega) (by omega) (by omega))) rfl rfl ?_
    refine Rv rfl rfl rfl (U_assign rfl) rfl rfl ?_
    refine Re rfl ?_
    refine thenQ_n ?_
    exact againTo (T' := [(0, i64 n), (1, i64 m), (2, i64 (rotS n q).1), (3, i64 (rotS n q).2), (10, i64 (((k + 1) : Nat) : Int))]) (H' := []) (n := 0) ((m % 4).toNat - (k + 1)) ⟨k + 1, rotS n q, (by omega), (by rw [rotN, ← hi0_1]), (by rw [hi0_1]; exact rotN_in (mir_in (m := m) (p := (r, c)) hp) (k + 1)), rfl, rfl⟩ (by omega) id ⟨eD rfl rfl, eD rfl rfl, eD rfl rfl, eD rfl rfl, eD rfl rfl, trivial⟩ trivial rfl rfl rfl rfl (fun _ _ => rfl)
  · refine W_exit rfl ?_
    refine thenQ_x ?_
    refine thenQ_x ?_
    refine blkQ_x rfl ?_
    refine thenQ_n ?_
    refine W_seq rfl ?_
    refine W_reg rfl ?_
    refine Rv rfl rfl rfl (U_move rfl) rfl rfl ?_
    refine Rv rfl rfl rfl (U_move rfl) rfl rfl ?_
    refine Rv rfl rfl rfl (U_assign rfl) rfl rfl ?_
    refine Rv rfl rfl rfl (U_assign rfl) rfl rfl ?_
    refine Re rfl ?_
    refine thenQ_n ?_
    refine W_ret rfl ?_
    exact retL (rlT rfl (rlT rfl rl0)) (by first | rfl | (simp only [packA]; rw [hi0_1, show k = (m % 4).toNat by omega]; rfl; first | done | rfl)) rfl
/-- Whether two motions bring the first spots of a plate of three rows where a third one does. -/
def sameB (a b m : Int) (k : Nat) : Bool := (List.range k).all fun i => decide (toS 3 b (toS 3 a (0, (i : Nat))) = toS 3 m (0, (i : Nat)))
theorem sameB_succ {a b m : Int} {k : Nat} : sameB a b m (k + 1) = (sameB a b m k && decide (toS 3 b (toS 3 a (0, (k : Nat))) = toS 3 m (0, (k : Nat)))) := by
  simp [sameB, List.range_succ]
theorem pair_eq {x y : Int × Int} : decide (x = y) = (decide (x.1 = y.1) && decide (x.2 = y.2)) := by
  obtain ⟨a, b⟩ := x; obtain ⟨c, d⟩ := y
  rw [Bool.eq_iff_iff]; simp
def aftL (a b : Int) : Bool := (List.range 8).all fun (m : Nat) => if sameB a b m 2 then decide ((m : Int) = aft a b) else true
def motions : List Int := [0, 1, 2, 3, 4, 5, 6, 7]
theorem mo_mem {a : Int} (h : 0 ≤ a ∧ a < 8) : a ∈ motions := by
  have : a = 0 ∨ a = 1 ∨ a = 2 ∨ a = 3 ∨ a = 4 ∨ a = 5 ∨ a = 6 ∨ a = 7 := by omega
  rcases this with rfl | rfl | rfl | rfl | rfl | rfl | rfl | rfl <;> simp [motions]
theorem mo_of {a : Int} (h : a ∈ motions) : 0 ≤ a ∧ a < 8 := by simp [motions] at h; omega
theorem aftL_all : (motions.all fun a => motions.all fun b => aftL a b && (List.range 8).any fun (m : Nat) => sameB a b m 2) = true := by decide +kernel
theorem aft_uniq {a b : Int} (ha : 0 ≤ a ∧ a < 8) (hb : 0 ≤ b ∧ b < 8) {m : Nat} (hm : m < 8) (h : sameB a b m 2 = true) : (m : Int) = aft a b := by
  have := aftL_all
  simp only [List.all_eq_true, Bool.and_eq_true] at this
  have h1 := (this a (mo_mem ha) b (mo_mem hb)).1
  simp only [aftL, List.all_eq_true, List.mem_range] at h1
  have h2 := h1 m hm
  rw [if_pos h] at h2
  simpa using h2
theorem aft_ex {a b : Int} (ha : 0 ≤ a ∧ a < 8) (hb : 0 ≤ b ∧ b < 8) (h : ∀ m : Nat, m < 8 → sameB a b m 2 = false) : False := by
  have := aftL_all
  simp only [List.all_eq_true, Bool.and_eq_true] at this
  have h1 := (this a (mo_mem ha) b (mo_mem hb)).2
  simp only [List.any_eq_true, List.mem_range] at h1
  obtain ⟨m, h2, h3⟩ := h1
  rw [h m h2] at h3; cases h3
theorem afterR_p (a b : Int) (ha : 0 ≤ a ∧ a < 8) (hb : 0 ≤ b ∧ b < 8) : Pure Try.prog 68 [i64 a, i64 b] (i64 (aft a b)) := by
  refine pure_of_body Try.func68 (c := body Try.f68) rfl (by simp [Try.ntmps68]) fun w0 Φ0 => ?_
  refine W_seq rfl ?_
  refine W_reg rfl ?_
  refine Rv rfl rfl rfl (U_assign rfl) rfl rfl ?_
  refine Re rfl ?_
  refine thenQ_n ?_
  refine W_seq rfl ?_
  refine W_seq rfl ?_
  refine W_reg rfl ?_
  refine Rv rfl rfl rfl (U_assign rfl) rfl rfl ?_
  refine Re rfl ?_
  refine thenQ_n ?_
  refine W_block rfl ?_
  refine LoopTo (T' := [(0, i64 a), (1, i64 b), (5, i64 ((0 : Nat) : Int))]) (H' := []) (n := 0) rfl (fun mz_ qz_ => ∃ (m : Nat), m ≤ 8 ∧ (∀ j : Nat, j < m → sameB a b j 2 = false) ∧ mz_ = 8 - m ∧ qz_ = ⟨[(0, i64 a), (1, i64 b), (5, i64 ((m : Nat) : Int))], [], 0, []⟩) ⟨0, (by omega), (fun j hj => absurd hj (Nat.not_lt_zero _)), rfl, rfl⟩ id ⟨eD rfl rfl, eD rfl rfl, eD rfl rfl, trivial⟩ trivial rfl rfl rfl rfl (fun _ _ => rfl) ?_
  rintro _ _ ⟨m, hi0_0, hi0_1, rfl, rfl⟩
  refine W_seq rfl ?_
  refine W_seq rfl ?_
  refine W_reg rfl ?_
  refine Rv rfl rfl rfl (U_move rfl) rfl rfl ?_
  refine Rv rfl rfl rfl (U_lss rfl rfl) rfl rfl ?_
  refine Re rfl ?_
  refine thenQ_n ?_
  refine WcondP rfl rfl (fun hc0 => ?_) (fun hc0 => ?_)
  · refine W_skip rfl ?_
    refine thenQ_n ?_
    refine W_seq rfl ?_
    refine W_block rfl ?_
    refine W_seq rfl ?_
    refine W_reg rfl ?_
    refine Rv rfl rfl rfl (U_assign rfl) rfl rfl ?_
    refine Re rfl ?_
    refine thenQ_n ?_
    refine W_seq rfl ?_
    refine W_seq rfl ?_
    refine W_reg rfl ?_
    refine Rv rfl rfl rfl (U_assign rfl) rfl rfl ?_
    refine Re rfl ?_
    refine thenQ_n ?_
    refine W_block rfl ?_
    refine LoopTo (T' := [(0, i64 a), (1, i64 b), (5, i64 ((m : Nat) : Int)), (6, .bool true), (7, i64 ((0 : Nat) : Int))]) (H' := []) (n := 0) rfl (fun mz_ qz_ => ∃ (i : Nat) (sm : Bool), i ≤ 2 ∧ sm = sameB a b m i ∧ mz_ = 2 - i ∧ qz_ = ⟨[(0, i64 a), (1, i64 b), (5, i64 ((m : Nat) : Int)), (6, .bool sm), (7, i64 ((i : Nat) : Int))], [], 0, []⟩) ⟨0, true, (by omega), rfl, rfl, rfl⟩ id ⟨eD rfl rfl, eD rfl rfl, eD rfl rfl, eD rfl rfl, eD rfl rfl, trivial⟩ trivial rfl rfl rfl rfl (fun _ _ => rfl) ?_
    rintro _ _ ⟨i, sm, hi1_0, hi1_1, rfl, rfl⟩
    refine W_seq rfl ?_
    refine W_seq rfl ?_
    refine W_reg rfl ?_
    refine Rv rfl rfl rfl (U_move rfl) rfl rfl ?_
    refine Rv rfl rfl rfl (U_lss rfl rfl) rfl rfl ?_
    refine Re rfl ?_
    refine thenQ_n ?_
    refine WcondP rfl rfl (fun hc1 => ?_) (fun hc1 => ?_)
    · have hin : InS 3 ((0 : Int), ((i : Nat) : Int)) := by unfold InS; simp only; omega
      refine W_skip rfl ?_
      refine thenQ_n ?_
      refine W_seq rfl ?_
      refine W_block rfl ?_
      refine W_seq rfl ?_
      refine W_reg rfl ?_
      refine Rv rfl rfl rfl (U_move rfl) rfl rfl ?_
      refine Rv rfl rfl rfl (U_move rfl) rfl rfl ?_
      refine Rv rfl rfl rfl (U_call rfl rfl (toR_p 3 a 0 ((i : Nat) : Int) (by omega) (by first | assumption | omega) (by first | assumption | exact toS_in (by assumption) | (unfold InS; simp only; omega))) rfl) rfl rfl ?_
      refine Rv rfl rfl rfl (U_move rfl) rfl rfl ?_
      refine Rv rfl rfl rfl (U_extract rfl rfl) rfl rfl ?_
      refine Rv rfl rfl rfl (U_extract rfl rfl) rfl rfl ?_
      refine Rv rfl rfl rfl (U_assign rfl) rfl rfl ?_
      refine Rv rfl rfl rfl (U_assign rfl) rfl rfl ?_
      refine Re rfl ?_
      refine thenQ_n ?_
      refine W_seq rfl ?_
      refine W_reg rfl ?_
      refine Rv rfl rfl rfl (U_move rfl) rfl rfl ?_
      refine Rv rfl rfl rfl (U_move rfl) rfl rfl ?_
      refine Rv rfl rfl rfl (U_move rfl) rfl rfl ?_
      refine Rv rfl rfl rfl (U_call rfl rfl (toR_p 3 b ((toS 3 a (0, ((i : Nat) : Int))).1) ((toS 3 a (0, ((i : Nat) : Int))).2) (by omega) (by first | assumption | omega) (by first | assumption | exact toS_in (by assumption) | (unfold InS; simp only; omega))) rfl) rfl rfl ?_
      refine Rv rfl rfl rfl (U_move rfl) rfl rfl ?_
      refine Rv rfl rfl rfl (U_extract rfl rfl) rfl rfl ?_
      refine Rv rfl rfl rfl (U_extract rfl rfl) rfl rfl ?_
      refine Rv rfl rfl rfl (U_assign rfl) rfl rfl ?_
      refine Rv rfl rfl rfl (U_assign rfl) rfl rfl ?_
      refine Re rfl ?_
      refine thenQ_n ?_
      refine W_seq rfl ?_
      refine W_reg rfl ?_
      refine Rv rfl rfl rfl (U_move rfl) rfl rfl ?_
      refine Rv rfl rfl rfl (U_move rfl) rfl rfl ?_
      refine Rv rfl rfl rfl (U_call rfl rfl (toR_p 3 ((m : Nat) : Int) 0 ((i : Nat) : Int) (by omega) (by first | assumption | omega) (by first | assumption | exact toS_in (by assumption) | (unfold InS; simp only; omega))) rfl) rfl rfl ?_
      refine Rv rfl rfl rfl (U_move rfl) rfl rfl ?_
      refine Rv rfl rfl rfl (U_extract rfl rfl) rfl rfl ?_
      refine Rv rfl rfl rfl (U_extract rfl rfl) rfl rfl ?_
      refine Rv rfl rfl rfl (U_assign rfl) rfl rfl ?_
      refine Rv rfl rfl rfl (U_assign rfl) rfl rfl ?_
      refine Re rfl ?_
      refine thenQ_n ?_
      refine Wjoin ⟨[(0, i64 a), (1, i64 b), (5, i64 ((m : Nat) : Int)), (6, .bool (sm && ((decide (((toS 3 b (((toS 3 a (0, ((i : Nat) : Int))).1), ((toS 3 a (0, ((i : Nat) : Int))).2))).1) = ((toS 3 ((m : Nat) : Int) (0, ((i : Nat) : Int))).1))) && (decide (((toS 3 b (((toS 3 a (0, ((i : Nat) : Int))).1), ((toS 3 a (0, ((i : Nat) : Int))).2))).2) = ((toS 3 ((m : Nat) : Int) (0, ((i : Nat) : Int))).2)))))), (7, i64 ((i : Nat) : Int))], [], 0, []⟩ ?_ ?_
      · refine W_reg rfl ?_
        refine Rv rfl rfl rfl (U_move rfl) rfl rfl ?_
        refine Rv rfl rfl rfl (U_move rfl) rfl rfl ?_
        refine Rsplit (t := 40) rfl (fun hg1 => ?_) (fun hg1 => ?_)
        · rw [hg1]
          refine Rv rfl rfl rfl (U_move rfl) rfl rfl ?_
          refine Rv rfl rfl rfl (U_move rfl) rfl rfl ?_
          refine Rv rfl rfl rfl (U_eql rfl rfl) rfl rfl ?_
          refine Rv rfl rfl rfl (U_pick_t rfl rfl) rfl rfl ?_
          refine Rv rfl rfl rfl (U_move rfl) rfl rfl ?_
          refine Rsplit (t := 45) rfl (fun hg2 => ?_) (fun hg2 => ?_)
          · rw [hg2]
            have hg2' : ((toS 3 b (((toS 3 a (0, ((i : Nat) : Int))).1), ((toS 3 a (0, ((i : Nat) : Int))).2))).1) = ((toS 3 ((m : Nat) : Int) (0, ((i : Nat) : Int))).1) := of_decide_eq_true hg2
            refine Rv rfl rfl rfl (U_move rfl) rfl rfl ?_
            refine Rv rfl rfl rfl (U_move rfl) rfl rfl ?_
            refine Rv rfl rfl rfl (U_eql rfl rfl) rfl rfl ?_
            refine Rv rfl rfl rfl (U_pick_t rfl rfl) rfl rfl ?_
            refine Rv rfl rfl rfl (U_assign rfl) rfl rfl ?_
            refine Re rfl ?_
            exact joinTo id ⟨eD rfl rfl, eD rfl rfl, eD rfl rfl, eD rfl rfl, eD rfl rfl, trivial⟩ trivial rfl rfl rfl rfl (fun _ _ => rfl)
          · rw [hg2]
            have hg2' : ¬ (((toS 3 b (((toS 3 a (0, ((i : Nat) : Int))).1), ((toS 3 a (0, ((i : Nat) : Int))).2))).1) = ((toS 3 ((m : Nat) : Int) (0, ((i : Nat) : Int))).1)) := of_decide_eq_false hg2
            refine Rs rfl rfl rfl rfl rfl ?_
            refine Rs rfl rfl rfl rfl rfl ?_
            refine Rs rfl rfl rfl rfl rfl ?_
            refine Rv rfl rfl rfl (U_pick_f rfl rfl) rfl rfl ?_
            refine Rv rfl rfl rfl (U_assign rfl) rfl rfl ?_
            refine Re rfl ?_
            exact joinTo id ⟨eD rfl rfl, eD rfl rfl, eD rfl rfl, eD rfl rfl, eD rfl rfl, trivial⟩ trivial rfl rfl rfl rfl (fun _ _ => rfl)
        · rw [hg1]
          refine Rs rfl rfl rfl rfl rfl ?_
          refine Rs rfl rfl rfl rfl rfl ?_
          refine Rs rfl rfl rfl rfl rfl ?_
          refine Rv rfl rfl rfl (U_pick_f rfl rfl) rfl rfl ?_
          refine Rv rfl rfl rfl (U_move rfl) rfl rfl ?_
          refine Rs rfl rfl rfl rfl rfl ?_
          refine Rs rfl rfl rfl rfl rfl ?_
          refine Rs rfl rfl rfl rfl rfl ?_
          refine Rv rfl rfl rfl (U_pick_f rfl rfl) rfl rfl ?_
          refine Rv rfl rfl rfl (U_assign rfl) rfl rfl ?_
          refine Re rfl ?_
          exact joinTo id ⟨eD rfl rfl, eD rfl rfl, eD rfl rfl, eD rfl rfl, eD rfl rfl, trivial⟩ trivial rfl rfl rfl rfl (fun _ _ => rfl)
      refine blkQ_n ?_
      refine thenQ_n ?_
      refine W_reg rfl ?_
      refine Rv rfl rfl rfl (U_move rfl) rfl rfl ?_
      refine Rv rfl rfl rfl (U_add rfl rfl (w64e (m := ((i + 1 : Nat) : Int)) (by omega) (by omega) (by omega))) rfl rfl ?_
      refine Rv rfl rfl rfl (U_assign rfl) rfl rfl ?_
      refine Re rfl ?_
      refine thenQ_n ?_
      exact againTo (T' := [(0, i64 a), (1, i64 b), (5, i64 ((m : Nat) : Int)), (6, .bool (sm && ((decide (((toS 3 b (((toS 3 a (0, ((i : Nat) : Int))).1), ((toS 3 a (0, ((i : Nat) : Int))).2))).1) = ((toS 3 ((m : Nat) : Int) (0, ((i : Nat) : Int))).1))) && (decide (((toS 3 b (((toS 3 a (0, ((i : Nat) : Int))).1), ((toS 3 a (0, ((i : Nat) : Int))).2))).2) = ((toS 3 ((m : Nat) : Int) (0, ((i : Nat) : Int))).2)))))), (7, i64 (((i + 1) : Nat) : Int))]) (H' := []) (n := 0) (2 - (i + 1)) ⟨i + 1, sm && ((decide (((toS 3 b (((toS 3 a (0, ((i : Nat) : Int))).1), ((toS 3 a (0, ((i : Nat) : Int))).2))).1) = ((toS 3 ((m : Nat) : Int) (0, ((i : Nat) : Int))).1))) && (decide (((toS 3 b (((toS 3 a (0, ((i : Nat) : Int))).1), ((toS 3 a (0, ((i : Nat) : Int))).2))).2) = ((toS 3 ((m : Nat) : Int) (0, ((i : Nat) : Int))).2)))), (by omega), (by rw [sameB_succ, pair_eq, ← hi1_1] <;> first | rfl | (simp [*]; done)), rfl, rfl⟩ (by omega) id ⟨eD rfl rfl, eD rfl rfl, eD rfl rfl, eD rfl rfl, eD rfl rfl, trivial⟩ trivial rfl rfl rfl rfl (fun _ _ => rfl)
    · obtain rfl : i = 2 := by omega
      refine W_exit rfl ?_
      refine thenQ_x ?_
      refine thenQ_x ?_
      refine blkQ_x rfl ?_
      refine thenQ_n ?_
      refine W_seq rfl ?_
      refine W_reg rfl ?_
      refine Rv rfl rfl rfl (U_move rfl) rfl rfl ?_
      refine Re rfl ?_
      refine thenQ_n ?_
      refine Wcond rfl rfl (fun hc2 => ?_) (fun hc2 => ?_)
      · refine W_seq rfl ?_
        refine W_reg rfl ?_
        refine Rv rfl rfl rfl (U_move rfl) rfl rfl ?_
        refine Rv rfl rfl rfl (U_assign rfl) rfl rfl ?_
        refine Re rfl ?_
        refine thenQ_n ?_
        refine W_ret rfl ?_
        refine blkQ_r ?_
        refine thenQ_r ?_
        refine thenQ_r ?_
        refine blkQ_r ?_
        refine thenQ_r ?_
        exact retL (rlT rfl rl0) (by first | rfl | (simp only [packA]; rw [aft_uniq ha hb (by omega) (hi1_1 ▸ hc2)]; first | done | rfl) | (simp only [packA]; exact (aft_ex ha hb fun j hj => hi0_1 j (by omega)).elim; first | done | rfl)) rfl
      · have hc2' := Bool.eq_false_iff.1 hc2
        refine W_skip rfl ?_
        refine blkQ_n ?_
        refine thenQ_n ?_
        refine W_reg rfl ?_
        refine Rv rfl rfl rfl (U_move rfl) rfl rfl ?_
        refine Rv rfl rfl rfl (U_add rfl rfl (w64e (m := ((m + 1 : Nat) : Int)) (by omega) (by omega) (by omega))) rfl rfl ?_
        refine Rv rfl rfl rfl (U_assign rfl) rfl rfl ?_
        refine Re rfl ?_
        refine thenQ_n ?_
        exact againTo (T' := [(0, i64 a), (1, i64 b), (5, i64 (((m + 1) : Nat) : Int))]) (H' := []) (n := 0) (8 - (m + 1)) ⟨m + 1, (by omega), (by intro j hj; rcases Nat.lt_succ_iff_lt_or_eq.1 hj with h | rfl; exact hi0_1 j h; rw [← hi1_1]; simpa using hc2), rfl, rfl⟩ (by omega) id ⟨eD rfl rfl, eD rfl rfl, eD rfl rfl, trivial⟩ trivial rfl rfl rfl rfl (fun _ _ => rfl)
  · refine W_exit rfl ?_
    refine thenQ_x ?_
    refine thenQ_x ?_
    refine blkQ_x rfl ?_
    refine thenQ_n ?_
    refine W_seq rfl ?_
    refine W_reg rfl ?_
    refine Rv rfl rfl rfl (U_assign rfl) rfl rfl ?_
    refine Re rfl ?_
    refine thenQ_n ?_
    refine W_ret rfl ?_
    exact retL (rlT rfl rl0) (by first | rfl | (simp only [packA]; rw [aft_uniq ha hb (by omega) (hi1_1 ▸ hc2)]; first | done | rfl) | (simp only [packA]; exact (aft_ex ha hb fun j hj => hi0_1 j (by omega)).elim; first | done | rfl)) rfl
end Go.Proofs.Ythoodfiacfmhgaa
end

section
/- Contracts of package plate: heights. -/
namespace Go.Proofs.Ythoodfiacfmhgaa
set_option maxRecDepth 20000
open Go.AE
/-- The motions that kinds make after one. -/
def doneL (ks : List Int) (mo : Int) : List Int := ks.map (aft mo)
theorem done_it (ks : List Int) (c : Option Nat) (hl : ks.length ≤ 1000000) (hk : ∀ x ∈ ks, 0 ≤ x ∧ x < 8) (mo : Int) (hmo : 0 ≤ mo ∧ mo < 8) : IterP Try.prog 95 [] [.rop [intsA ks c] 0, .rop [i64 mo] 0] ((doneL ks mo).map i64) := by
  intro n m Hs He j Tr ntr ps asg bdy R
  refine mut_of_body Try.func95 (c := body Try.f95) rfl (Nat.le_refl _) (by simp [Try.ntmps95]) fun w0 Φ0 ρ0 => ?_
  refine W_seq rfl ?_
  refine W_reg rfl ?_
  refine Rv rfl rfl rfl (U_load1 rfl rfl rfl) rfl rfl ?_
  refine Rv rfl rfl rfl (U_lenOf rfl len_ros) rfl rfl ?_
  refine Rv rfl rfl rfl (U_move rfl) rfl rfl ?_
  refine Re rfl ?_
  refine thenQ_n ?_
  refine W_block rfl ?_
  refine LoopI (T' := [(0, .yld (n + 1)), (2, .rop [i64 mo] 0), (6, .ros (ks.map i64) ks.length c), (7, i64 ((ks.length : Nat) : Int)), (8, i64 ((0 : Nat) : Int))]) (H' := (lpR n Tr ntr ps asg bdy (Hs 0))) rfl (fun mz_ qz_ => ∃ (k : Nat), k ≤ ks.length ∧ k ≤ m ∧ mz_ = ks.length - k ∧ qz_ = ⟨[(0, .yld (n + 1)), (2, .rop [i64 mo] 0), (6, .ros (ks.map i64) ks.length c), (7, i64 ((ks.length : Nat) : Int)), (8, i64 ((k : Nat) : Int))], (lpR n Tr ntr ps asg bdy (Hs k)), n + 2, []⟩) ⟨0, (by omega), (Nat.zero_le _), rfl, rfl⟩ ⟨(e_ rfl (bltR _)), (eD rfl rfl), (eD rfl rfl), (eD rfl rfl), (eD rfl rfl), trivial⟩ (R.sees (Nat.zero_le _)) (bleR _) ?_
  rintro _ _ ⟨k, hi0_0, hi0_1, rfl, rfl⟩
  refine W_seq rfl ?_
  refine W_reg rfl ?_
  refine Rv rfl rfl rfl (U_lss rfl rfl) rfl rfl ?_
  refine Re rfl ?_
  refine thenQ_n ?_
  refine W_seq rfl ?_
  refine WcondP rfl rfl (fun hc0 => ?_) (fun hc0 => ?_)
  · have hck : k < ks.length := by omega
    have hkk := hk _ (List.getElem_mem hck)
    refine W_skip rfl ?_
    refine thenQ_n ?_
    refine W_seq rfl ?_
    refine W_block rfl ?_
    refine W_seq rfl ?_
    refine W_reg rfl ?_
    have hx1 : k < ks.length := by omega
    refine Rv rfl rfl rfl (U_indexR (j := k) rfl rfl rfl hx1) rfl rfl ?_
    refine Rv rfl rfl rfl (U_load1 rfl rfl (getM hx1)) rfl rfl ?_
    refine Rv rfl rfl rfl (U_assign rfl) rfl rfl ?_
    refine Re rfl ?_
    refine thenQ_n ?_
    refine W_seq rfl ?_
    refine W_reg rfl ?_
    refine Rv rfl rfl rfl (U_move rfl) rfl rfl ?_
    refine Rv rfl rfl rfl (U_load1 rfl rfl rfl) rfl rfl ?_
    refine Rv rfl rfl rfl (U_move rfl) rfl rfl ?_
    refine Rv rfl rfl rfl (U_call rfl rfl (after_p mo ks[k] (by first | assumption | omega) (by first | assumption | omega)) rfl) rfl rfl ?_
    refine RyieldI R (k := k) [(0, .yld (n + 1)), (2, .rop [i64 mo] 0), (6, .ros (ks.map i64) ks.length c), (7, i64 ((ks.length : Nat) : Int)), (8, i64 ((k : Nat) : Int)), (16, .bool true)] [(0, .yld (n + 1)), (2, .rop [i64 mo] 0), (6, .ros (ks.map i64) ks.length c), (7, i64 ((ks.length : Nat) : Int)), (8, i64 ((k : Nat) : Int)), (16, .bool false)] rfl rfl rfl rfl rfl rfl rfl rfl rfl (bleR _) (by simp [doneL, hck]) hi0_1 ⟨(e_ rfl (bltR _)), (eD rfl rfl), (eD rfl rfl), (eD rfl rfl), (eD rfl rfl), e_ rfl rfl, trivial⟩ ⟨(e_ rfl (bltR _)), (eD rfl rfl), (eD rfl rfl), (eD rfl rfl), (eD rfl rfl), e_ rfl rfl, trivial⟩ (fun hm_16 => ?_) (fun hm_16 hl_16 => ?_)
    · refine Rv rfl rfl rfl (U_not rfl) rfl rfl ?_
      refine Re rfl ?_
      refine thenQ_n ?_
      refine Wcond rfl rfl (fun h => nomatch h) (fun _ => ?_)
      refine W_skip rfl ?_
      refine blkQ_n ?_
      refine thenQ_n ?_
      refine W_reg rfl ?_
      refine Rv rfl rfl rfl (U_add rfl rfl (w64e (m := ((k + 1 : Nat) : Int)) (by omega) (by omega) (by omega))) rfl rfl ?_
      refine Rv rfl rfl rfl (U_move rfl) rfl rfl ?_
      refine Re rfl ?_
      refine thenQ_n ?_
      exact againI (T' := [(0, .yld (n + 1)), (2, .rop [i64 mo] 0), (6, .ros (ks.map i64) ks.length c), (7, i64 ((ks.length : Nat) : Int)), (8, i64 (((k + 1) : Nat) : Int))]) (H' := (lpR n Tr ntr ps asg bdy (Hs (k + 1)))) (ks.length - (k + 1)) ⟨k + 1, (by omega), (by omega), rfl, rfl⟩ (by omega) ⟨(e_ rfl (bltR _)), (eD rfl rfl), (eD rfl rfl), (eD rfl rfl), (eD rfl rfl), trivial⟩ (R.sees (by omega)) (bleR _)
    · refine Rv rfl rfl rfl (U_not rfl) rfl rfl ?_
      refine Re rfl ?_
      refine thenQ_n ?_
      refine Wcond rfl rfl (fun _ => ?_) (fun h => nomatch h)
      refine W_ret rfl ?_
      refine blkQ_r ?_
      refine thenQ_r ?_
      refine thenQ_r ?_
      refine blkQ_r ?_
      exact retI R.seesD (by rw [if_pos hl_16]) (bleR _)
  · refine W_exit rfl ?_
    refine thenQ_x ?_
    refine thenQ_x ?_
    refine blkQ_x rfl ?_
    exact retIn (R.sees (by omega)) (by have := R.le; simp only [doneL, List.length_map] at this; obtain rfl : k = m := (by omega); rw [if_neg (show ¬ k < ((doneL ks mo).map i64).length by rw [List.length_map, doneL, List.length_map]; omega)]) (bleR _)
end Go.Proofs.Ythoodfiacfmhgaa
end

section
/- Contracts of package plate: heights. -/
namespace Go.Proofs.Ythoodfiacfmhgaa
set_option maxRecDepth 20000
open Go.AE
theorem done_p (ks : List Int) (c : Option Nat) (mo : Int) : Pure Try.prog 81 [intsA ks c, i64 mo] (.fn 95 [] [.rop [intsA ks c] 0, .rop [i64 mo] 0]) := by
  refine pure_of_body Try.func81 (c := body Try.f81) rfl (by simp [Try.ntmps81]) fun w0 Φ0 => ?_
  refine W_seq rfl ?_
  refine W_reg rfl ?_
  refine Rv rfl rfl rfl (U_boxF rfl rfl rfl) rfl rfl ?_
  refine Rv rfl rfl rfl (U_boxF rfl rfl rfl) rfl rfl ?_
  refine Rv rfl rfl rfl (U_assign rfl) rfl rfl ?_
  refine Re rfl ?_
  refine thenQ_n ?_
  refine W_seq rfl ?_
  refine W_reg rfl ?_
  refine Rv rfl rfl rfl (U_makeFunc rfl rfl) rfl rfl ?_
  refine Rv rfl rfl rfl (U_assign rfl) rfl rfl ?_
  refine Re rfl ?_
  refine thenQ_n ?_
  refine W_ret rfl ?_
  exact retL (rlT rfl rl0) rfl rfl
/-! ### Lists, for the kernel -/
noncomputable def geN (l : List Nat) : Nat → Nat := List.rec (fun _ => 0) (fun x _ ih n => Nat.rec x (fun k _ => ih k) n) l
noncomputable def seN (l : List Nat) : Nat → Nat → List Nat := List.rec (fun _ _ => []) (fun x t ih n v => Nat.rec (v :: t) (fun k _ => x :: ih k v) n) l
noncomputable def fo {α β : Type} (f : β → α → β) (l : List α) : β → β := List.rec (fun h => h) (fun x _ ih h => ih (f h x)) l
noncomputable def eqN (l : List Nat) : List Nat → Bool := List.rec (fun m => m.isEmpty) (fun x _ ih m => List.rec false (fun y t _ => Nat.beq x y && ih t) m) l
theorem geN_eq : ∀ (l : List Nat) (n : Nat), geN l n = l.getD n 0
  | [], n => by simp [geN]
  | x :: l, 0 => rfl
  | x :: l, n + 1 => (geN_eq l n).trans (by simp)
theorem seN_eq : ∀ (l : List Nat) (n v : Nat), seN l n v = l.set n v
  | [], n, v => by simp [seN]
  | x :: l, 0, v => rfl
  | x :: l, n + 1, v => by
    show x :: seN l n v = _
    rw [seN_eq l n v]; rfl
theorem fo_eq {α β : Type} (f : β → α → β) : ∀ (l : List α) (h : β), fo f l h = l.foldl f h
  | [], h => rfl
  | x :: l, h => (fo_eq f l (f h x)).trans rfl
theorem eqN_eq : ∀ {l m : List Nat}, eqN l m = true → l = m
  | [], [], _ => rfl
  | [], _ :: _, h => by cases h
  | _ :: _, [], h => by cases h
  | x :: l, y :: m, h => by
    have h' : (Nat.beq x y && eqN l m) = true := h
    rw [Bool.and_eq_true] at h'
    rw [Nat.eq_of_beq_eq_true h'.1, eqN_eq h'.2]
/-- A motion after one, out of a table. -/
noncomputable def aftN (a b : Nat) : Nat := Nat.land (Nat.shiftRight 321575306750277490633181684487869265274278504432781674120 (Nat.add (Nat.mul 24 a) (Nat.mul 3 b))) 7
theorem aftN_all : (motions.all fun a => motions.all fun b => decide ((aftN a.toNat b.toNat : Int) = aft a b)) = true := by decide +kernel
theorem aftN_eq {a b : Int} (ha : 0 ≤ a ∧ a < 8) (hb : 0 ≤ b ∧ b < 8) : (aftN a.toNat b.toNat : Int) = aft a b := by
  have := aftN_all
  simp only [List.all_eq_true] at this
  simpa using this a (mo_mem ha) b (mo_mem hb)
abbrev n64 (n : Nat) : AV := i64 n
theorem numsOf_n64 : ∀ (l : List Nat), numsOf (l.map n64) = some (l.map Int.ofNat)
  | [] => rfl
  | a :: l => by simp [numsOf, numsOf_n64 l]
theorem kindsA_n64 {n : Nat} : ∀ {l : List Nat}, l.length = n → kindsA (l.map n64) = List.replicate n .i64
  | [], h => by subst h; rfl
  | a :: l, h => by subst h; simp [kindsA, kindsA_n64 (l := l) rfl, List.replicate_succ]
theorem natL_inj {l m : List Nat} : l.map Int.ofNat = m.map Int.ofNat ↔ l = m := ⟨fun h => List.map_inj_right (fun a b e => Int.ofNat.inj e) |>.1 h, fun h => by rw [h]⟩
/-! ### Heights -/
def mn (a b : Nat) : Nat := bif Nat.ble a b then a else b
theorem mn_eq (a b : Nat) : mn a b = min a b := by
  unfold mn
  cases h : Nat.ble a b with
  | true => have := Nat.le_of_ble_eq_true h; simp; omega
  | false => have : ¬ a ≤ b := fun h2 => by rw [Nat.ble_eq_true_of_le h2] at h; cases h
             simp; omega
/-- A motion behind one more kind: what its height becomes. -/
noncomputable def stepH (m : Nat) (h : List Nat) (n : Nat) : List Nat := seN h n (mn (geN h n) (Nat.succ (geN h m)))
noncomputable def rowH (ks : List Int) (h : List Nat) (m : Nat) : List Nat := fo (fun h k => stepH m h (aftN m k.toNat)) ks h
/-- A round. -/
noncomputable def roundH (ks : List Int) (h : List Nat) : List Nat := fo (rowH ks) [0, 1, 2, 3, 4, 5, 6, 7] h
def h00 : List Nat := [0, 20, 20, 20, 20, 20, 20, 20]
noncomputable def iterH (ks : List Int) : Nat → List Nat
  | 0 => h00
  | r + 1 => roundH ks (iterH ks r)
/-- How many moves motions need. -/
noncomputable def heiQ (ks : List Int) : List Nat := roundH ks (roundH ks (roundH ks (roundH ks h00)))
/-- Heights as they are on the way. -/
structure HOk (h : List Nat) : Prop where
  len : h.length = 8
  bd : ∀ x ∈ h, x ≤ 20
theorem hok0 : HOk h00 := ⟨rfl, by decide⟩
theorem HOk.get {h : List Nat} (hh : HOk h) {j : Nat} (hj : j < h.length) : h[j] ≤ 20 := hh.bd _ (List.getElem_mem hj)
theorem stepH_ok {m : Nat} {h : List Nat} (hh : HOk h) (n : Nat) : HOk (stepH m h n) := by
  unfold stepH
  rw [seN_eq]
  refine ⟨by simp [hh.len], fun x hx => ?_⟩
  rcases List.mem_or_eq_of_mem_set hx with hx | rfl
  · exact hh.bd x hx
  · rw [mn_eq, geN_eq, List.getD_eq_getElem?_getD]
    by_cases e : n < h.length
    · rw [List.getElem?_eq_getElem e]; have := hh.get e; simp only [Option.getD_some]; omega
    · rw [List.getElem?_eq_none (by omega)]; simp
theorem foldH_ok {α : Type} {f : List Nat → α → List Nat} (hf : ∀ h x, HOk h → HOk (f h x)) : ∀ (l : List α) {h : List Nat}, HOk h → HOk (l.foldl f h)
  | [], _, hh => hh
  | n :: l, _, hh => foldH_ok hf l (hf _ _ hh)
theorem rowH_ok {ks : List Int} {h : List Nat} (m : Nat) (hh : HOk h) : HOk (rowH ks h m) := by rw [rowH, fo_eq]; exact foldH_ok (fun h x hh => stepH_ok hh _) _ hh
/-- Some rows. -/
noncomputable def rowsH (ks : List Int) (h : List Nat) (k : Nat) : List Nat := (List.range k).foldl (rowH ks) h
theorem rowsH_ok {ks : List Int} {h : List Nat} (hh : HOk h) (k : Nat) : HOk (rowsH ks h k) := foldH_ok (fun _ m hh => rowH_ok m hh) _ hh
theorem rowsH_succ {ks : List Int} {h : List Nat} {k : Nat} : rowsH ks h (k + 1) = rowH ks (rowsH ks h k) k := by rw [rowsH, List.range_succ, List.foldl_append]; rfl
theorem rowsH_all {ks : List Int} {h : List Nat} : rowsH ks h 8 = roundH ks h := by rw [roundH, fo_eq]; rfl
theorem roundH_ok {ks : List Int} {h : List Nat} (hh : HOk h) : HOk (roundH ks h) := by rw [← rowsH_all]; exact rowsH_ok hh 8
theorem iterH_ok {ks : List Int} : ∀ r, HOk (iterH ks r)
  | 0 => hok0
  | r + 1 => roundH_ok (iterH_ok r)
def doneN (ks : List Int) (m : Nat) : List Nat := ks.map fun k => (aft m k).toNat
noncomputable def doneF (ks : List Int) (m : Nat) : List Nat := ks.map fun k => aftN m k.toNat
/-- A row on the way. -/
noncomputable def partH (ks : List Int) (h : List Nat) (m i : Nat) : List Nat := ((doneN ks m).take i).foldl (stepH m) h
theorem partH_ok {ks : List Int} {h : List Nat} (hh : HOk h) (m i : Nat) : HOk (partH ks h m i) := foldH_ok (fun h x hh => stepH_ok hh _) _ hh
theorem partH_succ {ks : List Int} {h : List Nat} {m i : Nat} (hi : i < (doneN ks m).length) : partH ks h m (i + 1) = stepH m (partH ks h m i) (doneN ks m)[i] := by
  unfold partH
  rw [List.take_succ_eq_append_getElem hi, List.foldl_append]; rfl
theorem doneN_F {ks : List Int} (hk : ∀ x ∈ ks, 0 ≤ x ∧ x < 8) {m : Nat} (hm : m < 8) : doneN ks m = doneF ks m := by
  refine List.map_congr_left fun k hkk => ?_
  have := aftN_eq (a := m) (b := k) (by omega) (hk k hkk)
  simp only [Int.toNat_natCast] at this
  omega
theorem partH_all {ks : List Int} (hk : ∀ x ∈ ks, 0 ≤ x ∧ x < 8) {h : List Nat} {m : Nat} (hm : m < 8) : partH ks h m (doneN ks m).length = rowH ks h m := by
  rw [partH, List.take_length, rowH, fo_eq, doneN_F hk hm, doneF, List.foldl_map]
theorem doneN_lt {ks : List Int} (hk : ∀ x ∈ ks, 0 ≤ x ∧ x < 8) {m : Nat} (hm : m < 8) {i : Nat} (hi : i < (doneN ks m).length) : (doneN ks m)[i] < 8 := by
  have h : i < ks.length := by simpa [doneN] using hi
  have := after_in (a := m) (b := ks[i]) (by omega) (hk _ (List.getElem_mem h))
  simp only [doneN, List.getElem_map]; omega
theorem done_itN (ks : List Int) (c : Option Nat) (hl : ks.length ≤ 1000000) (hk : ∀ x ∈ ks, 0 ≤ x ∧ x < 8) (m : Nat) (hm : m < 8) : IterP Try.prog 95 [] [.rop [intsA ks c] 0, .rop [n64 m] 0] ((doneN ks m).map n64) := by
  have h := done_it ks c hl hk m (by omega)
  have e : (doneN ks m).map n64 = (doneL ks m).map i64 := by
    rw [doneN, doneL, List.map_map, List.map_map]
    refine List.map_congr_left fun k hkk => ?_
    have := after_in (a := m) (b := k) (by omega) (hk k hkk)
    show i64 (((aft m k).toNat : Nat) : Int) = i64 (aft m k)
    rw [Int.toNat_of_nonneg this.1]
  rw [e]; exact h
theorem stepH_eq {m : Nat} {h : List Nat} {n : Nat} (h1 : n < h.length) (h2 : m < h.length) : stepH m h n = h.set n (min h[n] (h[m] + 1)) := by
  unfold stepH
  rw [seN_eq, mn_eq, geN_eq, geN_eq, List.getD_eq_getElem?_getD, List.getD_eq_getElem?_getD, List.getElem?_eq_getElem h1, List.getElem?_eq_getElem h2]; rfl
theorem aftN_lt (m k : Nat) : aftN m k < 8 := Nat.lt_succ_of_le (Nat.and_le_right (n := _) (m := 7))
/-! ### Kinds, all of them -/
def subs : List Int → List (List Int)
  | [] => [[]]
  | x :: l => subs l ++ (subs l).map (x :: ·)
theorem okK_subs : ∀ (r : Nat) (l : List Int), r ≤ 8 → okK (8 - r : Int) l = true → l ∈ subs ((List.range' (8 - r) r).map fun (i : Nat) => (i : Int))
  | 0, l, _, h => by
    cases l with
    | nil => simp [subs]
    | cons a l => rw [okK, inL1] at h; simp at h; omega
  | r + 1, l, hr, h => by
    rw [List.range'_succ, List.map_cons, subs]
    rw [List.mem_append]
    have e : 8 - (r + 1) + 1 = 8 - r := by omega
    rw [e]
    cases l with
    | nil => exact .inl (okK_subs r [] (by omega) rfl)
    | cons a l =>
      rw [okK, inL1, Bool.and_eq_true] at h
      have ha : (8 : Int) - ((r + 1 : Nat) : Int) ≤ a ∧ a ≤ 7 := by simpa using h.1
      by_cases e2 : a = ((8 - (r + 1) : Nat) : Int)
      · right
        refine List.mem_map.2 ⟨l, okK_subs r l (by omega) ?_, by rw [e2]⟩
        have : a + 1 = 8 - (r : Int) := by omega
        rw [← this]; exact h.2
      · left
        refine okK_subs r (a :: l) (by omega) ?_
        rw [okK, inL1, Bool.and_eq_true]
        refine ⟨?_, h.2⟩
        simp; omega
def allK : List (List Int) := subs motions
theorem okK_all {l : List Int} (h : okK 0 l = true) : l ∈ allK := okK_subs 8 l (Nat.le_refl _) h
theorem heiQ_fix' : (allK.all fun ks => eqN (roundH ks (heiQ ks)) (heiQ ks)) = true := by decide +kernel
theorem heiQ_fix {ks : List Int} (h : okK 0 ks = true) : roundH ks (heiQ ks) = heiQ ks := eqN_eq (List.all_eq_true.1 heiQ_fix' ks (okK_all h))
theorem iter_end {ks : List Int} {r : Nat} (hr : r ≤ 4) (hf : iterH ks r = roundH ks (iterH ks r)) : iterH ks r = heiQ ks := by
  have : ∀ q, iterH ks (r + q) = iterH ks r := by
    intro q
    induction q with
    | zero => rfl
    | succ q ih => rw [← Nat.add_assoc, iterH, ih, ← hf]
  have e : heiQ ks = iterH ks 4 := rfl
  rw [e, ← this (4 - r)]; congr 1; omega
theorem iter_lt {ks : List Int} (h : okK 0 ks = true) {r : Nat} (hr : r ≤ 4) (hf : ¬ iterH ks r = roundH ks (iterH ks r)) : r < 4 := by
  rcases Nat.lt_or_ge r 4 with h1 | h1
  · exact h1
  · obtain rfl : r = 4 := by omega
    exact absurd (heiQ_fix h).symm hf
end Go.Proofs.Ythoodfiacfmhgaa
end

section
/- Contracts of package plate: heights, walked. -/
namespace Go.Proofs.Ythoodfiacfmhgaa
set_option maxRecDepth 20000
open Go.AE
theorem set20 : ∀ k, k < 8 → (List.replicate k 20 ++ List.replicate (8 - k) 0).set k 20 = List.replicate (k + 1) 20 ++ List.replicate (8 - (k + 1)) 0 := by decide
theorem heights_p (ks : List Int) (c : Option Nat) (hl : ks.length ≤ 1000000) (hok : okK 0 ks = true) : Pure Try.prog 77 [intsA ks c] (.agg ((heiQ ks).map n64)) := by
  have hk : ∀ x ∈ ks, 0 ≤ x ∧ x < 8 := fun x hx => by have := okK_get hok x hx; omega
  refine pure_of_body Try.func77 (c := body Try.f77) rfl (by simp [Try.ntmps77]) fun w0 Φ0 => ?_
  refine W_seq rfl ?_
  refine W_reg rfl ?_
  refine Ra rfl rfl rfl (U_alloc) rfl rfl rfl ?_
  refine Re rfl ?_
  refine thenQ_n ?_
  refine W_seq rfl ?_
  refine W_reg rfl ?_
  refine Ra rfl rfl rfl (U_alloc) rfl rfl rfl ?_
  refine Re rfl ?_
  refine thenQ_n ?_
  refine W_seq rfl ?_
  refine W_reg rfl ?_
  refine Rv rfl rfl rfl (U_sliceA rfl rfl rfl (by decide) (by decide) (by decide)) rfl rfl ?_
  refine Rn rfl rfl rfl (U_clear (z := 1) (cs' := [i64 0, i64 0, i64 0, i64 0, i64 0, i64 0, i64 0, i64 0]) rfl rfl rfl (by decide) rfl rfl) rfl ?_
  refine Re rfl ?_
  refine thenQ_n ?_
  refine W_seq rfl ?_
  refine W_seq rfl ?_
  refine W_reg rfl ?_
  refine Rv rfl rfl rfl (U_move rfl) rfl rfl ?_
  refine Re rfl ?_
  refine thenQ_n ?_
  refine W_block rfl ?_
  refine LoopTo (T' := [(0, .ros (ks.map i64) ks.length c), (2, .ptr 0 0), (3, .ptr 1 0), (9, i64 ((0 : Nat) : Int))]) (H' := [(0, some (.cells [i64 0, i64 0, i64 0, i64 0, i64 0, i64 0, i64 0, i64 0] 84)), (1, some (.cells ((List.replicate 8 0).map n64) 84))]) (n := 2) rfl (fun mz_ qz_ => ∃ (k : Nat) (h : List Nat), k ≤ 8 ∧ h = List.replicate k 20 ++ List.replicate (8 - k) 0 ∧ mz_ = 8 - k ∧ qz_ = ⟨[(0, .ros (ks.map i64) ks.length c), (2, .ptr 0 0), (3, .ptr 1 0), (9, i64 ((k : Nat) : Int))], [(0, some (.cells [i64 0, i64 0, i64 0, i64 0, i64 0, i64 0, i64 0, i64 0] 84)), (1, some (.cells (h.map n64) 84))], 2, []⟩) ⟨0, List.replicate 8 0, (by omega), rfl, rfl, rfl⟩ id ⟨eD rfl rfl, e_ rfl rfl, e_ rfl rfl, eD rfl rfl, trivial⟩ ⟨rD rfl rfl rfl, rD (mapD (fun _ => rfl) _) rfl rfl, trivial⟩ rfl rfl rfl rfl (fun _ _ => rfl) ?_
  rintro _ _ ⟨k, h, hi0_0, hi0_1, rfl, rfl⟩
  have hlen : h.length = 8 := by rw [hi0_1]; simp; omega
  refine W_seq rfl ?_
  refine W_reg rfl ?_
  refine Rv rfl rfl rfl (U_lss rfl rfl) rfl rfl ?_
  refine Re rfl ?_
  refine thenQ_n ?_
  refine W_seq rfl ?_
  refine WcondP rfl rfl (fun hc0 => ?_) (fun hc0 => ?_)
  · refine W_skip rfl ?_
    refine thenQ_n ?_
    refine W_seq rfl ?_
    refine W_block rfl ?_
    refine W_seq rfl ?_
    refine W_reg rfl ?_
    refine Rv rfl rfl rfl (U_move rfl) rfl rfl ?_
    refine Rv rfl rfl rfl (U_assign rfl) rfl rfl ?_
    refine Re rfl ?_
    refine thenQ_n ?_
    refine W_reg rfl ?_
    refine Rv rfl rfl rfl (U_move rfl) rfl rfl ?_
    have hx1 : k < h.length := by omega
    refine Rv rfl rfl rfl (U_indexA (j := k) rfl rfl rfl (by omega)) rfl rfl ?_
    refine Rn rfl rfl rfl (U_store (n := 1) (cs' := (h.set k 20).map n64) rfl rfl rfl rfl rfl (stLt hx1) rfl setM) rfl ?_
    refine Re rfl ?_
    refine blkQ_n ?_
    refine thenQ_n ?_
    refine W_reg rfl ?_
    refine Rv rfl rfl rfl (U_add rfl rfl (w64e (m := ((k + 1 : Nat) : Int)) (by omega) (by omega) (by omega))) rfl rfl ?_
    refine Rv rfl rfl rfl (U_move rfl) rfl rfl ?_
    refine Re rfl ?_
    refine thenQ_n ?_
    exact againTo (T' := [(0, .ros (ks.map i64) ks.length c), (2, .ptr 0 0), (3, .ptr 1 0), (9, i64 (((k + 1) : Nat) : Int))]) (H' := [(0, some (.cells [i64 0, i64 0, i64 0, i64 0, i64 0, i64 0, i64 0, i64 0] 84)), (1, some (.cells ((h.set k 20).map n64) 84))]) (n := 2) (8 - (k + 1)) ⟨k + 1, h.set k 20, (by omega), (by rw [hi0_1]; exact set20 k (by omega)), rfl, rfl⟩ (by omega) id ⟨eD rfl rfl, e_ rfl rfl, e_ rfl rfl, eD rfl rfl, trivial⟩ ⟨rD rfl rfl rfl, rD (mapD (fun _ => rfl) _) rfl rfl, trivial⟩ rfl rfl rfl rfl (fun _ _ => rfl)
  · refine W_exit rfl ?_
    refine thenQ_x ?_
    refine thenQ_x ?_
    refine blkQ_x rfl ?_
    refine thenQ_n ?_
    refine W_seq rfl ?_
    refine W_reg rfl ?_
    have hx2 : 0 < h.length := by omega
    refine Rv rfl rfl rfl (U_indexA (j := 0) rfl rfl rfl (by omega)) rfl rfl ?_
    refine Rn rfl rfl rfl (U_store (n := 1) (cs' := (h.set 0 0).map n64) rfl rfl rfl rfl rfl (stLt hx2) rfl setM) rfl ?_
    refine Re rfl ?_
    refine thenQ_n ?_
    refine W_block rfl ?_
    refine LoopTo (T' := [(0, .ros (ks.map i64) ks.length c), (2, .ptr 0 0), (3, .ptr 1 0)]) (H' := [(0, some (.cells [i64 0, i64 0, i64 0, i64 0, i64 0, i64 0, i64 0, i64 0] 84)), (1, some (.cells ((h.set 0 0).map n64) 84))]) (n := 2) rfl (fun mz_ qz_ => ∃ (r : Nat) (h1 : List Nat), h1 = iterH ks r ∧ r ≤ 4 ∧ mz_ = 5 - r ∧ qz_ = ⟨[(0, .ros (ks.map i64) ks.length c), (2, .ptr 0 0), (3, .ptr 1 0)], [(0, some (.cells [i64 0, i64 0, i64 0, i64 0, i64 0, i64 0, i64 0, i64 0] 84)), (1, some (.cells (h1.map n64) 84))], 2, []⟩) ⟨0, h.set 0 0, (by rw [hi0_1, show k = 8 by omega]; rfl), (by omega), rfl, rfl⟩ id ⟨eD rfl rfl, e_ rfl rfl, e_ rfl rfl, trivial⟩ ⟨rD rfl rfl rfl, rD (mapD (fun _ => rfl) _) rfl rfl, trivial⟩ rfl rfl rfl rfl (fun _ _ => rfl) ?_
    rintro _ _ ⟨r, h1, hi1_0, hi1_1, rfl, rfl⟩
    have hok1 : HOk h1 := by rw [hi1_0]; exact iterH_ok r
    have hl1 := hok1.len
    refine W_block rfl ?_
    refine W_seq rfl ?_
    refine W_reg rfl ?_
    refine Rv rfl rfl rfl (U_loadAll rfl rfl (by simp; omega)) rfl rfl ?_
    refine Ra rfl rfl rfl (U_alloc) rfl rfl rfl ?_
    refine Rn rfl rfl rfl (U_storeAll rfl rfl rfl (by simp; omega) rfl (allOne (fun _ => rfl) _)) rfl ?_
    refine Re rfl ?_
    refine thenQ_n ?_
    refine W_seq rfl ?_
    refine W_seq rfl ?_
    refine W_reg rfl ?_
    refine Rv rfl rfl rfl (U_move rfl) rfl rfl ?_
    refine Re rfl ?_
    refine thenQ_n ?_
    refine W_block rfl ?_
    refine LoopTo (T' := [(0, .ros (ks.map i64) ks.length c), (2, .ptr 0 0), (3, .ptr 1 0), (5, .ptr 2 0), (17, i64 ((0 : Nat) : Int))]) (H' := [(0, some (.cells [i64 0, i64 0, i64 0, i64 0, i64 0, i64 0, i64 0, i64 0] 84)), (1, some (.cells (h1.map n64) 84)), (2, some (.cells (h1.map n64) 84))]) (n := 3) rfl (fun mz_ qz_ => ∃ (m : Nat) (h2 : List Nat), m ≤ 8 ∧ h2 = rowsH ks h1 m ∧ mz_ = 8 - m ∧ qz_ = ⟨[(0, .ros (ks.map i64) ks.length c), (2, .ptr 0 0), (3, .ptr 1 0), (5, .ptr 2 0), (17, i64 ((m : Nat) : Int))], [(0, some (.cells [i64 0, i64 0, i64 0, i64 0, i64 0, i64 0, i64 0, i64 0] 84)), (1, some (.cells (h2.map n64) 84)), (2, some (.cells (h1.map n64) 84))], 3, []⟩) ⟨0, h1, (by omega), rfl, rfl, rfl⟩ id ⟨eD rfl rfl, e_ rfl rfl, e_ rfl rfl, e_ rfl rfl, eD rfl rfl, trivial⟩ ⟨rD rfl rfl rfl, rD (mapD (fun _ => rfl) _) rfl rfl, rD (mapD (fun _ => rfl) _) rfl rfl, trivial⟩ rfl rfl rfl rfl (fun _ _ => rfl) ?_
    rintro _ _ ⟨m, h2, hi2_0, hi2_1, rfl, rfl⟩
    have hok2 : HOk h2 := by rw [hi2_1]; exact rowsH_ok hok1 m
    have hl2 := hok2.len
    refine W_seq rfl ?_
    refine W_reg rfl ?_
    refine Rv rfl rfl rfl (U_lss rfl rfl) rfl rfl ?_
    refine Re rfl ?_
    refine thenQ_n ?_
    refine W_seq rfl ?_
    refine WcondP rfl rfl (fun hc1 => ?_) (fun hc1 => ?_)
    · refine W_skip rfl ?_
      refine thenQ_n ?_
      refine W_seq rfl ?_
      refine W_block rfl ?_
      refine W_seq rfl ?_
      refine W_reg rfl ?_
      refine Rv rfl rfl rfl (U_move rfl) rfl rfl ?_
      refine Ra rfl rfl rfl (U_alloc) rfl rfl rfl ?_
      refine Rn rfl rfl rfl (U_store1 rfl rfl rfl rfl) rfl ?_
      refine Re rfl ?_
      refine thenQ_n ?_
      refine W_seq rfl ?_
      refine W_reg rfl ?_
      refine Rv rfl rfl rfl (U_move rfl) rfl rfl ?_
      refine Rv rfl rfl rfl (U_load1 rfl rfl rfl) rfl rfl ?_
      refine Rv rfl rfl rfl (U_call rfl rfl (done_p ks c ((m : Nat) : Int)) rfl) rfl rfl ?_
      refine Re rfl ?_
      refine thenQ_n ?_
      refine W_block rfl ?_
      refine W_rangeI (T' := [(0, .ros (ks.map i64) ks.length c), (2, .ptr 0 0), (3, .ptr 1 0), (5, .ptr 2 0), (6, .ptr 3 0), (17, i64 ((m : Nat) : Int)), (22, .fn 95 [] [.rop [.ros (ks.map i64) ks.length c] 0, .rop [i64 ((m : Nat) : Int)] 0])]) (n := 4) rfl rfl (done_itN ks c hl hk m (by omega)) (fun i => [(0, some (.cells [i64 0, i64 0, i64 0, i64 0, i64 0, i64 0, i64 0, i64 0] 84)), (1, some (.cells ((partH ks h2 m i).map n64) 84)), (2, some (.cells (h1.map n64) 84)), (3, some (.cells [i64 ((m : Nat) : Int)] 3))]) ⟨eD rfl rfl, e_ rfl rfl, e_ rfl rfl, e_ rfl rfl, e_ rfl rfl, eD rfl rfl, eD rfl rfl, trivial⟩ ⟨rD rfl rfl rfl, rD (mapD (fun _ => rfl) _) rfl rfl, rD (mapD (fun _ => rfl) _) rfl rfl, rD rfl rfl rfl, trivial⟩ rfl rfl rfl rfl rfl (fun i => ⟨rD rfl rfl rfl, rD (mapD (fun _ => rfl) _) rfl rfl, rD (mapD (fun _ => rfl) _) rfl rfl, rD rfl rfl rfl, trivial⟩) ?_ ?_
      · intro i x_ hx_ C_ hC_ N_ hN_
        obtain ⟨hi_, rfl⟩ := mapAt hx_
        have hx := doneN_lt hk (m := m) (by omega) hi_
        have hpo := partH_ok hok2 (ks := ks) m i
        have hpl := hpo.len
        have hb1 := hpo.get (j := (doneN ks m)[i]) (by omega)
        have hb2 := hpo.get (j := m) (by omega)
        obtain ⟨_, w0_, Wr_, Φ0_, ro_, nt_, k0_, ρ0_⟩ := C_
        have hC2_ : _ = Try.prog := hC_
        subst hC2_
        intro ρ_ Φ_ w_ lc_
        refine W_reg rfl ?_
        refine Rv rfl rfl rfl (U_assign rfl) rfl rfl ?_
        refine Re rfl ?_
        refine ⟨rfl, ?_⟩
        refine W_block rfl ?_
        refine Wdraw rfl (by kernel_rfl) (by kernel_rfl) ?_
        refine Dv rfl rfl rfl (U_move rfl) rfl rfl ?_
        refine Dv rfl rfl rfl (U_move rfl) rfl rfl ?_
        have hx3 : ((doneN ks m)[i]) < (partH ks h2 m i).length := by omega
        refine Dv rfl rfl rfl (U_indexA (j := ((doneN ks m)[i])) rfl rfl rfl (by omega)) rfl rfl ?_
        refine Dv rfl rfl rfl (U_load1 rfl rfl (getM0 hx3)) rfl rfl ?_
        refine Dv rfl rfl rfl (U_load1 rfl rfl rfl) rfl rfl ?_
        have hx4 : m < (partH ks h2 m i).length := by omega
        refine Dv rfl rfl rfl (U_indexA (j := m) rfl rfl rfl (by omega)) rfl rfl ?_
        refine Dv rfl rfl rfl (U_load1 rfl rfl (getM0 hx4)) rfl rfl ?_
        refine Dv rfl rfl rfl (U_add rfl rfl (w64e (m := (((partH ks h2 m i)[m] + 1 : Nat) : Int)) (by omega) (by omega) (by omega))) rfl rfl ?_
        refine Dv rfl rfl rfl (U_min (m := (((min ((partH ks h2 m i)[((doneN ks m)[i])]) ((partH ks h2 m i)[m] + 1)) : Nat) : Int)) rfl rfl (by omega)) rfl rfl ?_
        refine Dv rfl rfl rfl (U_indexA (j := ((doneN ks m)[i])) rfl rfl rfl (by omega)) rfl rfl ?_
        refine Dn_ rfl rfl rfl (U_store (n := 1) (cs' := ((partH ks h2 m i).set ((doneN ks m)[i]) (min ((partH ks h2 m i)[((doneN ks m)[i])]) ((partH ks h2 m i)[m] + 1))).map n64) rfl rfl rfl rfl rfl (stLt hx3) rfl setM) rfl rfl ?_
        refine Dr.nil rfl ?_
        refine blkQ_n ?_
        refine ⟨rfl, ?_⟩
        exact hN_ _ _ ⟨rD rfl rfl rfl, (rD (mapD (fun _ => rfl) _) (by rw [partH_succ hi_, stepH_eq (by omega) (by omega)]; rfl) rfl), rD (mapD (fun _ => rfl) _) rfl rfl, rD rfl rfl rfl, trivial⟩
      rw [List.length_map]
      refine blkQ_n ?_
      refine blkQ_n ?_
      refine thenQ_n ?_
      refine W_reg rfl ?_
      refine Rv rfl rfl rfl (U_add rfl rfl (w64e (m := ((m + 1 : Nat) : Int)) (by omega) (by omega) (by omega))) rfl rfl ?_
      refine Rv rfl rfl rfl (U_move rfl) rfl rfl ?_
      refine Re rfl ?_
      refine thenQ_n ?_
      exact againTo (T' := [(0, .ros (ks.map i64) ks.length c), (2, .ptr 0 0), (3, .ptr 1 0), (5, .ptr 2 0), (17, i64 (((m + 1) : Nat) : Int))]) (H' := [(0, some (.cells [i64 0, i64 0, i64 0, i64 0, i64 0, i64 0, i64 0, i64 0] 84)), (1, some (.cells ((partH ks h2 m (((doneN ks m)).length)).map n64) 84)), (2, some (.cells (h1.map n64) 84))]) (n := 3) (8 - (m + 1)) ⟨m + 1, partH ks h2 m (((doneN ks m)).length), (by omega), (by rw [rowsH_succ, ← hi2_1, partH_all hk (by omega)]), rfl, rfl⟩ (by omega) id ⟨eD rfl rfl, e_ rfl rfl, e_ rfl rfl, e_ rfl rfl, eD rfl rfl, trivial⟩ ⟨rD rfl rfl rfl, rD (mapD (fun _ => rfl) _) rfl rfl, rD (mapD (fun _ => rfl) _) rfl rfl, trivial⟩ rfl rfl rfl rfl (fun _ _ => rfl)
    · refine W_exit rfl ?_
      refine thenQ_x ?_
      refine thenQ_x ?_
      refine blkQ_x rfl ?_
      refine thenQ_n ?_
      refine W_seq rfl ?_
      refine W_reg rfl ?_
      refine Rv rfl rfl rfl (U_loadAll rfl rfl (by simp; omega)) rfl rfl ?_
      refine Rv rfl rfl rfl (U_loadAll rfl rfl (by simp; omega)) rfl rfl ?_
      refine Rv rfl rfl rfl (U_eqlA (p := h1 = h2) (ks := [.i64, .i64, .i64, .i64, .i64, .i64, .i64, .i64]) rfl rfl (numsOf_n64 _) (numsOf_n64 _) (kindsA_n64 (n := 8) (by first | assumption | omega)) (kindsA_n64 (n := 8) (by first | assumption | omega)) natL_inj) rfl rfl ?_
      refine Re rfl ?_
      refine thenQ_n ?_
      refine WcondP rfl rfl (fun hc2 => ?_) (fun hc2 => ?_)
      · refine W_seq rfl ?_
        refine W_reg rfl ?_
        refine Rv rfl rfl rfl (U_loadAll rfl rfl (by simp; omega)) rfl rfl ?_
        refine Rn rfl rfl rfl (U_storeAll rfl rfl rfl (by simp; omega) rfl (allOne (fun _ => rfl) _)) rfl ?_
        refine Re rfl ?_
        refine thenQ_n ?_
        refine W_ret rfl ?_
        refine blkQ_r ?_
        refine thenQ_r ?_
        refine blkQ_r ?_
        exact retL (rlA rfl rfl (by simp; omega) rl0) (by first | rfl | (simp only [packA]; rw [← hc2, hi1_0, iter_end hi1_1 (by rw [← rowsH_all, ← hi1_0]; rw [hi2_1, show m = 8 by omega] at hc2; exact hc2)]; first | done | rfl)) (aggD (mapD (fun _ => rfl) _))
      · refine W_skip rfl ?_
        refine blkQ_n ?_
        refine thenQ_n ?_
        exact againTo (T' := [(0, .ros (ks.map i64) ks.length c), (2, .ptr 0 0), (3, .ptr 1 0)]) (H' := [(0, some (.cells [i64 0, i64 0, i64 0, i64 0, i64 0, i64 0, i64 0, i64 0] 84)), (1, some (.cells (h2.map n64) 84))]) (n := 2) (5 - (r + 1)) ⟨r + 1, h2, (by rw [iterH, ← rowsH_all, ← hi1_0, hi2_1, show m = 8 by omega]), (iter_lt hok hi1_1 (by rw [← rowsH_all, ← hi1_0]; rw [hi2_1, show m = 8 by omega] at hc2; exact hc2)), rfl, rfl⟩ (by omega) id ⟨eD rfl rfl, e_ rfl rfl, e_ rfl rfl, trivial⟩ ⟨rD rfl rfl rfl, rD (mapD (fun _ => rfl) _) rfl rfl, trivial⟩ rfl rfl rfl rfl (fun _ _ => rfl)
end Go.Proofs.Ythoodfiacfmhgaa
end

section
/- Contracts of package plate: the motions that are reached. -/
namespace Go.Proofs.Ythoodfiacfmhgaa
set_option maxRecDepth 20000
open Go.AE
/-- Some numbers below one, as they come. -/
noncomputable def filt (p : Nat → Bool) (k : Nat) : List Int := ((List.range k).filter p).map fun (i : Nat) => (i : Int)
theorem filt_t {p : Nat → Bool} {k : Nat} (h : p k = true) : filt p (k + 1) = filt p k ++ [((k : Nat) : Int)] := by simp [filt, List.range_succ, List.filter_append, h]
theorem filt_f {p : Nat → Bool} {k : Nat} (h : p k = false) : filt p (k + 1) = filt p k := by simp [filt, List.range_succ, List.filter_append, h]
noncomputable def pR (ks : List Int) (m : Nat) : Bool := Nat.blt (geN (heiQ ks) m) 20
noncomputable def reachedQ (ks : List Int) : List Int := filt (pR ks) 8
theorem filt_len {p : Nat → Bool} {k : Nat} : (filt p k).length ≤ k := by rw [filt, List.length_map]; exact Nat.le_trans (List.length_filter_le _ _) (by simp)
theorem heiQ_ok {ks : List Int} : HOk (heiQ ks) := roundH_ok (roundH_ok (roundH_ok (roundH_ok hok0)))
theorem geN_get {l : List Nat} {m : Nat} (h : m < l.length) : geN l m = l[m] := by rw [geN_eq, List.getD_eq_getElem?_getD, List.getElem?_eq_getElem h]; rfl
theorem reach_t {ks : List Int} {m : Nat} (h : m < (heiQ ks).length) (h2 : (((heiQ ks)[m] : Nat) : Int) < 20) : pR ks m = true := by rw [pR, geN_get h, Nat.blt_eq]; omega
theorem reach_f {ks : List Int} {m : Nat} (h : m < (heiQ ks).length) (h2 : ¬ (((heiQ ks)[m] : Nat) : Int) < 20) : pR ks m = false := by
  rw [pR, geN_get h]; cases e : Nat.blt (heiQ ks)[m] 20 with
  | false => rfl
  | true => rw [Nat.blt_eq] at e; omega
theorem iter8 {ks : List Int} (h : okK 0 ks = true) : iterH ks 8 = heiQ ks := by
  have e : iterH ks 8 = roundH ks (roundH ks (roundH ks (roundH ks (heiQ ks)))) := rfl
  rw [e, heiQ_fix h, heiQ_fix h, heiQ_fix h, heiQ_fix h]
/-- A row on the way, by one kind after another. -/
theorem partH_step {ks : List Int} (hk : ∀ x ∈ ks, 0 ≤ x ∧ x < 8) {h : List Nat} (hh : HOk h) {m i : Nat} (hm : m < 8) (hi : i < ks.length) {j : Nat} (hj : ((j : Nat) : Int) = aft m ks[i]) : partH ks h m (i + 1) = stepH m (partH ks h m i) j := by
  have hi' : i < (doneN ks m).length := by simpa [doneN] using hi
  rw [partH_succ hi']; congr 1
  simp only [doneN, List.getElem_map]; omega
theorem reached_p (ks : List Int) (c : Option Nat) (hl : ks.length ≤ 1000000) (hok : okK 0 ks = true) : Pure Try.prog 72 [intsA ks c] (intsA (reachedQ ks) none) := by
  have hk : ∀ x ∈ ks, 0 ≤ x ∧ x < 8 := fun x hx => by have := okK_get hok x hx; omega
  have h8 := (heiQ_ok (ks := ks)).len
  refine pure_of_body Try.func72 (c := body Try.f72) rfl (by simp [Try.ntmps72]) fun w0 Φ0 => ?_
  refine W_seq rfl ?_
  refine W_reg rfl ?_
  refine Rv rfl rfl rfl (U_assign rfl) rfl rfl ?_
  refine Re rfl ?_
  refine thenQ_n ?_
  refine W_seq rfl ?_
  refine W_reg rfl ?_
  refine Rv rfl rfl rfl (U_assign rfl) rfl rfl ?_
  refine Re rfl ?_
  refine thenQ_n ?_
  refine W_seq rfl ?_
  refine W_seq rfl ?_
  refine W_reg rfl ?_
  refine Rv rfl rfl rfl (U_move rfl) rfl rfl ?_
  refine Rv rfl rfl rfl (U_call rfl rfl (heights_p ks c (by first | assumption | omega) hok) rfl) rfl rfl ?_
  refine Rv rfl rfl rfl (U_move rfl) rfl rfl ?_
  refine Re rfl ?_
  refine thenQ_n ?_
  refine W_block rfl ?_
  refine LoopTo (T' := [(3, .out 0 [].length 1), (7, .agg ((heiQ ks).map n64)), (8, i64 ((0 : Nat) : Int))]) (H' := [(0, outB ([].map i64) 3 [].length)]) (n := 1) rfl (fun mz_ qz_ => ∃ (k : Nat) (l : List Int), k ≤ 8 ∧ l = filt (pR ks) k ∧ mz_ = 8 - k ∧ qz_ = ⟨[(3, .out 0 l.length 1), (7, .agg ((heiQ ks).map n64)), (8, i64 ((k : Nat) : Int))], [(0, outB (l.map i64) 3 l.length)], 1, []⟩) ⟨0, [], (by omega), rfl, rfl, rfl⟩ id ⟨eW rfl le_nils_out rfl, eD rfl (aggD (mapD (fun _ => rfl) _)), eD rfl rfl, trivial⟩ ⟨rO0 rfl, trivial⟩ rfl rfl rfl rfl (fun _ _ => rfl) ?_
  rintro _ _ ⟨k, l, hi0_0, hi0_1, rfl, rfl⟩
  have hll : l.length ≤ 8 := by rw [hi0_1]; exact Nat.le_trans filt_len (by omega)
  refine W_seq rfl ?_
  refine W_reg rfl ?_
  refine Rv rfl rfl rfl (U_lss rfl rfl) rfl rfl ?_
  refine Re rfl ?_
  refine thenQ_n ?_
  refine W_seq rfl ?_
  refine WcondP rfl rfl (fun hc0 => ?_) (fun hc0 => ?_)
  · refine W_skip rfl ?_
    refine thenQ_n ?_
    refine W_seq rfl ?_
    refine W_block rfl ?_
    refine W_seq rfl ?_
    refine W_reg rfl ?_
    refine Rv rfl rfl rfl (U_move rfl) rfl rfl ?_
    have hx1 : k < (heiQ ks).length := by omega
    refine Rv rfl rfl rfl (U_indexV (j := k) rfl rfl rfl (by omega) (cellM hx1)) rfl rfl ?_
    refine Rv rfl rfl rfl (U_assign rfl) rfl rfl ?_
    refine Rv rfl rfl rfl (U_assign rfl) rfl rfl ?_
    refine Re rfl ?_
    refine thenQ_n ?_
    refine W_seq rfl ?_
    refine W_reg rfl ?_
    refine Rv rfl rfl rfl (U_move rfl) rfl rfl ?_
    refine Rv rfl rfl rfl (U_lss rfl rfl) rfl rfl ?_
    refine Re rfl ?_
    refine thenQ_n ?_
    refine WcondP rfl rfl (fun hc1 => ?_) (fun hc1 => ?_)
    · refine W_reg rfl ?_
      refine Rv rfl rfl rfl (U_move rfl) rfl rfl ?_
      refine Rv rfl rfl rfl (U_move rfl) rfl rfl ?_
      refine Rv rfl rfl rfl (U_buildSliceF (by rfl) (by decide) rfl rfl rfl) rfl rfl ?_
      refine Ra rfl rfl rfl (U_appO (b := 0) (m := 0) (cs' := (l ++ [((k : Nat) : Int)]).map i64) (n' := (l ++ [((k : Nat) : Int)]).length) rfl rfl (by simp) rfl (map_len1 _) rfl rfl (by omega) (appM _ _) (len1 _ _)) rfl rfl rfl ?_
      refine Rv rfl rfl rfl (U_assign rfl) rfl rfl ?_
      refine Re rfl ?_
      refine blkQ_n ?_
      refine thenQ_n ?_
      refine W_reg rfl ?_
      refine Rv rfl rfl rfl (U_add rfl rfl (w64e (m := ((k + 1 : Nat) : Int)) (by omega) (by omega) (by omega))) rfl rfl ?_
      refine Rv rfl rfl rfl (U_move rfl) rfl rfl ?_
      refine Re rfl ?_
      refine thenQ_n ?_
      exact againTo (T' := [(3, .out 0 (l ++ [((k : Nat) : Int)]).length 1), (7, .agg ((heiQ ks).map n64)), (8, i64 (((k + 1) : Nat) : Int))]) (H' := [(0, outB ((l ++ [((k : Nat) : Int)]).map i64) 3 (l ++ [((k : Nat) : Int)]).length)]) (n := 1) (8 - (k + 1)) ⟨k + 1, l ++ [((k : Nat) : Int)], (by omega), (by first | (rw [filt_t (reach_t (by omega) hc1), hi0_1]; done) | (rw [filt_f (reach_f (by omega) hc1), hi0_1]; done)), rfl, rfl⟩ (by omega) (mapN [1]) ⟨e_ rfl rfl, eD rfl (aggD (mapD (fun _ => rfl) _)), eD rfl rfl, trivial⟩ ⟨rO (mapD (fun _ => rfl) _) rfl rfl, trivial⟩ rfl rfl rfl rfl (fun _ h => absurd h (Nat.not_lt_zero _))
    · refine W_skip rfl ?_
      refine blkQ_n ?_
      refine thenQ_n ?_
      refine W_reg rfl ?_
      refine Rv rfl rfl rfl (U_add rfl rfl (w64e (m := ((k + 1 : Nat) : Int)) (by omega) (by omega) (by omega))) rfl rfl ?_
      refine Rv rfl rfl rfl (U_move rfl) rfl rfl ?_
      refine Re rfl ?_
      refine thenQ_n ?_
      exact againTo (T' := [(3, .out 0 l.length 1), (7, .agg ((heiQ ks).map n64)), (8, i64 (((k + 1) : Nat) : Int))]) (H' := [(0, outB (l.map i64) 3 l.length)]) (n := 1) (8 - (k + 1)) ⟨k + 1, l, (by omega), (by first | (rw [filt_t (reach_t (by omega) hc1), hi0_1]; done) | (rw [filt_f (reach_f (by omega) hc1), hi0_1]; done)), rfl, rfl⟩ (by omega) id ⟨e_ rfl rfl, eD rfl (aggD (mapD (fun _ => rfl) _)), eD rfl rfl, trivial⟩ ⟨rO (mapD (fun _ => rfl) _) rfl rfl, trivial⟩ rfl rfl rfl rfl (fun _ _ => rfl)
  · refine W_exit rfl ?_
    refine thenQ_x ?_
    refine thenQ_x ?_
    refine blkQ_x rfl ?_
    refine thenQ_n ?_
    refine W_seq rfl ?_
    refine W_reg rfl ?_
    refine Rv rfl rfl rfl (U_move rfl) rfl rfl ?_
    refine Rv rfl rfl rfl (U_assign rfl) rfl rfl ?_
    refine Re rfl ?_
    refine thenQ_n ?_
    refine WfrO 0 (l.map i64) rfl (mapD (fun _ => rfl) _) (T' := [(2, .ros (l.map i64) l.length none)]) (H' := []) ⟨fO rfl, trivial⟩ trivial ?_
    refine W_ret rfl ?_
    exact retL (rlT rfl rl0) (by first | rfl | (simp only [packA]; rw [hi0_1, show k = 8 by omega]; rfl; first | done | rfl)) rfl
theorem heightsR_p (ks : List Int) (c : Option Nat) (hl : ks.length ≤ 1000000) (hok : okK 0 ks = true) : Pure Try.prog 79 [intsA ks c] (.ros ((heiQ ks).map n64) 8 (some 8)) := by
  have hk : ∀ x ∈ ks, 0 ≤ x ∧ x < 8 := fun x hx => by have := okK_get hok x hx; omega
  have h8 := (heiQ_ok (ks := ks)).len
  refine pure_of_body Try.func79 (c := body Try.f79) rfl (by simp [Try.ntmps79]) fun w0 Φ0 => ?_
  refine W_seq rfl ?_
  refine W_reg rfl ?_
  refine Rv rfl rfl rfl (U_assign rfl) rfl rfl ?_
  refine Re rfl ?_
  refine thenQ_n ?_
  refine W_seq rfl ?_
  refine W_reg rfl ?_
  refine Ra rfl rfl rfl (U_buildSlice (by rfl) (by decide) rfl rfl) rfl rfl rfl ?_
  refine Rv rfl rfl rfl (U_assign rfl) rfl rfl ?_
  refine Re rfl ?_
  refine thenQ_n ?_
  refine W_seq rfl ?_
  refine W_seq rfl ?_
  refine W_reg rfl ?_
  refine Rv rfl rfl rfl (U_assign rfl) rfl rfl ?_
  refine Re rfl ?_
  refine thenQ_n ?_
  refine W_block rfl ?_
  refine LoopTo (T' := [(0, .ros (ks.map i64) ks.length c), (3, .slice 0 0 8 8), (4, i64 ((0 : Nat) : Int))]) (H' := [(0, some (.cells (h00.map n64) 3))]) (n := 1) rfl (fun mz_ qz_ => ∃ (n : Nat) (h : List Nat), n ≤ 8 ∧ h = iterH ks n ∧ mz_ = 8 - n ∧ qz_ = ⟨[(0, .ros (ks.map i64) ks.length c), (3, .slice 0 0 8 8), (4, i64 ((n : Nat) : Int))], [(0, some (.cells (h.map n64) 3))], 1, []⟩) ⟨0, h00, (by omega), rfl, rfl, rfl⟩ id ⟨eD rfl rfl, e_ rfl rfl, eD rfl rfl, trivial⟩ ⟨rD (mapD (fun _ => rfl) _) rfl rfl, trivial⟩ rfl rfl rfl rfl (fun _ _ => rfl) ?_
  rintro _ _ ⟨n, h, hi0_0, hi0_1, rfl, rfl⟩
  have hok1 : HOk h := by rw [hi0_1]; exact iterH_ok n
  have hl1 := hok1.len
  refine W_seq rfl ?_
  refine W_seq rfl ?_
  refine W_reg rfl ?_
  refine Rv rfl rfl rfl (U_move rfl) rfl rfl ?_
  refine Rv rfl rfl rfl (U_lss rfl rfl) rfl rfl ?_
  refine Re rfl ?_
  refine thenQ_n ?_
  refine WcondP rfl rfl (fun hc0 => ?_) (fun hc0 => ?_)
  · refine W_skip rfl ?_
    refine thenQ_n ?_
    refine W_seq rfl ?_
    refine W_block rfl ?_
    refine W_seq rfl ?_
    refine W_reg rfl ?_
    refine Rv rfl rfl rfl (U_assign rfl) rfl rfl ?_
    refine Re rfl ?_
    refine thenQ_n ?_
    refine W_block rfl ?_
    refine LoopTo (T' := [(0, .ros (ks.map i64) ks.length c), (3, .slice 0 0 8 8), (4, i64 ((n : Nat) : Int)), (5, i64 ((0 : Nat) : Int))]) (H' := [(0, some (.cells (h.map n64) 3))]) (n := 1) rfl (fun mz_ qz_ => ∃ (m : Nat) (h2 : List Nat), m ≤ 8 ∧ h2 = rowsH ks h m ∧ mz_ = 8 - m ∧ qz_ = ⟨[(0, .ros (ks.map i64) ks.length c), (3, .slice 0 0 8 8), (4, i64 ((n : Nat) : Int)), (5, i64 ((m : Nat) : Int))], [(0, some (.cells (h2.map n64) 3))], 1, []⟩) ⟨0, h, (by omega), rfl, rfl, rfl⟩ id ⟨eD rfl rfl, e_ rfl rfl, eD rfl rfl, eD rfl rfl, trivial⟩ ⟨rD (mapD (fun _ => rfl) _) rfl rfl, trivial⟩ rfl rfl rfl rfl (fun _ _ => rfl) ?_
    rintro _ _ ⟨m, h2, hi1_0, hi1_1, rfl, rfl⟩
    have hok2 : HOk h2 := by rw [hi1_1]; exact rowsH_ok hok1 m
    have hl2 := hok2.len
    refine W_seq rfl ?_
    refine W_seq rfl ?_
    refine W_reg rfl ?_
    refine Rv rfl rfl rfl (U_move rfl) rfl rfl ?_
    refine Rv rfl rfl rfl (U_lss rfl rfl) rfl rfl ?_
    refine Re rfl ?_
    refine thenQ_n ?_
    refine WcondP rfl rfl (fun hc1 => ?_) (fun hc1 => ?_)
    · refine W_skip rfl ?_
      refine thenQ_n ?_
      refine W_seq rfl ?_
      refine W_block rfl ?_
      refine W_seq rfl ?_
      refine W_reg rfl ?_
      refine Rv rfl rfl rfl (U_assign rfl) rfl rfl ?_
      refine Re rfl ?_
      refine thenQ_n ?_
      refine W_block rfl ?_
      refine LoopTo (T' := [(0, .ros (ks.map i64) ks.length c), (3, .slice 0 0 8 8), (4, i64 ((n : Nat) : Int)), (5, i64 ((m : Nat) : Int)), (6, i64 ((0 : Nat) : Int))]) (H' := [(0, some (.cells (h2.map n64) 3))]) (n := 1) rfl (fun mz_ qz_ => ∃ (i : Nat) (h3 : List Nat), i ≤ ks.length ∧ h3 = partH ks h2 m i ∧ mz_ = ks.length - i ∧ qz_ = ⟨[(0, .ros (ks.map i64) ks.length c), (3, .slice 0 0 8 8), (4, i64 ((n : Nat) : Int)), (5, i64 ((m : Nat) : Int)), (6, i64 ((i : Nat) : Int))], [(0, some (.cells (h3.map n64) 3))], 1, []⟩) ⟨0, h2, (by omega), rfl, rfl, rfl⟩ id ⟨eD rfl rfl, e_ rfl rfl, eD rfl rfl, eD rfl rfl, eD rfl rfl, trivial⟩ ⟨rD (mapD (fun _ => rfl) _) rfl rfl, trivial⟩ rfl rfl rfl rfl (fun _ _ => rfl) ?_
      rintro _ _ ⟨i, h3, hi2_0, hi2_1, rfl, rfl⟩
      have hok3 : HOk h3 := by rw [hi2_1]; exact partH_ok hok2 m i
      have hl3 := hok3.len
      refine W_seq rfl ?_
      refine W_seq rfl ?_
      refine W_reg rfl ?_
      refine Rv rfl rfl rfl (U_move rfl) rfl rfl ?_
      refine Rv rfl rfl rfl (U_move rfl) rfl rfl ?_
      refine Rv rfl rfl rfl (U_lenOf rfl len_ros) rfl rfl ?_
      refine Rv rfl rfl rfl (U_lss rfl rfl) rfl rfl ?_
      refine Re rfl ?_
      refine thenQ_n ?_
      refine WcondP rfl rfl (fun hc2 => ?_) (fun hc2 => ?_)
      · have hci : i < ks.length := by omega
        have hkk := hk _ (List.getElem_mem hci)
        have hda := after_in (a := m) (b := ks[i]) (by omega) hkk
        have hx : (aft m ks[i]).toNat < 8 := by omega
        have hb1 := hok3.get (j := (aft m ks[i]).toNat) (by omega)
        have hb2 := hok3.get (j := m) (by omega)
        refine W_skip rfl ?_
        refine thenQ_n ?_
        refine W_seq rfl ?_
        refine W_block rfl ?_
        refine W_seq rfl ?_
        refine W_reg rfl ?_
        refine Rv rfl rfl rfl (U_move rfl) rfl rfl ?_
        refine Rv rfl rfl rfl (U_move rfl) rfl rfl ?_
        refine Rv rfl rfl rfl (U_move rfl) rfl rfl ?_
        have hx1 : i < ks.length := by omega
        refine Rv rfl rfl rfl (U_indexR (j := i) rfl rfl rfl hx1) rfl rfl ?_
        refine Rv rfl rfl rfl (U_load1 rfl rfl (getM hx1)) rfl rfl ?_
        refine Rv rfl rfl rfl (U_call rfl rfl (afterR_p ((m : Nat) : Int) ks[i] (by first | assumption | omega) (by first | assumption | omega)) rfl) rfl rfl ?_
        refine Rv rfl rfl rfl (U_assign rfl) rfl rfl ?_
        refine Re rfl ?_
        refine thenQ_n ?_
        refine Wdraw rfl (by kernel_rfl) (by kernel_rfl) ?_
        refine Dv rfl rfl rfl (U_move rfl) rfl rfl ?_
        refine Dv rfl rfl rfl (U_move rfl) rfl rfl ?_
        refine Dv rfl rfl rfl (U_move rfl) rfl rfl ?_
        refine Dv rfl rfl rfl (U_move rfl) rfl rfl ?_
        have hx2 : (aft ((m : Nat) : Int) ks[i]).toNat < h3.length := by omega
        refine Dv rfl rfl rfl (U_indexS (j := (aft ((m : Nat) : Int) ks[i]).toNat) rfl rfl (by omega) (by omega)) rfl rfl ?_
        refine Dv rfl rfl rfl (U_load1 rfl rfl (getM0 hx2)) rfl rfl ?_
        refine Dv rfl rfl rfl (U_move rfl) rfl rfl ?_
        refine Dv rfl rfl rfl (U_move rfl) rfl rfl ?_
        have hx3 : m < h3.length := by omega
        refine Dv rfl rfl rfl (U_indexS (j := m) rfl rfl rfl (by omega)) rfl rfl ?_
        refine Dv rfl rfl rfl (U_load1 rfl rfl (getM0 hx3)) rfl rfl ?_
        refine Dv rfl rfl rfl (U_add rfl rfl (w64e (m := ((h3[m] + 1 : Nat) : Int)) (by omega) (by omega) (by omega))) rfl rfl ?_
        refine Dv rfl rfl rfl (U_min (m := (((min (h3[(aft ((m : Nat) : Int) ks[i]).toNat]) (h3[m] + 1)) : Nat) : Int)) rfl rfl (by omega)) rfl rfl ?_
        refine Dv rfl rfl rfl (U_indexS (j := (aft ((m : Nat) : Int) ks[i]).toNat) rfl rfl (by omega) (by omega)) rfl rfl ?_
        refine Dn_ rfl rfl rfl (U_store (n := 1) (cs' := (h3.set ((aft ((m : Nat) : Int) ks[i]).toNat) (min (h3[(aft ((m : Nat) : Int) ks[i]).toNat]) (h3[m] + 1))).map n64) rfl rfl rfl rfl rfl (stLt hx2) rfl setM) rfl rfl ?_
        refine Dr.nil rfl ?_
        refine blkQ_n ?_
        refine thenQ_n ?_
        refine W_reg rfl ?_
        refine Rv rfl rfl rfl (U_move rfl) rfl rfl ?_
        refine Rv rfl rfl rfl (U_add rfl rfl (w64e (m := ((i + 1 : Nat) : Int)) (by omega) (by omega) (by omega))) rfl rfl ?_
        refine Rv rfl rfl rfl (U_assign rfl) rfl rfl ?_
        refine Re rfl ?_
        refine thenQ_n ?_
        exact againTo (T' := [(0, .ros (ks.map i64) ks.length c), (3, .slice 0 0 8 8), (4, i64 ((n : Nat) : Int)), (5, i64 ((m : Nat) : Int)), (6, i64 (((i + 1) : Nat) : Int))]) (H' := [(0, some (.cells ((h3.set ((aft ((m : Nat) : Int) ks[i]).toNat) (min (h3[(aft ((m : Nat) : Int) ks[i]).toNat]) (h3[m] + 1))).map n64) 3))]) (n := 1) (ks.length - (i + 1)) ⟨i + 1, h3.set ((aft ((m : Nat) : Int) ks[i]).toNat) (min (h3[(aft ((m : Nat) : Int) ks[i]).toNat]) (h3[m] + 1)), (by omega), (by rw [partH_step hk hok2 (by omega) hci (j := (aft m ks[i]).toNat) (by omega), ← hi2_1, stepH_eq (by omega) (by omega)]), rfl, rfl⟩ (by omega) id ⟨eD rfl rfl, e_ rfl rfl, eD rfl rfl, eD rfl rfl, eD rfl rfl, trivial⟩ ⟨rD (mapD (fun _ => rfl) _) rfl rfl, trivial⟩ rfl rfl rfl rfl (fun _ _ => rfl)
      · refine W_exit rfl ?_
        refine thenQ_x ?_
        refine thenQ_x ?_
        refine blkQ_x rfl ?_
        refine blkQ_n ?_
        refine thenQ_n ?_
        refine W_reg rfl ?_
        refine Rv rfl rfl rfl (U_move rfl) rfl rfl ?_
        refine Rv rfl rfl rfl (U_add rfl rfl (w64e (m := ((m + 1 : Nat) : Int)) (by omega) (by omega) (by omega))) rfl rfl ?_
        refine Rv rfl rfl rfl (U_assign rfl) rfl rfl ?_
        refine Re rfl ?_
        refine thenQ_n ?_
        exact againTo (T' := [(0, .ros (ks.map i64) ks.length c), (3, .slice 0 0 8 8), (4, i64 ((n : Nat) : Int)), (5, i64 (((m + 1) : Nat) : Int))]) (H' := [(0, some (.cells (h3.map n64) 3))]) (n := 1) (8 - (m + 1)) ⟨m + 1, h3, (by omega), (by rw [rowsH_succ, ← hi1_1, ← partH_all hk (by omega), hi2_1]; congr 1; simp [doneN]; omega), rfl, rfl⟩ (by omega) id ⟨eD rfl rfl, e_ rfl rfl, eD rfl rfl, eD rfl rfl, trivial⟩ ⟨rD (mapD (fun _ => rfl) _) rfl rfl, trivial⟩ rfl rfl rfl rfl (fun _ _ => rfl)
    · refine W_exit rfl ?_
      refine thenQ_x ?_
      refine thenQ_x ?_
      refine blkQ_x rfl ?_
      refine blkQ_n ?_
      refine thenQ_n ?_
      refine W_reg rfl ?_
      refine Rv rfl rfl rfl (U_move rfl) rfl rfl ?_
      refine Rv rfl rfl rfl (U_add rfl rfl (w64e (m := ((n + 1 : Nat) : Int)) (by omega) (by omega) (by omega))) rfl rfl ?_
      refine Rv rfl rfl rfl (U_assign rfl) rfl rfl ?_
      refine Re rfl ?_
      refine thenQ_n ?_
      exact againTo (T' := [(0, .ros (ks.map i64) ks.length c), (3, .slice 0 0 8 8), (4, i64 (((n + 1) : Nat) : Int))]) (H' := [(0, some (.cells (h2.map n64) 3))]) (n := 1) (8 - (n + 1)) ⟨n + 1, h2, (by omega), (by rw [iterH, ← rowsH_all, ← hi0_1, hi1_1, show m = 8 by omega]), rfl, rfl⟩ (by omega) id ⟨eD rfl rfl, e_ rfl rfl, eD rfl rfl, trivial⟩ ⟨rD (mapD (fun _ => rfl) _) rfl rfl, trivial⟩ rfl rfl rfl rfl (fun _ _ => rfl)
  · refine W_exit rfl ?_
    refine thenQ_x ?_
    refine thenQ_x ?_
    refine blkQ_x rfl ?_
    refine thenQ_n ?_
    refine W_seq rfl ?_
    refine W_reg rfl ?_
    refine Rv rfl rfl rfl (U_move rfl) rfl rfl ?_
    refine Rv rfl rfl rfl (U_assign rfl) rfl rfl ?_
    refine Re rfl ?_
    refine thenQ_n ?_
    refine WfrN 0 rfl (mapD (fun _ => rfl) _) (T' := [(2, .ros (h.map n64) 8 (some 8))]) (H' := []) ⟨⟨_, rfl, rfl⟩, trivial⟩ trivial ?_
    refine W_ret rfl ?_
    exact retL (rlT rfl rl0) (by first | rfl | (simp only [packA]; rw [hi0_1, show n = 8 by omega, iter8 hok]; first | done | rfl)) rfl
theorem reachedR_p (ks : List Int) (c : Option Nat) (hl : ks.length ≤ 1000000) (hok : okK 0 ks = true) : Pure Try.prog 73 [intsA ks c] (intsA (reachedQ ks) none) := by
  have hk : ∀ x ∈ ks, 0 ≤ x ∧ x < 8 := fun x hx => by have := okK_get hok x hx; omega
  have h8 := (heiQ_ok (ks := ks)).len
  refine pure_of_body Try.func73 (c := body Try.f73) rfl (by simp [Try.ntmps73]) fun w0 Φ0 => ?_
  refine W_seq rfl ?_
  refine W_reg rfl ?_
  refine Rv rfl rfl rfl (U_assign rfl) rfl rfl ?_
  refine Re rfl ?_
  refine thenQ_n ?_
  refine W_seq rfl ?_
  refine W_reg rfl ?_
  refine Rv rfl rfl rfl (U_move rfl) rfl rfl ?_
  refine Rv rfl rfl rfl (U_call rfl rfl (heightsR_p ks c (by first | assumption | omega) hok) rfl) rfl rfl ?_
  refine Rv rfl rfl rfl (U_assign rfl) rfl rfl ?_
  refine Re rfl ?_
  refine thenQ_n ?_
  refine W_seq rfl ?_
  refine W_reg rfl ?_
  refine Rv rfl rfl rfl (U_assign rfl) rfl rfl ?_
  refine Re rfl ?_
  refine thenQ_n ?_
  refine W_seq rfl ?_
  refine W_seq rfl ?_
  refine W_reg rfl ?_
  refine Rv rfl rfl rfl (U_assign rfl) rfl rfl ?_
  refine Re rfl ?_
  refine thenQ_n ?_
  refine W_block rfl ?_
  refine LoopTo (T' := [(3, .ros ((heiQ ks).map n64) 8 (some 8)), (4, .out 0 [].length 1), (5, i64 ((0 : Nat) : Int))]) (H' := [(0, outB ([].map i64) 3 [].length)]) (n := 1) rfl (fun mz_ qz_ => ∃ (k : Nat) (l : List Int), k ≤ 8 ∧ l = filt (pR ks) k ∧ mz_ = 8 - k ∧ qz_ = ⟨[(3, .ros ((heiQ ks).map n64) 8 (some 8)), (4, .out 0 l.length 1), (5, i64 ((k : Nat) : Int))], [(0, outB (l.map i64) 3 l.length)], 1, []⟩) ⟨0, [], (by omega), rfl, rfl, rfl⟩ id ⟨eD rfl rfl, eW rfl le_nils_out rfl, eD rfl rfl, trivial⟩ ⟨rO0 rfl, trivial⟩ rfl rfl rfl rfl (fun _ _ => rfl) ?_
  rintro _ _ ⟨k, l, hi0_0, hi0_1, rfl, rfl⟩
  have hll : l.length ≤ 8 := by rw [hi0_1]; exact Nat.le_trans filt_len (by omega)
  refine W_seq rfl ?_
  refine W_seq rfl ?_
  refine W_reg rfl ?_
  refine Rv rfl rfl rfl (U_move rfl) rfl rfl ?_
  refine Rv rfl rfl rfl (U_lss rfl rfl) rfl rfl ?_
  refine Re rfl ?_
  refine thenQ_n ?_
  refine WcondP rfl rfl (fun hc0 => ?_) (fun hc0 => ?_)
  · refine W_skip rfl ?_
    refine thenQ_n ?_
    refine W_seq rfl ?_
    refine W_block rfl ?_
    refine W_seq rfl ?_
    refine W_reg rfl ?_
    refine Rv rfl rfl rfl (U_move rfl) rfl rfl ?_
    refine Rv rfl rfl rfl (U_move rfl) rfl rfl ?_
    have hx1 : k < (heiQ ks).length := by omega
    refine Rv rfl rfl rfl (U_indexR (j := k) rfl rfl rfl (by omega)) rfl rfl ?_
    refine Rv rfl rfl rfl (U_load1 rfl rfl (getM hx1)) rfl rfl ?_
    refine Rv rfl rfl rfl (U_lss rfl rfl) rfl rfl ?_
    refine Re rfl ?_
    refine thenQ_n ?_
    refine WcondP rfl rfl (fun hc1 => ?_) (fun hc1 => ?_)
    · refine W_reg rfl ?_
      refine Rv rfl rfl rfl (U_move rfl) rfl rfl ?_
      refine Rv rfl rfl rfl (U_move rfl) rfl rfl ?_
      refine Rv rfl rfl rfl (U_buildSliceF (by rfl) (by decide) rfl rfl rfl) rfl rfl ?_
      refine Ra rfl rfl rfl (U_appO (b := 0) (m := 0) (cs' := (l ++ [((k : Nat) : Int)]).map i64) (n' := (l ++ [((k : Nat) : Int)]).length) rfl rfl (by simp) rfl (map_len1 _) rfl rfl (by omega) (appM _ _) (len1 _ _)) rfl rfl rfl ?_
      refine Rv rfl rfl rfl (U_assign rfl) rfl rfl ?_
      refine Re rfl ?_
      refine blkQ_n ?_
      refine thenQ_n ?_
      refine W_reg rfl ?_
      refine Rv rfl rfl rfl (U_move rfl) rfl rfl ?_
      refine Rv rfl rfl rfl (U_add rfl rfl (w64e (m := ((k + 1 : Nat) : Int)) (by omega) (by omega) (by omega))) rfl rfl ?_
      refine Rv rfl rfl rfl (U_assign rfl) rfl rfl ?_
      refine Re rfl ?_
      refine thenQ_n ?_
      exact againTo (T' := [(3, .ros ((heiQ ks).map n64) 8 (some 8)), (4, .out 0 (l ++ [((k : Nat) : Int)]).length 1), (5, i64 (((k + 1) : Nat) : Int))]) (H' := [(0, outB ((l ++ [((k : Nat) : Int)]).map i64) 3 (l ++ [((k : Nat) : Int)]).length)]) (n := 1) (8 - (k + 1)) ⟨k + 1, l ++ [((k : Nat) : Int)], (by omega), (by first | (rw [filt_t (reach_t (by omega) hc1), hi0_1]; done) | (rw [filt_f (reach_f (by omega) hc1), hi0_1]; done)), rfl, rfl⟩ (by omega) (mapN [1]) ⟨eD rfl rfl, e_ rfl rfl, eD rfl rfl, trivial⟩ ⟨rO (mapD (fun _ => rfl) _) rfl rfl, trivial⟩ rfl rfl rfl rfl (fun _ h => absurd h (Nat.not_lt_zero _))
    · refine W_skip rfl ?_
      refine blkQ_n ?_
      refine thenQ_n ?_
      refine W_reg rfl ?_
      refine Rv rfl rfl rfl (U_move rfl) rfl rfl ?_
      refine Rv rfl rfl rfl (U_add rfl rfl (w64e (m := ((k + 1 : Nat) : Int)) (by omega) (by omega) (by omega))) rfl rfl ?_
      refine Rv rfl rfl rfl (U_assign rfl) rfl rfl ?_
      refine Re rfl ?_
      refine thenQ_n ?_
      exact againTo (T' := [(3, .ros ((heiQ ks).map n64) 8 (some 8)), (4, .out 0 l.length 1), (5, i64 (((k + 1) : Nat) : Int))]) (H' := [(0, outB (l.map i64) 3 l.length)]) (n := 1) (8 - (k + 1)) ⟨k + 1, l, (by omega), (by first | (rw [filt_t (reach_t (by omega) hc1), hi0_1]; done) | (rw [filt_f (reach_f (by omega) hc1), hi0_1]; done)), rfl, rfl⟩ (by omega) id ⟨eD rfl rfl, e_ rfl rfl, eD rfl rfl, trivial⟩ ⟨rO (mapD (fun _ => rfl) _) rfl rfl, trivial⟩ rfl rfl rfl rfl (fun _ _ => rfl)
  · refine W_exit rfl ?_
    refine thenQ_x ?_
    refine thenQ_x ?_
    refine blkQ_x rfl ?_
    refine thenQ_n ?_
    refine W_seq rfl ?_
    refine W_reg rfl ?_
    refine Rv rfl rfl rfl (U_move rfl) rfl rfl ?_
    refine Rv rfl rfl rfl (U_assign rfl) rfl rfl ?_
    refine Re rfl ?_
    refine thenQ_n ?_
    refine WfrO 0 (l.map i64) rfl (mapD (fun _ => rfl) _) (T' := [(2, .ros (l.map i64) l.length none)]) (H' := []) ⟨fO rfl, trivial⟩ trivial ?_
    refine W_ret rfl ?_
    exact retL (rlT rfl rl0) (by first | rfl | (simp only [packA]; rw [hi0_1, show k = 8 by omega]; rfl; first | done | rfl)) rfl
end Go.Proofs.Ythoodfiacfmhgaa
end

section
/- Contracts of package plate: plates, moved. -/
namespace Go.Proofs.Ythoodfiacfmhgaa
set_option maxRecDepth 20000
open Go.AE
/-- A valid plate. -/
structure VP (p : Pl) (N : Nat) : Prop where
  n : p.n = (N : Int)
  lo : 1 ≤ N
  hi : N ≤ 8
  len : p.ds.length = N * N
  bd : ∀ x ∈ p.ds, 0 ≤ x ∧ x ≤ 3
theorem vp_of {p : Pl} (h : chkP p = 0) : ∃ N, VP p N := by
  unfold chkP at h
  split at h
  · cases h
  · rename_i h1
    split at h
    · cases h
    · rename_i h2
      split at h
      · cases h
      · rename_i h3
        have h1' : 1 ≤ p.n ∧ p.n ≤ 8 := by simpa [inL] using h1
        have h3' : ∀ x ∈ p.ds, 0 ≤ x ∧ x ≤ 3 := by simpa [inL] using h3
        have e : p.n = (p.n.toNat : Int) := by omega
        refine ⟨p.n.toNat, e, by omega, by omega, ?_, h3'⟩
        have h2' : (p.ds.length : Int) = p.n * p.n := Decidable.not_not.1 h2
        rw [e] at h2'
        exact_mod_cast h2'
theorem vp_chk {p : Pl} {N : Nat} (h : VP p N) : chkP p = 0 := by
  have h1 := h.lo; have h2 := h.hi
  have e : (p.ds.length : Int) = p.n * p.n := by rw [h.n, h.len]; exact_mod_cast rfl
  unfold chkP
  rw [if_neg (by rw [inL1, h.n]; simp; omega), if_neg (by rw [e]; simp), if_neg (by simp [inL]; exact h.bd)]
/-- Where a motion brings a dot. -/
def posN (N : Nat) (m : Int) (i : Nat) : Nat := ((toS N m (((i / N : Nat) : Int), ((i % N : Nat) : Int))).1 * N + (toS N m (((i / N : Nat) : Int), ((i % N : Nat) : Int))).2).toNat
/-- The dots that were moved, up to one. -/
def mvD (N : Nat) (m : Int) (ds : List Int) (k : Nat) : List Int := (List.range k).foldl (fun out i => out.set (posN N m i) (ds.getD i 0)) (List.replicate ds.length 0)
def movD (N : Nat) (m : Int) (ds : List Int) : List Int := mvD N m ds ds.length
def movP (p : Pl) (m : Int) : Pl := ⟨p.n, movD p.n.toNat m p.ds⟩
theorem mvD_succ {N : Nat} {m : Int} {ds : List Int} {k : Nat} (h : k < ds.length) : mvD N m ds (k + 1) = (mvD N m ds k).set (posN N m k) ds[k] := by
  rw [mvD, List.range_succ, List.foldl_append]; simp [mvD, List.getElem?_eq_getElem h]
theorem foldset_len {α : Type} (f : α → Nat) (g : α → Int) : ∀ (l : List α) (o : List Int), (l.foldl (fun out i => out.set (f i) (g i)) o).length = o.length
  | [], _ => rfl
  | a :: l, o => by rw [List.foldl_cons, foldset_len f g l]; simp
theorem mvD_len {N : Nat} {m : Int} {ds : List Int} {k : Nat} : (mvD N m ds k).length = ds.length := by rw [mvD, foldset_len]; simp
theorem movD_len {N : Nat} {m : Int} {ds : List Int} : (movD N m ds).length = ds.length := mvD_len
theorem in_sq {N : Nat} (h1 : 1 ≤ N) {i : Nat} (h : i < N * N) : InS N (((i / N : Nat) : Int), ((i % N : Nat) : Int)) := by
  have h2 : i / N < N := Nat.div_lt_of_lt_mul h
  have h3 : i % N < N := Nat.mod_lt _ (by omega)
  exact ⟨Int.natCast_nonneg _, Int.ofNat_lt.2 h2, Int.natCast_nonneg _, Int.ofNat_lt.2 h3⟩
theorem pos_bd {N : Nat} (h2 : N ≤ 8) {q : Int × Int} (h : InS N q) : 0 ≤ q.1 * N ∧ q.1 * N ≤ 64 ∧ 0 ≤ q.1 * N + q.2 ∧ q.1 * N + q.2 < N * N := by
  unfold InS at h
  have a1 : 0 ≤ q.1 * N := Int.mul_nonneg h.1 (by omega)
  have a2 : q.1 * N ≤ (N - 1) * N := Int.mul_le_mul_of_nonneg_right (by omega) (by omega)
  have a3 : ((N : Int) - 1) * N = N * N - N := by rw [Int.sub_mul, Int.one_mul]
  have a4 : (N : Int) * N ≤ 8 * 8 := Int.mul_le_mul (by omega) (by omega) (by omega) (by omega)
  omega
theorem posN_lt {N : Nat} (h1 : 1 ≤ N) (h2 : N ≤ 8) {m : Int} {i : Nat} (hi : i < N * N) : posN N m i < N * N := by
  have := (pos_bd h2 (toS_in (n := N) (m := m) (in_sq h1 hi))).2.2
  unfold posN
  have e : ((N * N : Nat) : Int) = (N : Int) * N := by exact_mod_cast rfl
  omega
theorem moveOf_p (p : Pl) (c : Option Nat) (N : Nat) (hv : VP p N) (m : Int) (hm : 0 ≤ m ∧ m < 8) : Pure Try.prog 56 [plA p c, i64 m] (plA (movP p m) (some (movP p m).ds.length)) := by
  obtain ⟨n, ds⟩ := p
  obtain ⟨e, hlo, hhi, hlen, hbd⟩ := hv
  simp only at e hlen hbd
  subst e
  have hsq : N * N ≤ 64 := Nat.mul_le_mul hhi hhi
  refine pure_of_body Try.func56 (c := body Try.f56) rfl (by simp [Try.ntmps56]) fun w0 Φ0 => ?_
  refine W_seq rfl ?_
  refine W_reg rfl ?_
  refine Rv rfl rfl rfl (U_boxF rfl rfl rfl) rfl rfl ?_
  refine Ra rfl rfl rfl (U_alloc) rfl rfl rfl ?_
  refine Re rfl ?_
  refine thenQ_n ?_
  refine W_seq rfl ?_
  refine Wdraw rfl (by kernel_rfl) (by kernel_rfl) ?_
  refine Dv rfl rfl rfl (U_fieldAddrR rfl) rfl rfl ?_
  refine Dv rfl rfl rfl (U_load1 rfl rfl rfl) rfl rfl ?_
  refine Dv rfl rfl rfl (U_fieldAddrR rfl) rfl rfl ?_
  refine Dv rfl rfl rfl (U_load1 rfl rfl rfl) rfl rfl ?_
  refine Dv rfl rfl rfl (U_lenOf rfl len_ros) rfl rfl ?_
  refine Da rfl rfl rfl (U_mkL (n := ds.length) (cs' := (List.replicate ds.length (0 : Int)).map i64) rfl rfl rfl (by omega) (replM rfl _)) rfl rfl rfl rfl ?_
  refine Dv rfl rfl rfl (U_build rfl rfl) rfl rfl ?_
  refine Da rfl rfl rfl (U_alloc) rfl rfl rfl rfl ?_
  refine Dn_ rfl rfl rfl (U_storeAll rfl rfl rfl rfl rfl rfl) rfl rfl ?_
  refine Dr.nil rfl ?_
  refine thenQ_n ?_
  refine W_seq rfl ?_
  refine W_seq rfl ?_
  refine W_reg rfl ?_
  refine Rv rfl rfl rfl (U_assign rfl) rfl rfl ?_
  refine Re rfl ?_
  refine thenQ_n ?_
  refine W_block rfl ?_
  refine LoopTo (T' := [(1, i64 m), (2, .rop [i64 ((N : Nat) : Int), .ros (ds.map i64) ds.length c] 0), (4, .ptr 0 0), (5, .ptr 2 0), (6, i64 ((0 : Nat) : Int))]) (H' := [(0, some (.cells [i64 0, .nils] 24)), (1, some (.cells ((List.replicate ds.length 0).map i64) 3)), (2, some (.cells [i64 ((N : Nat) : Int), .slice 1 0 ds.length ds.length] 24))]) (n := 3) rfl (fun mz_ qz_ => ∃ (k : Nat) (h : List Int), k ≤ ds.length ∧ h = mvD N m ds k ∧ mz_ = ds.length - k ∧ qz_ = ⟨[(1, i64 m), (2, .rop [i64 ((N : Nat) : Int), .ros (ds.map i64) ds.length c] 0), (4, .ptr 0 0), (5, .ptr 2 0), (6, i64 ((k : Nat) : Int))], [(0, some (.cells [i64 0, .nils] 24)), (1, some (.cells (h.map i64) 3)), (2, some (.cells [i64 ((N : Nat) : Int), .slice 1 0 ds.length ds.length] 24))], 3, []⟩) ⟨0, List.replicate ds.length 0, (by omega), rfl, rfl, rfl⟩ id ⟨eD rfl rfl, eD rfl rfl, e_ rfl rfl, e_ rfl rfl, eD rfl rfl, trivial⟩ ⟨rD rfl rfl rfl, rD (mapD (fun _ => rfl) _) rfl rfl, r_ rfl rfl rfl, trivial⟩ rfl rfl rfl rfl (fun _ _ => rfl) ?_
  rintro _ _ ⟨k, h, hi0_0, hi0_1, rfl, rfl⟩
  have hhl : h.length = ds.length := by rw [hi0_1]; exact mvD_len
  refine W_seq rfl ?_
  refine W_seq rfl ?_
  refine W_reg rfl ?_
  refine Rv rfl rfl rfl (U_move rfl) rfl rfl ?_
  refine Rv rfl rfl rfl (U_fieldAddrR rfl) rfl rfl ?_
  refine Rv rfl rfl rfl (U_load1 rfl rfl rfl) rfl rfl ?_
  refine Rv rfl rfl rfl (U_lenOf rfl len_ros) rfl rfl ?_
  refine Rv rfl rfl rfl (U_lss rfl rfl) rfl rfl ?_
  refine Re rfl ?_
  refine thenQ_n ?_
  refine WcondP rfl rfl (fun hc0 => ?_) (fun hc0 => ?_)
  · have hck : k < ds.length := by omega
    have hin := in_sq hlo (by omega : k < N * N)
    have hpb := pos_bd hhi (toS_in (n := (N : Int)) (m := m) hin)
    have hdv : k / N ≤ k := Nat.div_le_self _ _
    have hmd : k % N ≤ k := Nat.mod_le _ _
    refine W_skip rfl ?_
    refine thenQ_n ?_
    refine W_seq rfl ?_
    refine W_block rfl ?_
    refine W_seq rfl ?_
    refine Wdraw rfl (by kernel_rfl) (by kernel_rfl) ?_
    refine Dv rfl rfl rfl (U_fieldAddrR rfl) rfl rfl ?_
    refine Dv rfl rfl rfl (U_load1 rfl rfl rfl) rfl rfl ?_
    refine Dv rfl rfl rfl (U_move rfl) rfl rfl ?_
    refine Dv rfl rfl rfl (U_move rfl) rfl rfl ?_
    refine Dv rfl rfl rfl (U_fieldAddrR rfl) rfl rfl ?_
    refine Dv rfl rfl rfl (U_load1 rfl rfl rfl) rfl rfl ?_
    refine Dv rfl rfl rfl (U_quo (c := ((k / N : Nat) : Int)) rfl rfl (by omega) (wquoN (by omega))) rfl rfl ?_
    refine Dv rfl rfl rfl (U_move rfl) rfl rfl ?_
    refine Dv rfl rfl rfl (U_fieldAddrR rfl) rfl rfl ?_
    refine Dv rfl rfl rfl (U_load1 rfl rfl rfl) rfl rfl ?_
    refine Dv rfl rfl rfl (U_rem (c := ((k % N : Nat) : Int)) rfl rfl (by omega) (tmodN _ _)) rfl rfl ?_
    refine Dv rfl rfl rfl (U_call rfl rfl (toR_p ((N : Nat) : Int) m ((k / N : Nat) : Int) ((k % N : Nat) : Int) (by omega) (by first | assumption | omega) (by first | assumption | exact toS_in (by assumption) | (unfold InS; simp only; omega))) rfl) rfl rfl ?_
    refine Dv rfl rfl rfl (U_move rfl) rfl rfl ?_
    refine Dv rfl rfl rfl (U_extract rfl rfl) rfl rfl ?_
    refine Dv rfl rfl rfl (U_extract rfl rfl) rfl rfl ?_
    refine Dv rfl rfl rfl (U_assign rfl) rfl rfl ?_
    refine Dv rfl rfl rfl (U_assign rfl) rfl rfl ?_
    refine Dr.nil rfl ?_
    refine thenQ_n ?_
    refine Wdraw rfl (by kernel_rfl) (by kernel_rfl) ?_
    refine Dv rfl rfl rfl (U_fieldAddr rfl) rfl rfl ?_
    refine Dv rfl rfl rfl (U_load1 rfl rfl rfl) rfl rfl ?_
    refine Dv rfl rfl rfl (U_move rfl) rfl rfl ?_
    refine Dv rfl rfl rfl (U_fieldAddrR rfl) rfl rfl ?_
    refine Dv rfl rfl rfl (U_load1 rfl rfl rfl) rfl rfl ?_
    refine Dv rfl rfl rfl (U_mul rfl rfl (w64 (by omega) (by omega))) rfl rfl ?_
    refine Dv rfl rfl rfl (U_move rfl) rfl rfl ?_
    refine Dv rfl rfl rfl (U_add rfl rfl (w64 (by omega) (by omega))) rfl rfl ?_
    refine Dv rfl rfl rfl (U_fieldAddrR rfl) rfl rfl ?_
    refine Dv rfl rfl rfl (U_load1 rfl rfl rfl) rfl rfl ?_
    refine Dv rfl rfl rfl (U_move rfl) rfl rfl ?_
    have hx1 : k < ds.length := by omega
    refine Dv rfl rfl rfl (U_indexR (j := k) rfl rfl rfl hx1) rfl rfl ?_
    refine Dv rfl rfl rfl (U_load1 rfl rfl (getM hx1)) rfl rfl ?_
    have hx2 : ((((toS ((N : Nat) : Int) m (((k / N : Nat) : Int), ((k % N : Nat) : Int))).1) * ((N : Nat) : Int)) + ((toS ((N : Nat) : Int) m (((k / N : Nat) : Int), ((k % N : Nat) : Int))).2)).toNat < h.length := by rw [hhl, hlen]; exact posN_lt hlo hhi (by omega)
    refine Dv rfl rfl rfl (U_indexS (j := ((((toS ((N : Nat) : Int) m (((k / N : Nat) : Int), ((k % N : Nat) : Int))).1) * ((N : Nat) : Int)) + ((toS ((N : Nat) : Int) m (((k / N : Nat) : Int), ((k % N : Nat) : Int))).2)).toNat) rfl rfl (by omega) (by omega)) rfl rfl ?_
    refine Dn_ rfl rfl rfl (U_store (n := 1) (cs' := (h.set (((((toS ((N : Nat) : Int) m (((k / N : Nat) : Int), ((k % N : Nat) : Int))).1) * ((N : Nat) : Int)) + ((toS ((N : Nat) : Int) m (((k / N : Nat) : Int), ((k % N : Nat) : Int))).2)).toNat) ds[k]).map i64) rfl rfl rfl rfl rfl (stLt hx2) rfl setM) rfl rfl ?_
    refine Dr.nil rfl ?_
    refine blkQ_n ?_
    refine thenQ_n ?_
    refine W_reg rfl ?_
    refine Rv rfl rfl rfl (U_move rfl) rfl rfl ?_
    refine Rv rfl rfl rfl (U_add rfl rfl (w64e (m := ((k + 1 : Nat) : Int)) (by omega) (by omega) (by omega))) rfl rfl ?_
    refine Rv rfl rfl rfl (U_assign rfl) rfl rfl ?_
    refine Re rfl ?_
    refine thenQ_n ?_
    exact againTo (T' := [(1, i64 m), (2, .rop [i64 ((N : Nat) : Int), .ros (ds.map i64) ds.length c] 0), (4, .ptr 0 0), (5, .ptr 2 0), (6, i64 (((k + 1) : Nat) : Int))]) (H' := [(0, some (.cells [i64 0, .nils] 24)), (1, some (.cells ((h.set (((((toS ((N : Nat) : Int) m (((k / N : Nat) : Int), ((k % N : Nat) : Int))).1) * ((N : Nat) : Int)) + ((toS ((N : Nat) : Int) m (((k / N : Nat) : Int), ((k % N : Nat) : Int))).2)).toNat) ds[k]).map i64) 3)), (2, some (.cells [i64 ((N : Nat) : Int), .slice 1 0 ds.length ds.length] 24))]) (n := 3) (ds.length - (k + 1)) ⟨k + 1, h.set (((((toS ((N : Nat) : Int) m (((k / N : Nat) : Int), ((k % N : Nat) : Int))).1) * ((N : Nat) : Int)) + ((toS ((N : Nat) : Int) m (((k / N : Nat) : Int), ((k % N : Nat) : Int))).2)).toNat) ds[k], (by omega), (by rw [mvD_succ hck, hi0_1]; rfl), rfl, rfl⟩ (by omega) id ⟨eD rfl rfl, eD rfl rfl, e_ rfl rfl, e_ rfl rfl, eD rfl rfl, trivial⟩ ⟨rD rfl rfl rfl, rD (mapD (fun _ => rfl) _) rfl rfl, r_ rfl rfl rfl, trivial⟩ rfl rfl rfl rfl (fun _ _ => rfl)
  · refine W_exit rfl ?_
    refine thenQ_x ?_
    refine thenQ_x ?_
    refine blkQ_x rfl ?_
    refine thenQ_n ?_
    refine W_seq rfl ?_
    refine W_reg rfl ?_
    refine Rv rfl rfl rfl (U_load2 rfl rfl rfl rfl) rfl rfl ?_
    refine Rn rfl rfl rfl (U_storeAll rfl rfl rfl rfl rfl rfl) rfl ?_
    refine Re rfl ?_
    refine thenQ_n ?_
    refine WfrN 1 rfl (mapD (fun _ => rfl) _) (T' := [(4, .ptr 0 0)]) (H' := [(0, some (.cells [i64 ((N : Nat) : Int), .ros (h.map i64) ds.length (some ds.length)] 24))]) ⟨⟨_, rfl, rfl⟩, trivial⟩ ⟨⟨rfl, rF rfl (by simp [ABlk.fr, frL, AV.fr, bleR])⟩, trivial⟩ ?_
    refine W_ret rfl ?_
    exact retL (rlA rfl rfl rfl rl0) (by first | rfl | (simp only [packA]; rw [hi0_1, show k = ds.length by omega]; show AV.agg [i64 (N : Int), .ros ((movD N m ds).map i64) ds.length (some ds.length)] = .agg [i64 (N : Int), .ros ((movD N m ds).map i64) (movD N m ds).length (some (movD N m ds).length)]; rw [movD_len]; first | done | rfl)) rfl
end Go.Proofs.Ythoodfiacfmhgaa
end

section
/- Contracts of package plate: the spots that have a dot. -/
namespace Go.Proofs.Ythoodfiacfmhgaa
set_option maxRecDepth 20000
open Go.AE
theorem spotE : MEnc Try.prog 101 spotA i64 (0 : Int) where
  inj a b h := by
    obtain ⟨a1, a2⟩ := a; obtain ⟨b1, b2⟩ := b
    simp only [spotA, AV.agg.injEq, List.cons.injEq, AV.int.injEq, true_and, and_true] at h
    rw [h.1, h.2]
  dk _ := rfl
  dv _ := rfl
  key := ⟨_, _, _, inferInstance, inferInstance, fun _ => rfl, .int .i64 0, fun _ => by kernel_rfl, fun _ _ _ => by simp [Con]⟩
abbrev Spots := List ((Int × Int) × Int × Nat)
/-- A dot, with its spot. -/
def spotI (N : Nat) (ds : List Int) (i : Nat) : (Int × Int) × Int × Nat := ((((i / N : Nat) : Int), ((i % N : Nat) : Int)), ds.getD i 0, i)
def spotsR (N : Nat) (ds : List Int) (k : Nat) : Spots := (List.range k).map (spotI N ds)
/-- The spots that have a dot. -/
def spotsQ (N : Nat) (ds : List Int) : Spots := (spotsR N ds ds.length).filter fun e => !decide (e.2.1 = 0)
theorem spotsR_succ {N : Nat} {ds : List Int} {k : Nat} : spotsR N ds (k + 1) = spotsR N ds k ++ [spotI N ds k] := by simp [spotsR, List.range_succ]
theorem spot_inj {N : Nat} {ds : List Int} {i j : Nat} (h : (spotI N ds i).1 = (spotI N ds j).1) : i = j := by
  simp only [spotI, Prod.mk.injEq] at h
  have h1 : i / N = j / N := by exact_mod_cast h.1
  have h2 : i % N = j % N := by exact_mod_cast h.2
  rw [← Nat.div_add_mod i N, ← Nat.div_add_mod j N, h1, h2]
theorem spotsR_ok {N : Nat} {ds : List Int} : ∀ k, MOk k (spotsR N ds k) ∧ mget (spotsR N ds k) (spotI N ds k).1 = none
  | 0 => ⟨MOk.nil, rfl⟩
  | k + 1 => by
    obtain ⟨h1, h2⟩ := spotsR_ok (N := N) (ds := ds) k
    have h3 := h1.put (spotI N ds k).1 (spotI N ds k).2.1
    rw [mck, h2, mput_none h2] at h3
    refine ⟨by rw [spotsR_succ]; exact h3, ?_⟩
    rw [mget_none]
    intro hm
    obtain ⟨e, he, h4⟩ := List.mem_map.1 hm
    obtain ⟨j, hj, rfl⟩ := List.mem_map.1 he
    have := spot_inj h4
    simp at hj; omega
theorem spots_put {N : Nat} {ds : List Int} {k : Nat} (h : k < ds.length) : mput k (spotsR N ds k) (((k / N : Nat) : Int), ((k % N : Nat) : Int)) ds[k] = spotsR N ds (k + 1) ∧ mck k (spotsR N ds k) (((k / N : Nat) : Int), ((k % N : Nat) : Int)) = k + 1 := by
  have h2 := (spotsR_ok (N := N) (ds := ds) k).2
  have h2' : mget (spotsR N ds k) (((k / N : Nat) : Int), ((k % N : Nat) : Int)) = none := h2
  refine ⟨?_, by rw [mck, h2']; rfl⟩
  rw [mput_none h2', spotsR_succ]
  simp [spotI, List.getElem?_eq_getElem h]
/-- Behind some steps: those entries are gone that were visited, and have no dot. -/
def leftS (L P : Spots) : Spots := L.filter fun e => !(decide (e ∈ P) && decide (e.2.1 = 0))
theorem leftS_nil (L : Spots) : leftS L [] = L := by simp [leftS]
theorem leftS_mem {L P : Spots} {e : (Int × Int) × Int × Nat} : e ∈ leftS L P ↔ e ∈ L ∧ ¬ (e ∈ P ∧ e.2.1 = 0) := by
  rw [leftS, List.mem_filter]
  by_cases h1 : e ∈ P <;> by_cases h2 : e.2.1 = 0 <;> simp [h1, h2]
theorem leftS_all {L P : Spots} (h : P.Perm L) : leftS L P = L.filter fun e => !decide (e.2.1 = 0) := by
  refine List.filter_congr fun e he => ?_
  simp [h.mem_iff.2 he]
theorem leftS_keep {L P : Spots} {e : (Int × Int) × Int × Nat} (h : ¬ e.2.1 = 0) : leftS L (P ++ [e]) = leftS L P := by
  refine List.filter_congr fun x _ => ?_
  by_cases hx : x = e
  · subst hx; simp [h]
  · simp [hx]
theorem leftS_drop {L P : Spots} {ck : Nat} (hL : MOk ck L) {e : (Int × Int) × Int × Nat} (he : e ∈ L) (h : e.2.1 = 0) : mdel (leftS L P) e.1 = leftS L (P ++ [e]) := by
  unfold leftS
  rw [mdel_filter ((hL.filter _).ky), List.filter_filter]
  refine List.filter_congr fun x hx => ?_
  by_cases hxe : x = e
  · subst hxe; simp [h]
  · have hk : x.1 ≠ e.1 := fun hk => hxe (by
      have h1 := (List.pairwise_map.1 hL.ky)
      obtain ⟨i, hi, rfl⟩ := List.getElem_of_mem hx
      obtain ⟨j, hj, rfl⟩ := List.getElem_of_mem he
      have h2 := List.pairwise_iff_getElem.1 h1
      rcases Nat.lt_trichotomy i j with h3 | h3 | h3
      · exact absurd hk (h2 i j hi hj h3)
      · subst h3; rfl
      · exact absurd hk.symm (h2 j i hj hi h3))
    simp [hxe, hk]
theorem leftS_get {L P : Spots} {ck : Nat} (hL : MOk ck L) {e : (Int × Int) × Int × Nat} (he : e ∈ leftS L P) : (mget (leftS L P) e.1).isSome = true := by
  have h := (mget_mem (L := leftS L P) (hL.filter _).ky (k := e.1) (v := e.2.1)).2 ⟨e.2.2, he⟩
  rw [h]; rfl
theorem rest_mem {L P R : Spots} {ck : Nat} (hL : MOk ck L) (hp : (P ++ R).Perm L) : ∀ e ∈ R, e ∈ leftS L P := fun e he => by
  refine leftS_mem.2 ⟨hp.mem_iff.1 (List.mem_append_right _ he), fun h => ?_⟩
  have h2 := (hp.map (·.2.2)).nodup_iff.2 hL.st
  rw [List.map_append, List.nodup_append] at h2
  exact absurd rfl (h2.2.2 _ (List.mem_map.2 ⟨e, h.1, rfl⟩) _ (List.mem_map.2 ⟨e, he, rfl⟩))
theorem spots_p (p : Pl) (c : Option Nat) (N : Nat) (hv : VP p N) : MutP Try.prog 89 [.rop [i64 p.n, intsA p.ds c] 0] [] 0 (.mapl 0) [(0, some (.map (mE spotA i64 (spotsQ N p.ds)) p.ds.length))] 1 := by
  obtain ⟨n, ds⟩ := p
  obtain ⟨e, hlo, hhi, hlen, hbd⟩ := hv
  simp only at e hlen hbd
  subst e
  have hsq : N * N ≤ 64 := Nat.mul_le_mul hhi hhi
  have hL := (spotsR_ok (N := N) (ds := ds) ds.length).1
  refine mut_of_body Try.func89 (c := body Try.f89) rfl (by decide) (by simp [Try.ntmps89]) fun w0 Φ0 ρ0 => ?_
  refine W_seq rfl ?_
  refine W_reg rfl ?_
  refine Rv rfl rfl rfl (U_assign rfl) rfl rfl ?_
  refine Re rfl ?_
  refine thenQ_n ?_
  refine W_seq rfl ?_
  refine W_reg rfl ?_
  refine Ra rfl rfl rfl (U_makeMap) rfl rfl rfl ?_
  refine Rv rfl rfl rfl (U_assign rfl) rfl rfl ?_
  refine Re rfl ?_
  refine thenQ_n ?_
  refine W_seq rfl ?_
  refine W_seq rfl ?_
  refine W_reg rfl ?_
  refine Rv rfl rfl rfl (U_move rfl) rfl rfl ?_
  refine Rv rfl rfl rfl (U_nilCheckR rfl) rfl rfl ?_
  refine Rv rfl rfl rfl (U_fieldAddrR rfl) rfl rfl ?_
  refine Rv rfl rfl rfl (U_fieldAddrR rfl) rfl rfl ?_
  refine Rv rfl rfl rfl (U_load1 rfl rfl rfl) rfl rfl ?_
  refine Rv rfl rfl rfl (U_lenOf rfl len_ros) rfl rfl ?_
  refine Rv rfl rfl rfl (U_move rfl) rfl rfl ?_
  refine Re rfl ?_
  refine thenQ_n ?_
  refine W_block rfl ?_
  refine LoopTo (T' := [(0, .rop [i64 ((N : Nat) : Int), .ros (ds.map i64) ds.length c] 0), (3, .mapl 0), (13, .ros (ds.map i64) ds.length c), (14, i64 ((ds.length : Nat) : Int)), (15, i64 ((0 : Nat) : Int))]) (H' := [(0, some (.map (mE spotA i64 (spotsR N ds 0)) 0))]) (n := 1) rfl (fun mz_ qz_ => ∃ (k : Nat), k ≤ ds.length ∧ mz_ = ds.length - k ∧ qz_ = ⟨[(0, .rop [i64 ((N : Nat) : Int), .ros (ds.map i64) ds.length c] 0), (3, .mapl 0), (13, .ros (ds.map i64) ds.length c), (14, i64 ((ds.length : Nat) : Int)), (15, i64 ((k : Nat) : Int))], [(0, some (.map (mE spotA i64 (spotsR N ds k)) k))], 1, []⟩) ⟨0, (by omega), rfl, rfl⟩ id ⟨eD rfl rfl, e_ rfl rfl, eD rfl rfl, eD rfl rfl, eD rfl rfl, trivial⟩ ⟨rMp (mE_data (fun _ => rfl) (fun _ => rfl) _) rfl rfl, trivial⟩ rfl rfl rfl rfl (fun _ _ => rfl) ?_
  rintro _ _ ⟨k, hi0_0, rfl, rfl⟩
  refine W_seq rfl ?_
  refine W_reg rfl ?_
  refine Rv rfl rfl rfl (U_lss rfl rfl) rfl rfl ?_
  refine Re rfl ?_
  refine thenQ_n ?_
  refine W_seq rfl ?_
  refine WcondP rfl rfl (fun hc0 => ?_) (fun hc0 => ?_)
  · have hck : k < ds.length := by omega
    have hdv : k / N ≤ k := Nat.div_le_self _ _
    have hmd : k % N ≤ k := Nat.mod_le _ _
    refine W_skip rfl ?_
    refine thenQ_n ?_
    refine W_seq rfl ?_
    refine W_block rfl ?_
    refine W_seq rfl ?_
    refine W_reg rfl ?_
    refine Rv rfl rfl rfl (U_move rfl) rfl rfl ?_
    have hx1 : k < ds.length := by omega
    refine Rv rfl rfl rfl (U_indexR (j := k) rfl rfl rfl hx1) rfl rfl ?_
    refine Rv rfl rfl rfl (U_load1 rfl rfl (getM hx1)) rfl rfl ?_
    refine Rv rfl rfl rfl (U_assign rfl) rfl rfl ?_
    refine Rv rfl rfl rfl (U_assign rfl) rfl rfl ?_
    refine Re rfl ?_
    refine thenQ_n ?_
    refine Wdraw rfl (by kernel_rfl) (by kernel_rfl) ?_
    refine Dv rfl rfl rfl (U_move rfl) rfl rfl ?_
    refine Dv rfl rfl rfl (U_move rfl) rfl rfl ?_
    refine Dv rfl rfl rfl (U_move rfl) rfl rfl ?_
    refine Dv rfl rfl rfl (U_nilCheckR rfl) rfl rfl ?_
    refine Dv rfl rfl rfl (U_fieldAddrR rfl) rfl rfl ?_
    refine Dv rfl rfl rfl (U_fieldAddrR rfl) rfl rfl ?_
    refine Dv rfl rfl rfl (U_load1 rfl rfl rfl) rfl rfl ?_
    refine Dv rfl rfl rfl (U_quo (c := ((k / N : Nat) : Int)) rfl rfl (by omega) (wquoN (by omega))) rfl rfl ?_
    refine Dv rfl rfl rfl (U_move rfl) rfl rfl ?_
    refine Dv rfl rfl rfl (U_move rfl) rfl rfl ?_
    refine Dv rfl rfl rfl (U_nilCheckR rfl) rfl rfl ?_
    refine Dv rfl rfl rfl (U_fieldAddrR rfl) rfl rfl ?_
    refine Dv rfl rfl rfl (U_fieldAddrR rfl) rfl rfl ?_
    refine Dv rfl rfl rfl (U_load1 rfl rfl rfl) rfl rfl ?_
    refine Dv rfl rfl rfl (U_rem (c := ((k % N : Nat) : Int)) rfl rfl (by omega) (tmodN _ _)) rfl rfl ?_
    refine Dv rfl rfl rfl (U_build rfl rfl) rfl rfl ?_
    refine Dv rfl rfl rfl (U_move rfl) rfl rfl ?_
    refine Dn_ rfl rfl rfl (U_updM (k := (((k / N : Nat) : Int), ((k % N : Nat) : Int))) (v := ds[k]) (L := spotsR N ds k) spotE rfl rfl rfl rfl) rfl rfl ?_
    refine Dr.nil rfl ?_
    refine blkQ_n ?_
    refine thenQ_n ?_
    refine W_reg rfl ?_
    refine Rv rfl rfl rfl (U_add rfl rfl (w64e (m := ((k + 1 : Nat) : Int)) (by omega) (by omega) (by omega))) rfl rfl ?_
    refine Rv rfl rfl rfl (U_move rfl) rfl rfl ?_
    refine Re rfl ?_
    refine thenQ_n ?_
    exact againTo (T' := [(0, .rop [i64 ((N : Nat) : Int), .ros (ds.map i64) ds.length c] 0), (3, .mapl 0), (13, .ros (ds.map i64) ds.length c), (14, i64 ((ds.length : Nat) : Int)), (15, i64 (((k + 1) : Nat) : Int))]) (H' := [(0, some (.map (mE spotA i64 (spotsR N ds (k + 1))) (k + 1)))]) (n := 1) (ds.length - (k + 1)) ⟨k + 1, (by omega), rfl, rfl⟩ (by omega) id ⟨eD rfl rfl, e_ rfl rfl, eD rfl rfl, eD rfl rfl, eD rfl rfl, trivial⟩ ⟨rMp' (mE_data (fun _ => rfl) (fun _ => rfl) _) rfl (congrArg (mE _ _) (spots_put hck).1) ((spots_put hck).2) rfl, trivial⟩ rfl rfl rfl rfl (fun _ _ => rfl)
  · obtain rfl : k = ds.length := by omega
    refine W_exit rfl ?_
    refine thenQ_x ?_
    refine thenQ_x ?_
    refine blkQ_x rfl ?_
    refine thenQ_n ?_
    refine W_seq rfl ?_
    refine W_seq rfl ?_
    refine W_reg rfl ?_
    refine Rv rfl rfl rfl (U_move rfl) rfl rfl ?_
    refine Ra rfl rfl rfl (U_rangeM Try.underlying101 rfl rfl) rfl rfl rfl ?_
    refine Re rfl ?_
    refine thenQ_n ?_
    refine W_block rfl ?_
    refine LoopTo (T' := [(3, .mapl 0), (39, .ptr 1 0)]) (H' := [(0, some (.map (mE spotA i64 (leftS (spotsR N ds ds.length) [])) ds.length)), (1, some (.iter (.mapl 0) ds.length (stamps []) ds.length))]) (n := 2) rfl (fun mz_ qz_ => ∃ (P : Spots) (Rs : Spots), (P ++ Rs).Perm (spotsR N ds ds.length) ∧ mz_ = Rs.length ∧ qz_ = ⟨[(3, .mapl 0), (39, .ptr 1 0)], [(0, some (.map (mE spotA i64 (leftS (spotsR N ds ds.length) P)) ds.length)), (1, some (.iter (.mapl 0) ds.length (stamps P) ds.length))], 2, []⟩) ⟨[], spotsR N ds ds.length, (List.Perm.refl _), rfl, rfl⟩ id ⟨e_ rfl rfl, e_ rfl rfl, trivial⟩ ⟨rMp' (mE_data (fun _ => rfl) (fun _ => rfl) _) rfl (congrArg (mE _ _) (leftS_nil _).symm) rfl rfl, r_ rfl rfl rfl, trivial⟩ rfl rfl rfl rfl (fun _ _ => rfl) ?_
    rintro _ _ ⟨P, Rs, hi1_0, rfl, rfl⟩
    refine W_seq rfl ?_
    refine W_reg rfl ?_
    refine RnextP (ek := spotA) (el := i64) (P := P) (R := Rs) (M := leftS (spotsR N ds ds.length) P) hL hi1_0 (rest_mem hL hi1_0) (fun e he => (leftS_mem.1 he).1) rfl rfl rfl rfl rfl rfl rfl rfl rfl (fun hR_40 => ?_) (fun e R1_40 R2_40 he_40 hR_40 hp_40 => ?_)
    · refine Rv rfl rfl rfl (U_extract rfl rfl) rfl rfl ?_
      refine Re rfl ?_
      refine thenQ_n ?_
      refine W_seq rfl ?_
      refine Wcond rfl rfl (fun h => nomatch h) (fun _ => ?_)
      refine W_exit rfl ?_
      refine thenQ_x ?_
      refine thenQ_x ?_
      refine blkQ_x rfl ?_
      refine thenQ_n ?_
      refine W_seq rfl ?_
      refine W_reg rfl ?_
      refine Rv rfl rfl rfl (U_move rfl) rfl rfl ?_
      refine Rv rfl rfl rfl (U_assign rfl) rfl rfl ?_
      refine Re rfl ?_
      refine thenQ_n ?_
      refine W_ret rfl ?_
      exact retTo (T' := [(2, .mapl 0)]) id ⟨e_ rfl rfl, trivial⟩ ⟨rMp' (mE_data (fun _ => rfl) (fun _ => rfl) _) rfl (congrArg (mE _ _) (leftS_all (by rw [hR_40, List.append_nil] at hi1_0; exact hi1_0))) rfl rfl, trivial⟩ rfl rfl (fun _ _ => rfl) (rlT rfl rl0) rfl
    · refine Rv rfl rfl rfl (U_extract rfl rfl) rfl rfl ?_
      refine Re rfl ?_
      refine thenQ_n ?_
      refine W_seq rfl ?_
      refine Wcond rfl rfl (fun _ => ?_) (fun h => nomatch h)
      refine W_skip rfl ?_
      refine thenQ_n ?_
      refine W_block rfl ?_
      refine W_seq rfl ?_
      refine W_reg rfl ?_
      refine Rv rfl rfl rfl (U_entryM (e := e) (P := P) (M := (leftS (spotsR N ds ds.length) P)) (ek := spotA) (el := i64) rfl rfl rfl ((hL.filter _).st) he_40) rfl rfl ?_
      refine Rv rfl rfl rfl (U_extract rfl rfl) rfl rfl ?_
      refine Rv rfl rfl rfl (U_extract rfl rfl) rfl rfl ?_
      refine Ra rfl rfl rfl (U_alloc) rfl rfl rfl ?_
      refine Rn rfl rfl rfl (U_storeAll rfl rfl rfl rfl rfl rfl) rfl ?_
      refine Rv rfl rfl rfl (U_assign rfl) rfl rfl ?_
      refine Re rfl ?_
      refine thenQ_n ?_
      refine WfrN 2 rfl rfl (T' := [(3, .mapl 0), (6, .rop [i64 e.1.1, i64 e.1.2] 0), (7, i64 e.2.1), (39, .ptr 1 0)]) (H' := [(0, some (.map (mE spotA i64 (leftS (spotsR N ds ds.length) P)) ds.length)), (1, some (.iter (.mapl 0) ds.length (stamps (P ++ [e])) ds.length))]) ⟨⟨_, rfl, rfl⟩, ⟨_, rfl, rfl⟩, ⟨_, rfl, rfl⟩, ⟨_, rfl, rfl⟩, trivial⟩ ⟨⟨rfl, rFMp (mE_data (fun _ => rfl) (fun _ => rfl) _) rfl⟩, ⟨rfl, rF rfl rfl⟩, trivial⟩ ?_
      refine W_seq rfl ?_
      refine W_reg rfl ?_
      refine Rv rfl rfl rfl (U_move rfl) rfl rfl ?_
      refine Rv rfl rfl rfl (U_eql rfl rfl) rfl rfl ?_
      refine Re rfl ?_
      refine thenQ_n ?_
      refine WcondP rfl rfl (fun hc2 => ?_) (fun hc2 => ?_)
      · refine W_reg rfl ?_
        refine Rv rfl rfl rfl (U_move rfl) rfl rfl ?_
        refine Rv rfl rfl rfl (U_load2 rfl rfl rfl rfl) rfl rfl ?_
        refine Rn rfl rfl rfl (U_delM (k := (e.1.1, e.1.2)) (L := leftS (spotsR N ds ds.length) P) spotE rfl rfl rfl (leftS_get hL he_40)) rfl ?_
        refine Re rfl ?_
        refine blkQ_n ?_
        refine thenQ_n ?_
        exact againTo (T' := [(3, .mapl 0), (39, .ptr 1 0)]) (H' := [(0, some (.map (mE spotA i64 (leftS (spotsR N ds ds.length) (P ++ [e]))) ds.length)), (1, some (.iter (.mapl 0) ds.length (stamps (P ++ [e])) ds.length))]) (n := 2) ((R1_40 ++ R2_40).length) ⟨P ++ [e], R1_40 ++ R2_40, hp_40, rfl, rfl⟩ (by rw [hR_40]; simp) id ⟨e_ rfl rfl, e_ rfl rfl, trivial⟩ ⟨rMp' (mE_data (fun _ => rfl) (fun _ => rfl) _) rfl (by first | exact congrArg (mE _ _) (leftS_drop hL ((leftS_mem.1 he_40).1) hc2) | exact congrArg (mE _ _) (leftS_keep hc2).symm) rfl rfl, r_ rfl rfl rfl, trivial⟩ rfl rfl rfl rfl (fun _ _ => rfl)
      · refine W_skip rfl ?_
        refine blkQ_n ?_
        refine thenQ_n ?_
        exact againTo (T' := [(3, .mapl 0), (39, .ptr 1 0)]) (H' := [(0, some (.map (mE spotA i64 (leftS (spotsR N ds ds.length) (P ++ [e]))) ds.length)), (1, some (.iter (.mapl 0) ds.length (stamps (P ++ [e])) ds.length))]) (n := 2) ((R1_40 ++ R2_40).length) ⟨P ++ [e], R1_40 ++ R2_40, hp_40, rfl, rfl⟩ (by rw [hR_40]; simp) id ⟨e_ rfl rfl, e_ rfl rfl, trivial⟩ ⟨rMp' (mE_data (fun _ => rfl) (fun _ => rfl) _) rfl (by first | exact congrArg (mE _ _) (leftS_drop hL ((leftS_mem.1 he_40).1) hc2) | exact congrArg (mE _ _) (leftS_keep hc2).symm) rfl rfl, r_ rfl rfl rfl, trivial⟩ rfl rfl rfl rfl (fun _ _ => rfl)
end Go.Proofs.Ythoodfiacfmhgaa
end
