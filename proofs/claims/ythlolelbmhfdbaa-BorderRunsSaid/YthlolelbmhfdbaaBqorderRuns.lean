import Derived.Test.YthlolelbmhfdbaaM5
set_option linter.all false
section
namespace Go.AE
open Go.RowKit
section
variable {ρ : Env} {Φ : Fz} {w : World}
end
section
variable {C : Ctx} {o : Oper} {T : AT} {H : AH} {nx nx' : Nat} {v : AV} {ups : AH}
end
section ops
variable {C : Ctx} {T : AT} {H : AH} {nx : Nat} {d : Option Tmp} {ty : TypeId} {pos : String} {after : Array Edge} {g : Option (Nat × Bool)}
section num
variable {x y : Operand} {k : IntKind} {a b c : Int} {t t' : TypeId}
theorem U_mul (hx : ev T x = some (.int k a)) (hy : ev T y = some (.int k b)) (hc : k.wrap (a * b) = c) : OpU C ⟨d, .binOp .mul t x y t', ty, pos, after, g⟩ T H nx (.int k c) [] nx :=
  binInt hx hy rfl (by simp) fun w => ⟨.int k c, by simp [binOp, Op.intArith, hc], fun _ _ => mk_int⟩
end num
end ops
end Go.AE
end

section
namespace Go.AE
open Go.RowKit
section
variable {C : Ctx} {T : AT} {H : AH} {nx : Nat} {d : Option Tmp} {ty : TypeId} {pos : String} {after : Array Edge} {g : Option (Nat × Bool)}
theorem U_neqS {t t' : TypeId} {x y : Operand} {k : IntKind} {a : Int} (hx : ev T x = some (.int k a)) (hy : ev T y = some (.int k a)) : OpU C ⟨d, .binOp .neq t x y t', ty, pos, after, g⟩ T H nx (.bool false) [] nx := by
  have h := U_neq (C := C) (t := t) (t' := t') (d := d) (ty := ty) (pos := pos) (after := after) (g := g) (H := H) (nx := nx) hx hy
  rwa [decide_eq_false (fun k => k rfl)] at h
end
end Go.AE
end

section
namespace Go.Proofs.Ythlolelbmhfdbaa
set_option maxRecDepth 20000
open Go.AE
theorem any_false {α : Type} {p : α → Bool} {l : List α} (h : ∀ j (hj : j < l.length), p l[j] = false) : l.any p = false := by
  rw [List.any_eq_false]; intro x hx; obtain ⟨j, hj, rfl⟩ := List.getElem_of_mem hx; rw [h j hj]; simp
end Go.Proofs.Ythlolelbmhfdbaa
end

section
namespace Go.Proofs.Ythlolelbmhfdbaa
set_option maxRecDepth 20000
open Go.AE
theorem any_f {α : Type} {p : α → Bool} {l : List α} (h : ∀ j (hj : j < l.length), p l[j] = false) : l.any p = false := any_false h
theorem bef_succ {α : Type} {p : α → Bool} {l : List α} {k : Nat} (h : ∀ j (hj : j < l.length), j < k → p l[j] = false) (hk : k < l.length) (hp : p l[k] = false) : ∀ j (hj : j < l.length), j < k + 1 → p l[j] = false := fun j hj h2 => by
  rcases Nat.lt_succ_iff_lt_or_eq.1 h2 with h2 | rfl
  · exact h j hj h2
  · exact hp
theorem isBR_p (b : Bx) (H Z : Int) (hH : 1 ≤ H ∧ H ≤ 48) (hZ : 1 ≤ Z ∧ Z ≤ 24) : Pure Try.prog 74 [bxA b, i64 H, i64 Z] (.bool (isB b H Z)) := by
  refine pure_of_body Try.func74 (c := body Try.f74) rfl (by simp [Try.ntmps74]) fun w0 Φ0 => ?_
  refine W_seq rfl ?_
  refine W_reg rfl ?_
  refine Rv rfl rfl rfl (U_boxF rfl rfl rfl) rfl rfl ?_
  refine Rv rfl rfl rfl (U_assign rfl) rfl rfl ?_
  refine Re rfl ?_
  refine thenQ_n ?_
  refine W_seq rfl ?_
  refine W_seq rfl ?_
  refine Wjoin ⟨[(2, i64 Z), (3, .rop [i64 b.fr, i64 b.wd, i64 b.lo, i64 b.hi] 0), (26, .bool ((decide (b.fr < 0)) || ((decide (H ≤ b.fr)) || ((decide (b.wd < 1)) || (decide (H < b.wd))))))], [], 0, []⟩ ?_ ?_
  · refine W_reg rfl ?_
    refine Rv rfl rfl rfl (U_fieldAddrR rfl) rfl rfl ?_
    refine Rv rfl rfl rfl (U_load1 rfl rfl rfl) rfl rfl ?_
    refine Rv rfl rfl rfl (U_lss rfl rfl) rfl rfl ?_
    refine Rv rfl rfl rfl (U_move rfl) rfl rfl ?_
    refine Rsplit (t := 10) rfl (fun hg1 => ?_) (fun hg1 => ?_)
    · rw [hg1]
      have hg1' : b.fr < 0 := of_decide_eq_true hg1
      refine Rs rfl rfl rfl rfl rfl ?_
      refine Rs rfl rfl rfl rfl rfl ?_
      refine Rs rfl rfl rfl rfl rfl ?_
      refine Rs rfl rfl rfl rfl rfl ?_
      refine Rv rfl rfl rfl (U_pick_t rfl rfl) rfl rfl ?_
      refine Rv rfl rfl rfl (U_move rfl) rfl rfl ?_
      refine Rs rfl rfl rfl rfl rfl ?_
      refine Rs rfl rfl rfl rfl rfl ?_
      refine Rs rfl rfl rfl rfl rfl ?_
      refine Rv rfl rfl rfl (U_pick_t rfl rfl) rfl rfl ?_
      refine Rv rfl rfl rfl (U_move rfl) rfl rfl ?_
      refine Rs rfl rfl rfl rfl rfl ?_
      refine Rs rfl rfl rfl rfl rfl ?_
      refine Rs rfl rfl rfl rfl rfl ?_
      refine Rs rfl rfl rfl rfl rfl ?_
      refine Rv rfl rfl rfl (U_pick_t rfl rfl) rfl rfl ?_
      refine Re rfl ?_
      exact joinTo id ⟨eD rfl rfl, eD rfl rfl, eD rfl rfl, trivial⟩ trivial rfl rfl rfl rfl (fun _ _ => rfl)
    · rw [hg1]
      have hg1' : ¬ (b.fr < 0) := of_decide_eq_false hg1
      refine Rv rfl rfl rfl (U_fieldAddrR rfl) rfl rfl ?_
      refine Rv rfl rfl rfl (U_load1 rfl rfl rfl) rfl rfl ?_
      refine Rv rfl rfl rfl (U_move rfl) rfl rfl ?_
      refine Rv rfl rfl rfl (U_geq rfl rfl) rfl rfl ?_
      refine Rv rfl rfl rfl (U_pick_f rfl rfl) rfl rfl ?_
      refine Rv rfl rfl rfl (U_move rfl) rfl rfl ?_
      refine Rsplit (t := 16) rfl (fun hg2 => ?_) (fun hg2 => ?_)
      · rw [hg2]
        have hg2' : H ≤ b.fr := of_decide_eq_true hg2
        refine Rs rfl rfl rfl rfl rfl ?_
        refine Rs rfl rfl rfl rfl rfl ?_
        refine Rs rfl rfl rfl rfl rfl ?_
        refine Rv rfl rfl rfl (U_pick_t rfl rfl) rfl rfl ?_
        refine Rv rfl rfl rfl (U_move rfl) rfl rfl ?_
        refine Rs rfl rfl rfl rfl rfl ?_
        refine Rs rfl rfl rfl rfl rfl ?_
        refine Rs rfl rfl rfl rfl rfl ?_
        refine Rs rfl rfl rfl rfl rfl ?_
        refine Rv rfl rfl rfl (U_pick_t rfl rfl) rfl rfl ?_
        refine Re rfl ?_
        exact joinTo id ⟨eD rfl rfl, eD rfl rfl, eD rfl rfl, trivial⟩ trivial rfl rfl rfl rfl (fun _ _ => rfl)
      · rw [hg2]
        have hg2' : ¬ (H ≤ b.fr) := of_decide_eq_false hg2
        refine Rv rfl rfl rfl (U_fieldAddrR rfl) rfl rfl ?_
        refine Rv rfl rfl rfl (U_load1 rfl rfl rfl) rfl rfl ?_
        refine Rv rfl rfl rfl (U_lss rfl rfl) rfl rfl ?_
        refine Rv rfl rfl rfl (U_pick_f rfl rfl) rfl rfl ?_
        refine Rv rfl rfl rfl (U_move rfl) rfl rfl ?_
        refine Rsplit (t := 21) rfl (fun hg3 => ?_) (fun hg3 => ?_)
        · rw [hg3]
          have hg3' : b.wd < 1 := of_decide_eq_true hg3
          refine Rs rfl rfl rfl rfl rfl ?_
          refine Rs rfl rfl rfl rfl rfl ?_
          refine Rs rfl rfl rfl rfl rfl ?_
          refine Rs rfl rfl rfl rfl rfl ?_
          refine Rv rfl rfl rfl (U_pick_t rfl rfl) rfl rfl ?_
          refine Re rfl ?_
          exact joinTo id ⟨eD rfl rfl, eD rfl rfl, eD rfl rfl, trivial⟩ trivial rfl rfl rfl rfl (fun _ _ => rfl)
        · rw [hg3]
          have hg3' : ¬ (b.wd < 1) := of_decide_eq_false hg3
          refine Rv rfl rfl rfl (U_fieldAddrR rfl) rfl rfl ?_
          refine Rv rfl rfl rfl (U_load1 rfl rfl rfl) rfl rfl ?_
          refine Rv rfl rfl rfl (U_move rfl) rfl rfl ?_
          refine Rv rfl rfl rfl (U_gtr rfl rfl) rfl rfl ?_
          refine Rv rfl rfl rfl (U_pick_f rfl rfl) rfl rfl ?_
          refine Re rfl ?_
          exact joinTo id ⟨eD rfl rfl, eD rfl rfl, eD rfl rfl, trivial⟩ trivial rfl rfl rfl rfl (fun _ _ => rfl)
  refine thenQ_n ?_
  refine Wcond rfl rfl (fun hc0 => ?_) (fun hc0 => ?_)
  · refine W_seq rfl ?_
    refine W_reg rfl ?_
    refine Rv rfl rfl rfl (U_assign rfl) rfl rfl ?_
    refine Re rfl ?_
    refine thenQ_n ?_
    refine W_ret rfl ?_
    refine thenQ_r ?_
    exact retL (rlT rfl rl0) (by first | rfl | (simp only [packA]; congr 1; symm; unfold isB; rw [inL1, inL1, inL1, inL1, Bool.eq_false_iff]; intro h; simp at h hc0; omega; first | done | rfl) | (simp only [packA]; congr 1; unfold isB; rw [inL1, inL1, inL1, inL1, Bool.eq_iff_iff]; simp at hc0 ⊢; omega; first | done | rfl)) rfl
  · have hc0' := Bool.eq_false_iff.1 hc0
    refine W_skip rfl ?_
    refine thenQ_n ?_
    refine W_seq rfl ?_
    refine Wjoin ⟨[(6, .bool ((decide (0 ≤ b.lo)) && ((decide (b.lo < b.hi)) && (decide (b.hi ≤ Z)))))], [], 0, []⟩ ?_ ?_
    · refine W_reg rfl ?_
      refine Rv rfl rfl rfl (U_fieldAddrR rfl) rfl rfl ?_
      refine Rv rfl rfl rfl (U_load1 rfl rfl rfl) rfl rfl ?_
      refine Rv rfl rfl rfl (U_geq rfl rfl) rfl rfl ?_
      refine Rv rfl rfl rfl (U_move rfl) rfl rfl ?_
      refine Rsplit (t := 30) rfl (fun hg4 => ?_) (fun hg4 => ?_)
      · rw [hg4]
        have hg4' : 0 ≤ b.lo := of_decide_eq_true hg4
        refine Rv rfl rfl rfl (U_fieldAddrR rfl) rfl rfl ?_
        refine Rv rfl rfl rfl (U_load1 rfl rfl rfl) rfl rfl ?_
        refine Rv rfl rfl rfl (U_fieldAddrR rfl) rfl rfl ?_
        refine Rv rfl rfl rfl (U_load1 rfl rfl rfl) rfl rfl ?_
        refine Rv rfl rfl rfl (U_lss rfl rfl) rfl rfl ?_
        refine Rv rfl rfl rfl (U_pick_t rfl rfl) rfl rfl ?_
        refine Rv rfl rfl rfl (U_move rfl) rfl rfl ?_
        refine Rsplit (t := 37) rfl (fun hg5 => ?_) (fun hg5 => ?_)
        · rw [hg5]
          have hg5' : b.lo < b.hi := of_decide_eq_true hg5
          refine Rv rfl rfl rfl (U_fieldAddrR rfl) rfl rfl ?_
          refine Rv rfl rfl rfl (U_load1 rfl rfl rfl) rfl rfl ?_
          refine Rv rfl rfl rfl (U_move rfl) rfl rfl ?_
          refine Rv rfl rfl rfl (U_leq rfl rfl) rfl rfl ?_
          refine Rv rfl rfl rfl (U_pick_t rfl rfl) rfl rfl ?_
          refine Rv rfl rfl rfl (U_assign rfl) rfl rfl ?_
          refine Re rfl ?_
          exact joinTo id ⟨eD rfl rfl, trivial⟩ trivial rfl rfl rfl rfl (fun _ _ => rfl)
        · rw [hg5]
          have hg5' : ¬ (b.lo < b.hi) := of_decide_eq_false hg5
          refine Rs rfl rfl rfl rfl rfl ?_
          refine Rs rfl rfl rfl rfl rfl ?_
          refine Rs rfl rfl rfl rfl rfl ?_
          refine Rs rfl rfl rfl rfl rfl ?_
          refine Rv rfl rfl rfl (U_pick_f rfl rfl) rfl rfl ?_
          refine Rv rfl rfl rfl (U_assign rfl) rfl rfl ?_
          refine Re rfl ?_
          exact joinTo id ⟨eD rfl rfl, trivial⟩ trivial rfl rfl rfl rfl (fun _ _ => rfl)
      · rw [hg4]
        have hg4' : ¬ (0 ≤ b.lo) := of_decide_eq_false hg4
        refine Rs rfl rfl rfl rfl rfl ?_
        refine Rs rfl rfl rfl rfl rfl ?_
        refine Rs rfl rfl rfl rfl rfl ?_
        refine Rs rfl rfl rfl rfl rfl ?_
        refine Rs rfl rfl rfl rfl rfl ?_
        refine Rv rfl rfl rfl (U_pick_f rfl rfl) rfl rfl ?_
        refine Rv rfl rfl rfl (U_move rfl) rfl rfl ?_
        refine Rs rfl rfl rfl rfl rfl ?_
        refine Rs rfl rfl rfl rfl rfl ?_
        refine Rs rfl rfl rfl rfl rfl ?_
        refine Rs rfl rfl rfl rfl rfl ?_
        refine Rv rfl rfl rfl (U_pick_f rfl rfl) rfl rfl ?_
        refine Rv rfl rfl rfl (U_assign rfl) rfl rfl ?_
        refine Re rfl ?_
        exact joinTo id ⟨eD rfl rfl, trivial⟩ trivial rfl rfl rfl rfl (fun _ _ => rfl)
    refine thenQ_n ?_
    refine W_ret rfl ?_
    exact retL (rlT rfl rl0) (by first | rfl | (simp only [packA]; congr 1; symm; unfold isB; rw [inL1, inL1, inL1, inL1, Bool.eq_false_iff]; intro h; simp at h hc0; omega; first | done | rfl) | (simp only [packA]; congr 1; unfold isB; rw [inL1, inL1, inL1, inL1, Bool.eq_iff_iff]; simp at hc0 ⊢; omega; first | done | rfl)) rfl
theorem chkSR_p (s : Sk) (c : Option Nat) (hl : s.ls.length ≤ 1000000) (hbl : ∀ l ∈ s.ls, l.length ≤ 1000000) : Pure Try.prog 23 [.agg [i64 s.h, i64 s.z, landsA s.ls c]] (i64 (chkS s)) := by
  refine pure_of_body Try.func23 (c := body Try.f23) rfl (by simp [Try.ntmps23]) fun w0 Φ0 => ?_
  refine W_seq rfl ?_
  refine W_reg rfl ?_
  refine Rv rfl rfl rfl (U_boxF rfl rfl rfl) rfl rfl ?_
  refine Rv rfl rfl rfl (U_assign rfl) rfl rfl ?_
  refine Re rfl ?_
  refine thenQ_n ?_
  refine W_seq rfl ?_
  refine W_seq rfl ?_
  refine Wjoin ⟨[(1, .rop [i64 s.h, i64 s.z, .ros (s.ls.map boxesL) s.ls.length c] 0), (23, .bool ((decide (s.h < 1)) || ((decide (48 < s.h)) || ((decide (s.z < 1)) || (decide (24 < s.z))))))], [], 0, []⟩ ?_ ?_
  · refine W_reg rfl ?_
    refine Rv rfl rfl rfl (U_fieldAddrR rfl) rfl rfl ?_
    refine Rv rfl rfl rfl (U_load1 rfl rfl rfl) rfl rfl ?_
    refine Rv rfl rfl rfl (U_lss rfl rfl) rfl rfl ?_
    refine Rv rfl rfl rfl (U_move rfl) rfl rfl ?_
    refine Rsplit (t := 9) rfl (fun hg1 => ?_) (fun hg1 => ?_)
    · rw [hg1]
      have hg1' : s.h < 1 := of_decide_eq_true hg1
      refine Rs rfl rfl rfl rfl rfl ?_
      refine Rs rfl rfl rfl rfl rfl ?_
      refine Rs rfl rfl rfl rfl rfl ?_
      refine Rv rfl rfl rfl (U_pick_t rfl rfl) rfl rfl ?_
      refine Rv rfl rfl rfl (U_move rfl) rfl rfl ?_
      refine Rs rfl rfl rfl rfl rfl ?_
      refine Rs rfl rfl rfl rfl rfl ?_
      refine Rs rfl rfl rfl rfl rfl ?_
      refine Rv rfl rfl rfl (U_pick_t rfl rfl) rfl rfl ?_
      refine Rv rfl rfl rfl (U_move rfl) rfl rfl ?_
      refine Rs rfl rfl rfl rfl rfl ?_
      refine Rs rfl rfl rfl rfl rfl ?_
      refine Rs rfl rfl rfl rfl rfl ?_
      refine Rv rfl rfl rfl (U_pick_t rfl rfl) rfl rfl ?_
      refine Re rfl ?_
      exact joinTo id ⟨eD rfl rfl, eD rfl rfl, trivial⟩ trivial rfl rfl rfl rfl (fun _ _ => rfl)
    · rw [hg1]
      have hg1' : ¬ (s.h < 1) := of_decide_eq_false hg1
      refine Rv rfl rfl rfl (U_fieldAddrR rfl) rfl rfl ?_
      refine Rv rfl rfl rfl (U_load1 rfl rfl rfl) rfl rfl ?_
      refine Rv rfl rfl rfl (U_gtr rfl rfl) rfl rfl ?_
      refine Rv rfl rfl rfl (U_pick_f rfl rfl) rfl rfl ?_
      refine Rv rfl rfl rfl (U_move rfl) rfl rfl ?_
      refine Rsplit (t := 14) rfl (fun hg2 => ?_) (fun hg2 => ?_)
      · rw [hg2]
        have hg2' : 48 < s.h := of_decide_eq_true hg2
        refine Rs rfl rfl rfl rfl rfl ?_
        refine Rs rfl rfl rfl rfl rfl ?_
        refine Rs rfl rfl rfl rfl rfl ?_
        refine Rv rfl rfl rfl (U_pick_t rfl rfl) rfl rfl ?_
        refine Rv rfl rfl rfl (U_move rfl) rfl rfl ?_
        refine Rs rfl rfl rfl rfl rfl ?_
        refine Rs rfl rfl rfl rfl rfl ?_
        refine Rs rfl rfl rfl rfl rfl ?_
        refine Rv rfl rfl rfl (U_pick_t rfl rfl) rfl rfl ?_
        refine Re rfl ?_
        exact joinTo id ⟨eD rfl rfl, eD rfl rfl, trivial⟩ trivial rfl rfl rfl rfl (fun _ _ => rfl)
      · rw [hg2]
        have hg2' : ¬ (48 < s.h) := of_decide_eq_false hg2
        refine Rv rfl rfl rfl (U_fieldAddrR rfl) rfl rfl ?_
        refine Rv rfl rfl rfl (U_load1 rfl rfl rfl) rfl rfl ?_
        refine Rv rfl rfl rfl (U_lss rfl rfl) rfl rfl ?_
        refine Rv rfl rfl rfl (U_pick_f rfl rfl) rfl rfl ?_
        refine Rv rfl rfl rfl (U_move rfl) rfl rfl ?_
        refine Rsplit (t := 19) rfl (fun hg3 => ?_) (fun hg3 => ?_)
        · rw [hg3]
          have hg3' : s.z < 1 := of_decide_eq_true hg3
          refine Rs rfl rfl rfl rfl rfl ?_
          refine Rs rfl rfl rfl rfl rfl ?_
          refine Rs rfl rfl rfl rfl rfl ?_
          refine Rv rfl rfl rfl (U_pick_t rfl rfl) rfl rfl ?_
          refine Re rfl ?_
          exact joinTo id ⟨eD rfl rfl, eD rfl rfl, trivial⟩ trivial rfl rfl rfl rfl (fun _ _ => rfl)
        · rw [hg3]
          have hg3' : ¬ (s.z < 1) := of_decide_eq_false hg3
          refine Rv rfl rfl rfl (U_fieldAddrR rfl) rfl rfl ?_
          refine Rv rfl rfl rfl (U_load1 rfl rfl rfl) rfl rfl ?_
          refine Rv rfl rfl rfl (U_gtr rfl rfl) rfl rfl ?_
          refine Rv rfl rfl rfl (U_pick_f rfl rfl) rfl rfl ?_
          refine Re rfl ?_
          exact joinTo id ⟨eD rfl rfl, eD rfl rfl, trivial⟩ trivial rfl rfl rfl rfl (fun _ _ => rfl)
  refine thenQ_n ?_
  refine Wcond rfl rfl (fun hc0 => ?_) (fun hc0 => ?_)
  · have hce : chkS s = 3 := by rw [chkS, if_pos (by rw [inL1, inL1]; simp at hc0 ⊢; omega)]
    refine W_seq rfl ?_
    refine W_reg rfl ?_
    refine Rv rfl rfl rfl (U_assign rfl) rfl rfl ?_
    refine Re rfl ?_
    refine thenQ_n ?_
    refine W_ret rfl ?_
    refine thenQ_r ?_
    exact retL (rlT rfl rl0) (by first | rfl | (simp only [packA]; rw [hce]; first | done | rfl)) rfl
  · have hc0' := Bool.eq_false_iff.1 hc0
    have hr : (1 ≤ s.h ∧ s.h ≤ 48) ∧ 1 ≤ s.z ∧ s.z ≤ 24 := by simp at hc0; omega
    obtain ⟨hh, hz⟩ := hr
    refine W_skip rfl ?_
    refine thenQ_n ?_
    refine W_seq rfl ?_
    refine W_seq rfl ?_
    refine W_reg rfl ?_
    refine Rv rfl rfl rfl (U_fieldAddrR rfl) rfl rfl ?_
    refine Rv rfl rfl rfl (U_load1 rfl rfl rfl) rfl rfl ?_
    refine Rv rfl rfl rfl (U_lenOf rfl len_ros) rfl rfl ?_
    refine Rv rfl rfl rfl (U_gtr rfl rfl) rfl rfl ?_
    refine Re rfl ?_
    refine thenQ_n ?_
    refine WcondP rfl rfl (fun hc1 => ?_) (fun hc1 => ?_)
    · have hce : chkS s = 6 := by rw [chkS, if_neg (by rw [inL1, inL1]; simp; omega), if_pos (by simp; omega)]
      refine W_seq rfl ?_
      refine W_reg rfl ?_
      refine Rv rfl rfl rfl (U_assign rfl) rfl rfl ?_
      refine Re rfl ?_
      refine thenQ_n ?_
      refine W_ret rfl ?_
      refine thenQ_r ?_
      exact retL (rlT rfl rl0) (by first | rfl | (simp only [packA]; rw [hce]; first | done | rfl)) rfl
    · refine W_skip rfl ?_
      refine thenQ_n ?_
      refine W_seq rfl ?_
      refine W_seq rfl ?_
      refine W_reg rfl ?_
      refine Rv rfl rfl rfl (U_assign rfl) rfl rfl ?_
      refine Re rfl ?_
      refine thenQ_n ?_
      refine W_block rfl ?_
      refine LoopTo (T' := [(1, .rop [i64 s.h, i64 s.z, .ros (s.ls.map boxesL) s.ls.length c] 0), (3, i64 ((0 : Nat) : Int))]) (H' := []) (n := 0) rfl (fun mz_ qz_ => ∃ (k : Nat), k ≤ s.ls.length ∧ (∀ j (hj : j < s.ls.length), j < k → decide ((600 : Int) < ((s.ls[j].length : Nat) : Int)) = false) ∧ mz_ = s.ls.length - k ∧ qz_ = ⟨[(1, .rop [i64 s.h, i64 s.z, .ros (s.ls.map boxesL) s.ls.length c] 0), (3, i64 ((k : Nat) : Int))], [], 0, []⟩) ⟨0, (by omega), (fun j hj h => absurd h (Nat.not_lt_zero _)), rfl, rfl⟩ id ⟨eD rfl rfl, eD rfl rfl, trivial⟩ trivial rfl rfl rfl rfl (fun _ _ => rfl) ?_
      rintro _ _ ⟨k, hi0_0, hi0_1, rfl, rfl⟩
      refine W_seq rfl ?_
      refine W_seq rfl ?_
      refine W_reg rfl ?_
      refine Rv rfl rfl rfl (U_move rfl) rfl rfl ?_
      refine Rv rfl rfl rfl (U_fieldAddrR rfl) rfl rfl ?_
      refine Rv rfl rfl rfl (U_load1 rfl rfl rfl) rfl rfl ?_
      refine Rv rfl rfl rfl (U_lenOf rfl len_ros) rfl rfl ?_
      refine Rv rfl rfl rfl (U_lss rfl rfl) rfl rfl ?_
      refine Re rfl ?_
      refine thenQ_n ?_
      refine WcondP rfl rfl (fun hc2 => ?_) (fun hc2 => ?_)
      · have hck : k < s.ls.length := by omega
        refine W_skip rfl ?_
        refine thenQ_n ?_
        refine W_seq rfl ?_
        refine W_block rfl ?_
        refine W_seq rfl ?_
        refine W_reg rfl ?_
        refine Rv rfl rfl rfl (U_fieldAddrR rfl) rfl rfl ?_
        refine Rv rfl rfl rfl (U_load1 rfl rfl rfl) rfl rfl ?_
        refine Rv rfl rfl rfl (U_move rfl) rfl rfl ?_
        have hx4 : k < s.ls.length := by omega
        refine Rv rfl rfl rfl (U_indexR (j := k) rfl rfl rfl hx4) rfl rfl ?_
        refine Rv rfl rfl rfl (U_load1 rfl rfl (getM hx4)) rfl rfl ?_
        refine Rv rfl rfl rfl (U_lenOf rfl len_ros) rfl rfl ?_
        refine Rv rfl rfl rfl (U_gtr rfl rfl) rfl rfl ?_
        refine Re rfl ?_
        refine thenQ_n ?_
        refine WcondP rfl rfl (fun hc3 => ?_) (fun hc3 => ?_)
        · have h600 : (s.ls.any fun l => decide ((600 : Int) < ((l.length : Nat) : Int))) = true := any_true hck (by simpa using hc3)
          have hce : chkS s = 6 := by rw [chkS, if_neg (by rw [inL1, inL1]; simp; omega), if_pos (by rw [h600]; simp)]
          refine W_seq rfl ?_
          refine W_reg rfl ?_
          refine Rv rfl rfl rfl (U_assign rfl) rfl rfl ?_
          refine Re rfl ?_
          refine thenQ_n ?_
          refine W_ret rfl ?_
          refine blkQ_r ?_
          refine thenQ_r ?_
          refine thenQ_r ?_
          refine blkQ_r ?_
          refine thenQ_r ?_
          exact retL (rlT rfl rl0) (by first | rfl | (simp only [packA]; rw [hce]; first | done | rfl)) rfl
        · refine W_skip rfl ?_
          refine blkQ_n ?_
          refine thenQ_n ?_
          refine W_reg rfl ?_
          refine Rv rfl rfl rfl (U_move rfl) rfl rfl ?_
          refine Rv rfl rfl rfl (U_add rfl rfl (w64e (m := ((k + 1 : Nat) : Int)) (by omega) (by omega) (by omega))) rfl rfl ?_
          refine Rv rfl rfl rfl (U_assign rfl) rfl rfl ?_
          refine Re rfl ?_
          refine thenQ_n ?_
          exact againTo (T' := [(1, .rop [i64 s.h, i64 s.z, .ros (s.ls.map boxesL) s.ls.length c] 0), (3, i64 (((k + 1) : Nat) : Int))]) (H' := []) (n := 0) (s.ls.length - (k + 1)) ⟨k + 1, (by omega), (bef_succ (p := fun l : List Bx => decide ((600 : Int) < ((l.length : Nat) : Int))) hi0_1 hck (by simp; omega)), rfl, rfl⟩ (by omega) id ⟨eD rfl rfl, eD rfl rfl, trivial⟩ trivial rfl rfl rfl rfl (fun _ _ => rfl)
      · have h600 : (s.ls.any fun l => decide ((600 : Int) < ((l.length : Nat) : Int))) = false := any_f fun j hj => hi0_1 j hj (by omega)
        refine W_exit rfl ?_
        refine thenQ_x ?_
        refine thenQ_x ?_
        refine blkQ_x rfl ?_
        refine thenQ_n ?_
        refine W_seq rfl ?_
        refine W_seq rfl ?_
        refine W_reg rfl ?_
        refine Rv rfl rfl rfl (U_assign rfl) rfl rfl ?_
        refine Re rfl ?_
        refine thenQ_n ?_
        refine W_block rfl ?_
        refine LoopTo (T' := [(1, .rop [i64 s.h, i64 s.z, .ros (s.ls.map boxesL) s.ls.length c] 0), (4, i64 ((0 : Nat) : Int))]) (H' := []) (n := 0) rfl (fun mz_ qz_ => ∃ (m : Nat), m ≤ s.ls.length ∧ (∀ j (hj : j < s.ls.length), j < m → (s.ls[j].any fun b => !isB b s.h s.z) = false) ∧ mz_ = s.ls.length - m ∧ qz_ = ⟨[(1, .rop [i64 s.h, i64 s.z, .ros (s.ls.map boxesL) s.ls.length c] 0), (4, i64 ((m : Nat) : Int))], [], 0, []⟩) ⟨0, (by omega), (fun j hj h => absurd h (Nat.not_lt_zero _)), rfl, rfl⟩ id ⟨eD rfl rfl, eD rfl rfl, trivial⟩ trivial rfl rfl rfl rfl (fun _ _ => rfl) ?_
        rintro _ _ ⟨m, hi1_0, hi1_1, rfl, rfl⟩
        refine W_seq rfl ?_
        refine W_seq rfl ?_
        refine W_reg rfl ?_
        refine Rv rfl rfl rfl (U_move rfl) rfl rfl ?_
        refine Rv rfl rfl rfl (U_fieldAddrR rfl) rfl rfl ?_
        refine Rv rfl rfl rfl (U_load1 rfl rfl rfl) rfl rfl ?_
        refine Rv rfl rfl rfl (U_lenOf rfl len_ros) rfl rfl ?_
        refine Rv rfl rfl rfl (U_lss rfl rfl) rfl rfl ?_
        refine Re rfl ?_
        refine thenQ_n ?_
        refine WcondP rfl rfl (fun hc4 => ?_) (fun hc4 => ?_)
        · have hcm : m < s.ls.length := by omega
          have hbm := hbl _ (List.getElem_mem hcm)
          refine W_skip rfl ?_
          refine thenQ_n ?_
          refine W_seq rfl ?_
          refine W_block rfl ?_
          refine W_seq rfl ?_
          refine W_reg rfl ?_
          refine Rv rfl rfl rfl (U_assign rfl) rfl rfl ?_
          refine Re rfl ?_
          refine thenQ_n ?_
          refine W_block rfl ?_
          refine LoopTo (T' := [(1, .rop [i64 s.h, i64 s.z, .ros (s.ls.map boxesL) s.ls.length c] 0), (4, i64 ((m : Nat) : Int)), (5, i64 ((0 : Nat) : Int))]) (H' := []) (n := 0) rfl (fun mz_ qz_ => ∃ (i : Nat), i ≤ s.ls[m].length ∧ (∀ j (hj : j < s.ls[m].length), j < i → (!isB s.ls[m][j] s.h s.z) = false) ∧ mz_ = s.ls[m].length - i ∧ qz_ = ⟨[(1, .rop [i64 s.h, i64 s.z, .ros (s.ls.map boxesL) s.ls.length c] 0), (4, i64 ((m : Nat) : Int)), (5, i64 ((i : Nat) : Int))], [], 0, []⟩) ⟨0, (by omega), (fun j hj h => absurd h (Nat.not_lt_zero _)), rfl, rfl⟩ id ⟨eD rfl rfl, eD rfl rfl, eD rfl rfl, trivial⟩ trivial rfl rfl rfl rfl (fun _ _ => rfl) ?_
          rintro _ _ ⟨i, hi2_0, hi2_1, rfl, rfl⟩
          refine W_seq rfl ?_
          refine W_seq rfl ?_
          refine W_reg rfl ?_
          refine Rv rfl rfl rfl (U_move rfl) rfl rfl ?_
          refine Rv rfl rfl rfl (U_fieldAddrR rfl) rfl rfl ?_
          refine Rv rfl rfl rfl (U_load1 rfl rfl rfl) rfl rfl ?_
          refine Rv rfl rfl rfl (U_move rfl) rfl rfl ?_
          have hx5 : m < s.ls.length := by omega
          refine Rv rfl rfl rfl (U_indexR (j := m) rfl rfl rfl hx5) rfl rfl ?_
          refine Rv rfl rfl rfl (U_load1 rfl rfl (getM hx5)) rfl rfl ?_
          refine Rv rfl rfl rfl (U_lenOf rfl len_ros) rfl rfl ?_
          refine Rv rfl rfl rfl (U_lss rfl rfl) rfl rfl ?_
          refine Re rfl ?_
          refine thenQ_n ?_
          refine WcondP rfl rfl (fun hc5 => ?_) (fun hc5 => ?_)
          · have hci : i < s.ls[m].length := by omega
            refine W_skip rfl ?_
            refine thenQ_n ?_
            refine W_seq rfl ?_
            refine W_block rfl ?_
            refine W_seq rfl ?_
            refine Wdraw rfl (by kernel_rfl) (by kernel_rfl) ?_
            refine Dv rfl rfl rfl (U_fieldAddrR rfl) rfl rfl ?_
            refine Dv rfl rfl rfl (U_load1 rfl rfl rfl) rfl rfl ?_
            refine Dv rfl rfl rfl (U_move rfl) rfl rfl ?_
            refine Dv rfl rfl rfl (U_indexR (j := m) rfl rfl rfl hx5) rfl rfl ?_
            refine Dv rfl rfl rfl (U_load1 rfl rfl (getM hx5)) rfl rfl ?_
            refine Dv rfl rfl rfl (U_move rfl) rfl rfl ?_
            have hx6 : i < s.ls[m].length := by omega
            refine Dv rfl rfl rfl (U_indexR (j := i) rfl rfl rfl hx6) rfl rfl ?_
            refine Dv rfl rfl rfl (U_load4 rfl rfl (bxG0 hx6) (bxG1 hx6) (bxG2 hx6) (bxG3 hx6)) rfl rfl ?_
            refine Dv rfl rfl rfl (U_fieldAddrR rfl) rfl rfl ?_
            refine Dv rfl rfl rfl (U_load1 rfl rfl rfl) rfl rfl ?_
            refine Dv rfl rfl rfl (U_fieldAddrR rfl) rfl rfl ?_
            refine Dv rfl rfl rfl (U_load1 rfl rfl rfl) rfl rfl ?_
            refine Dv rfl rfl rfl (U_call rfl rfl (isBR_p (s.ls[m][i]) s.h s.z (by assumption) (by assumption)) rfl) rfl rfl ?_
            refine Dv rfl rfl rfl (U_not rfl) rfl rfl ?_
            refine Dr.nil rfl ?_
            refine thenQ_n ?_
            refine Wcond rfl rfl (fun hc6 => ?_) (fun hc6 => ?_)
            · have hst : (s.ls.any fun l => l.any fun b => !isB b s.h s.z) = true := any_true hcm (any_true hci (by simpa using hc6))
              have hce : chkS s = 2 := by rw [chkS, if_neg (by rw [inL1, inL1]; simp; omega), if_neg (by rw [h600]; simp; omega), if_pos hst]
              refine W_seq rfl ?_
              refine W_reg rfl ?_
              refine Rv rfl rfl rfl (U_assign rfl) rfl rfl ?_
              refine Re rfl ?_
              refine thenQ_n ?_
              refine W_ret rfl ?_
              refine blkQ_r ?_
              refine thenQ_r ?_
              refine thenQ_r ?_
              refine blkQ_r ?_
              refine blkQ_r ?_
              refine thenQ_r ?_
              refine thenQ_r ?_
              refine blkQ_r ?_
              refine thenQ_r ?_
              exact retL (rlT rfl rl0) (by first | rfl | (simp only [packA]; rw [hce]; first | done | rfl)) rfl
            · have hc6' := Bool.eq_false_iff.1 hc6
              refine W_skip rfl ?_
              refine blkQ_n ?_
              refine thenQ_n ?_
              refine W_reg rfl ?_
              refine Rv rfl rfl rfl (U_move rfl) rfl rfl ?_
              refine Rv rfl rfl rfl (U_add rfl rfl (w64e (m := ((i + 1 : Nat) : Int)) (by omega) (by omega) (by omega))) rfl rfl ?_
              refine Rv rfl rfl rfl (U_assign rfl) rfl rfl ?_
              refine Re rfl ?_
              refine thenQ_n ?_
              exact againTo (T' := [(1, .rop [i64 s.h, i64 s.z, .ros (s.ls.map boxesL) s.ls.length c] 0), (4, i64 ((m : Nat) : Int)), (5, i64 (((i + 1) : Nat) : Int))]) (H' := []) (n := 0) (s.ls[m].length - (i + 1)) ⟨i + 1, (by omega), (bef_succ (p := fun b : Bx => !isB b s.h s.z) hi2_1 hci (by simpa using hc6)), rfl, rfl⟩ (by omega) id ⟨eD rfl rfl, eD rfl rfl, eD rfl rfl, trivial⟩ trivial rfl rfl rfl rfl (fun _ _ => rfl)
          · have hla : (s.ls[m].any fun b => !isB b s.h s.z) = false := any_f fun j hj => hi2_1 j hj (by omega)
            refine W_exit rfl ?_
            refine thenQ_x ?_
            refine thenQ_x ?_
            refine blkQ_x rfl ?_
            refine blkQ_n ?_
            refine thenQ_n ?_
            refine W_reg rfl ?_
            refine Rv rfl rfl rfl (U_move rfl) rfl rfl ?_
            refine Rv rfl rfl rfl (U_add rfl rfl (w64e (m := ((m + 1 : Nat) : Int)) (by omega) (by omega) (by omega))) rfl rfl ?_
            refine Rv rfl rfl rfl (U_assign rfl) rfl rfl ?_
            refine Re rfl ?_
            refine thenQ_n ?_
            exact againTo (T' := [(1, .rop [i64 s.h, i64 s.z, .ros (s.ls.map boxesL) s.ls.length c] 0), (4, i64 (((m + 1) : Nat) : Int))]) (H' := []) (n := 0) (s.ls.length - (m + 1)) ⟨m + 1, (by omega), (bef_succ (p := fun l : List Bx => l.any fun b => !isB b s.h s.z) hi1_1 hcm hla), rfl, rfl⟩ (by omega) id ⟨eD rfl rfl, eD rfl rfl, trivial⟩ trivial rfl rfl rfl rfl (fun _ _ => rfl)
        · have hst : (s.ls.any fun l => l.any fun b => !isB b s.h s.z) = false := any_f fun j hj => hi1_1 j hj (by omega)
          have hce : chkS s = 0 := by rw [chkS, if_neg (by rw [inL1, inL1]; simp; omega), if_neg (by rw [h600]; simp; omega), if_neg (by rw [hst]; simp)]
          refine W_exit rfl ?_
          refine thenQ_x ?_
          refine thenQ_x ?_
          refine blkQ_x rfl ?_
          refine thenQ_n ?_
          refine W_seq rfl ?_
          refine W_reg rfl ?_
          refine Rv rfl rfl rfl (U_assign rfl) rfl rfl ?_
          refine Re rfl ?_
          refine thenQ_n ?_
          refine W_ret rfl ?_
          exact retL (rlT rfl rl0) (by first | rfl | (simp only [packA]; rw [hce]; first | done | rfl)) rfl
end Go.Proofs.Ythlolelbmhfdbaa
end

section
namespace Go.Proofs.Ythlolelbmhfdbaa
set_option maxRecDepth 20000
open Go.AE
theorem chkSRG_p (H Z : Nat) (ls : List (List Bx)) (c : Option Nat) (hc : chkS ⟨H, Z, ls⟩ = 0) (hv : VS ⟨H, Z, ls⟩ H Z) : Pure Try.prog 23 [.agg [i64 (H : Nat), i64 (Z : Nat), landsA ls c]] (i64 0) := by
  have := chkSR_p ⟨H, Z, ls⟩ c hv.hl hv.hbl
  rwa [hc] at this
end Go.Proofs.Ythlolelbmhfdbaa
end

section
namespace Go.Proofs.Ythlolelbmhfdbaa
set_option maxRecDepth 20000
open Go.AE
section
variable {H z k h w : Nat} {p : Nat → Bool} {P : Nat → Nat → Bool}
theorem widF_spec : ∀ (f w0 : Nat), w0 ≤ widF H p h f w0 ∧ widF H p h f w0 ≤ w0 + f ∧ (∀ j, w0 ≤ j → j < widF H p h f w0 → p ((h + j) % H) = true) ∧ (widF H p h f w0 = w0 + f ∨ p ((h + widF H p h f w0) % H) = false)
  | 0, w0 => ⟨Nat.le_refl _, Nat.le_refl _, fun j h1 h2 => by unfold widF at h2; omega, .inl rfl⟩
  | f + 1, w0 => by
    unfold widF
    split
    · rename_i hp
      obtain ⟨h1, h2, h3, h4⟩ := widF_spec f (w0 + 1)
      refine ⟨by omega, by omega, fun j hj hj2 => ?_, h4.imp (fun h => by omega) id⟩
      by_cases e : j = w0
      · subst e; exact hp
      · exact h3 j (by omega) hj2
    · rename_i hp
      exact ⟨Nat.le_refl _, by omega, fun j h1 h2 => by omega, .inr (by simpa using hp)⟩
theorem widQ_spec (hH : 1 ≤ H) (hp : p h = true) (hh : h < H) : 1 ≤ widQ H p h ∧ widQ H p h ≤ H ∧ (∀ j, j < widQ H p h → p ((h + j) % H) = true) ∧ (widQ H p h = H ∨ p ((h + widQ H p h) % H) = false) := by
  obtain ⟨h1, h2, h3, h4⟩ := widF_spec (H := H) (p := p) (h := h) (H - 1) 1
  refine ⟨h1, by unfold widQ; omega, fun j hj => ?_, h4.imp (fun h => by unfold widQ; omega) id⟩
  by_cases e : j = 0
  · subst e; rw [Nat.add_zero, Nat.mod_eq_of_lt hh]; exact hp
  · exact h3 j (by omega) hj
end
end Go.Proofs.Ythlolelbmhfdbaa
end

section
namespace Go.Proofs.Ythlolelbmhfdbaa
set_option maxRecDepth 20000
open Go.AE
def mostQ (ls : List (List Bx)) : Int := ls.foldl (fun m l => max m (l.length : Int)) 0
theorem mostQ_take {ls : List (List Bx)} {i : Nat} (hi : i < ls.length) : mostQ (ls.take (i + 1)) = max (mostQ (ls.take i)) (ls[i].length : Int) := by
  unfold mostQ; rw [List.take_succ_eq_append_getElem hi, List.foldl_append]; rfl
theorem mostF_ge {ls : List (List Bx)} : ∀ {m : Int}, m ≤ ls.foldl (fun m l => max m (l.length : Int)) m := by
  induction ls with
  | nil => intro m; exact Int.le_refl m
  | cons a l ih => intro m; exact Int.le_trans (Int.le_max_left m _) ih
theorem mostF_mem {ls : List (List Bx)} : ∀ {m : Int} {l : List Bx}, l ∈ ls → (l.length : Int) ≤ ls.foldl (fun m l => max m (l.length : Int)) m := by
  induction ls with
  | nil => intro m l h; cases h
  | cons a r ih =>
    intro m l h
    cases h with
    | head => exact Int.le_trans (Int.le_max_right m _) mostF_ge
    | tail _ h => exact ih h
theorem mostQ_mem {ls : List (List Bx)} {l : List Bx} (h : l ∈ ls) : (l.length : Int) ≤ mostQ ls := mostF_mem h
def grt (s : Sk) : Bool := decide (14 < s.ls.length) || (decide (610 < mostQ s.ls) || (decide (chkS s = 0) && (decide (120 < s.h * s.z) || decide (30 < mostQ s.ls))))
theorem chkS_hz {s : Sk} (h : chkS s = 0) : 1 ≤ s.h ∧ s.h ≤ 48 ∧ 1 ≤ s.z ∧ s.z ≤ 24 ∧ 1 ≤ s.h * s.z ∧ s.h * s.z ≤ 1152 := by
  obtain ⟨H, Z, e1, e2, hH, hZ, _⟩ := vs_of h
  have := Int.mul_le_mul (show s.h ≤ 48 by omega) (show s.z ≤ 24 by omega) (by omega) (by omega)
  have := Int.mul_pos (show 0 < s.h by omega) (show 0 < s.z by omega)
  omega
theorem grt_ls {s : Sk} (h : grt s = false) : s.ls.length ≤ 1000000 := by
  simp [grt] at h; omega
theorem grt_bl {s : Sk} (h : grt s = false) : ∀ l ∈ s.ls, l.length ≤ 1000000 := by
  intro l hl; have := mostQ_mem hl; simp [grt] at h; omega
theorem bl_most {ls : List (List Bx)} (h : mostQ ls ≤ 610) : ∀ l ∈ ls, l.length ≤ 1000000 := by
  intro l hl; have := mostQ_mem hl; omega
theorem great_p (s : Sk) (c : Option Nat) : Pure Try.prog 16 [.agg [i64 s.h, i64 s.z, landsA s.ls c]] (.bool (grt s)) := by
  refine pure_of_body Try.func16 (c := body Try.f16) rfl (by simp [Try.ntmps16]) fun w0 Φ0 => ?_
  refine W_seq rfl ?_
  refine W_reg rfl ?_
  refine Rv rfl rfl rfl (U_boxF rfl rfl rfl) rfl rfl ?_
  refine Rv rfl rfl rfl (U_assign rfl) rfl rfl ?_
  refine Re rfl ?_
  refine thenQ_n ?_
  refine W_seq rfl ?_
  refine W_seq rfl ?_
  refine W_reg rfl ?_
  refine Rv rfl rfl rfl (U_fieldAddrR rfl) rfl rfl ?_
  refine Rv rfl rfl rfl (U_load1 rfl rfl rfl) rfl rfl ?_
  refine Rv rfl rfl rfl (U_lenOf rfl len_ros) rfl rfl ?_
  refine Rv rfl rfl rfl (U_gtr rfl rfl) rfl rfl ?_
  refine Re rfl ?_
  refine thenQ_n ?_
  refine WcondP rfl rfl (fun hc0 => ?_) (fun hc0 => ?_)
  · refine W_seq rfl ?_
    refine W_reg rfl ?_
    refine Rv rfl rfl rfl (U_assign rfl) rfl rfl ?_
    refine Re rfl ?_
    refine thenQ_n ?_
    refine W_ret rfl ?_
    refine thenQ_r ?_
    exact retL (rlT rfl rl0) (by first | rfl | (exact congrArg AV.bool (by unfold grt; first | (rw [show decide (14 < s.ls.length) = true from decide_eq_true (by omega)]; rfl) | (rw [show decide (14 < s.ls.length) = false from decide_eq_false (by omega), hmq, Bool.false_or])); done)) rfl
  · refine W_skip rfl ?_
    refine thenQ_n ?_
    refine W_seq rfl ?_
    refine W_reg rfl ?_
    refine Rv rfl rfl rfl (U_assign rfl) rfl rfl ?_
    refine Re rfl ?_
    refine thenQ_n ?_
    refine W_seq rfl ?_
    refine W_seq rfl ?_
    refine W_reg rfl ?_
    refine Rv rfl rfl rfl (U_assign rfl) rfl rfl ?_
    refine Re rfl ?_
    refine thenQ_n ?_
    refine W_block rfl ?_
    refine LoopTo (T' := [(1, .rop [i64 s.h, i64 s.z, .ros (s.ls.map boxesL) s.ls.length c] 0), (3, i64 0), (4, i64 ((0 : Nat) : Int))]) (H' := []) (n := 0) rfl (fun mz_ qz_ => ∃ (i : Nat) (m : Int), i ≤ s.ls.length ∧ m = mostQ (s.ls.take i) ∧ mz_ = s.ls.length - i ∧ qz_ = ⟨[(1, .rop [i64 s.h, i64 s.z, .ros (s.ls.map boxesL) s.ls.length c] 0), (3, i64 m), (4, i64 ((i : Nat) : Int))], [], 0, []⟩) ⟨0, 0, (by omega), rfl, rfl, rfl⟩ id ⟨eD rfl rfl, eD rfl rfl, eD rfl rfl, trivial⟩ trivial rfl rfl rfl rfl (fun _ _ => rfl) ?_
    rintro _ _ ⟨i, m, hi0_0, hi0_1, rfl, rfl⟩
    refine W_seq rfl ?_
    refine W_seq rfl ?_
    refine W_reg rfl ?_
    refine Rv rfl rfl rfl (U_move rfl) rfl rfl ?_
    refine Rv rfl rfl rfl (U_fieldAddrR rfl) rfl rfl ?_
    refine Rv rfl rfl rfl (U_load1 rfl rfl rfl) rfl rfl ?_
    refine Rv rfl rfl rfl (U_lenOf rfl len_ros) rfl rfl ?_
    refine Rv rfl rfl rfl (U_lss rfl rfl) rfl rfl ?_
    refine Re rfl ?_
    refine thenQ_n ?_
    refine WcondP rfl rfl (fun hc1 => ?_) (fun hc1 => ?_)
    · refine W_skip rfl ?_
      refine thenQ_n ?_
      refine W_seq rfl ?_
      refine W_block rfl ?_
      refine W_reg rfl ?_
      refine Rv rfl rfl rfl (U_move rfl) rfl rfl ?_
      refine Rv rfl rfl rfl (U_fieldAddrR rfl) rfl rfl ?_
      refine Rv rfl rfl rfl (U_load1 rfl rfl rfl) rfl rfl ?_
      refine Rv rfl rfl rfl (U_move rfl) rfl rfl ?_
      have hx1 : i < s.ls.length := by omega
      refine Rv rfl rfl rfl (U_indexR (j := i) rfl rfl rfl hx1) rfl rfl ?_
      refine Rv rfl rfl rfl (U_load1 rfl rfl (getM hx1)) rfl rfl ?_
      refine Rv rfl rfl rfl (U_lenOf rfl len_ros) rfl rfl ?_
      refine Rv rfl rfl rfl (U_max rfl rfl rfl) rfl rfl ?_
      refine Rv rfl rfl rfl (U_assign rfl) rfl rfl ?_
      refine Re rfl ?_
      refine blkQ_n ?_
      refine thenQ_n ?_
      refine W_reg rfl ?_
      refine Rv rfl rfl rfl (U_move rfl) rfl rfl ?_
      refine Rv rfl rfl rfl (U_add rfl rfl (w64e (m := ((i + 1 : Nat) : Int)) (by omega) (by omega) (by omega))) rfl rfl ?_
      refine Rv rfl rfl rfl (U_assign rfl) rfl rfl ?_
      refine Re rfl ?_
      refine thenQ_n ?_
      exact againTo (T' := [(1, .rop [i64 s.h, i64 s.z, .ros (s.ls.map boxesL) s.ls.length c] 0), (3, i64 (max m ((s.ls[i].length : Nat) : Int))), (4, i64 (((i + 1) : Nat) : Int))]) (H' := []) (n := 0) (s.ls.length - (i + 1)) ⟨i + 1, max m ((s.ls[i].length : Nat) : Int), (by omega), (by rw [mostQ_take (by omega), ← hi0_1]), rfl, rfl⟩ (by omega) id ⟨eD rfl rfl, eD rfl rfl, eD rfl rfl, trivial⟩ trivial rfl rfl rfl rfl (fun _ _ => rfl)
    · have hmq : m = mostQ s.ls := by rw [hi0_1, show i = s.ls.length by omega, List.take_length]
      refine W_exit rfl ?_
      refine thenQ_x ?_
      refine thenQ_x ?_
      refine blkQ_x rfl ?_
      refine thenQ_n ?_
      refine W_seq rfl ?_
      refine Wjoin ⟨[(2, .bool ((decide (610 < m)) || ((decide ((chkS s) = 0)) && ((decide (120 < (s.h * s.z))) || (decide (30 < m))))))], [], 0, []⟩ ?_ ?_
      · refine W_reg rfl ?_
        refine Rv rfl rfl rfl (U_move rfl) rfl rfl ?_
        refine Rv rfl rfl rfl (U_gtr rfl rfl) rfl rfl ?_
        refine Rv rfl rfl rfl (U_move rfl) rfl rfl ?_
        refine Rsplit (t := 26) rfl (fun hg2 => ?_) (fun hg2 => ?_)
        · rw [hg2]
          have hg2' : 610 < m := of_decide_eq_true hg2
          refine Rs rfl rfl rfl rfl rfl ?_
          refine Rs rfl rfl rfl rfl rfl ?_
          refine Rs rfl rfl rfl rfl rfl ?_
          refine Rs rfl rfl rfl rfl rfl ?_
          refine Rs rfl rfl rfl rfl rfl ?_
          refine Rs rfl rfl rfl rfl rfl ?_
          refine Rs rfl rfl rfl rfl rfl ?_
          refine Rs rfl rfl rfl rfl rfl ?_
          refine Rs rfl rfl rfl rfl rfl ?_
          refine Rs rfl rfl rfl rfl rfl ?_
          refine Rs rfl rfl rfl rfl rfl ?_
          refine Rs rfl rfl rfl rfl rfl ?_
          refine Rs rfl rfl rfl rfl rfl ?_
          refine Rs rfl rfl rfl rfl rfl ?_
          refine Rs rfl rfl rfl rfl rfl ?_
          refine Rv rfl rfl rfl (U_pick_t rfl rfl) rfl rfl ?_
          refine Rv rfl rfl rfl (U_assign rfl) rfl rfl ?_
          refine Re rfl ?_
          exact joinTo id ⟨eD rfl rfl, trivial⟩ trivial rfl rfl rfl rfl (fun _ _ => rfl)
        · rw [hg2]
          have hg2' : ¬ (610 < m) := of_decide_eq_false hg2
          have hbl := bl_most (ls := s.ls) (by omega)
          have hl : s.ls.length ≤ 1000000 := by omega
          refine Rv rfl rfl rfl (U_load3 rfl rfl rfl rfl rfl) rfl rfl ?_
          refine Rv rfl rfl rfl (U_call rfl rfl (chkSR_p s c hl hbl) rfl) rfl rfl ?_
          refine Rv rfl rfl rfl (U_eql rfl rfl) rfl rfl ?_
          refine Rv rfl rfl rfl (U_move rfl) rfl rfl ?_
          refine Rsplit (t := 30) rfl (fun hg3 => ?_) (fun hg3 => ?_)
          · rw [hg3]
            have hg3' : (chkS s) = 0 := of_decide_eq_true hg3
            have hhz := chkS_hz hg3'
            refine Rv rfl rfl rfl (U_fieldAddrR rfl) rfl rfl ?_
            refine Rv rfl rfl rfl (U_load1 rfl rfl rfl) rfl rfl ?_
            refine Rv rfl rfl rfl (U_fieldAddrR rfl) rfl rfl ?_
            refine Rv rfl rfl rfl (U_load1 rfl rfl rfl) rfl rfl ?_
            refine Rv rfl rfl rfl (U_mul rfl rfl (w64 (by omega) (by omega))) rfl rfl ?_
            refine Rv rfl rfl rfl (U_gtr rfl rfl) rfl rfl ?_
            refine Rv rfl rfl rfl (U_move rfl) rfl rfl ?_
            refine Rsplit (t := 37) rfl (fun hg4 => ?_) (fun hg4 => ?_)
            · rw [hg4]
              have hg4' : 120 < (s.h * s.z) := of_decide_eq_true hg4
              refine Rs rfl rfl rfl rfl rfl ?_
              refine Rs rfl rfl rfl rfl rfl ?_
              refine Rv rfl rfl rfl (U_pick_t rfl rfl) rfl rfl ?_
              refine Rv rfl rfl rfl (U_pick_t rfl rfl) rfl rfl ?_
              refine Rv rfl rfl rfl (U_pick_f rfl rfl) rfl rfl ?_
              refine Rv rfl rfl rfl (U_assign rfl) rfl rfl ?_
              refine Re rfl ?_
              exact joinTo id ⟨eD rfl rfl, trivial⟩ trivial rfl rfl rfl rfl (fun _ _ => rfl)
            · rw [hg4]
              have hg4' : ¬ (120 < (s.h * s.z)) := of_decide_eq_false hg4
              refine Rv rfl rfl rfl (U_move rfl) rfl rfl ?_
              refine Rv rfl rfl rfl (U_gtr rfl rfl) rfl rfl ?_
              refine Rv rfl rfl rfl (U_pick_f rfl rfl) rfl rfl ?_
              refine Rv rfl rfl rfl (U_pick_t rfl rfl) rfl rfl ?_
              refine Rv rfl rfl rfl (U_pick_f rfl rfl) rfl rfl ?_
              refine Rv rfl rfl rfl (U_assign rfl) rfl rfl ?_
              refine Re rfl ?_
              exact joinTo id ⟨eD rfl rfl, trivial⟩ trivial rfl rfl rfl rfl (fun _ _ => rfl)
          · rw [hg3]
            have hg3' : ¬ ((chkS s) = 0) := of_decide_eq_false hg3
            refine Rs rfl rfl rfl rfl rfl ?_
            refine Rs rfl rfl rfl rfl rfl ?_
            refine Rs rfl rfl rfl rfl rfl ?_
            refine Rs rfl rfl rfl rfl rfl ?_
            refine Rs rfl rfl rfl rfl rfl ?_
            refine Rs rfl rfl rfl rfl rfl ?_
            refine Rs rfl rfl rfl rfl rfl ?_
            refine Rs rfl rfl rfl rfl rfl ?_
            refine Rs rfl rfl rfl rfl rfl ?_
            refine Rs rfl rfl rfl rfl rfl ?_
            refine Rv rfl rfl rfl (U_pick_f rfl rfl) rfl rfl ?_
            refine Rv rfl rfl rfl (U_pick_f rfl rfl) rfl rfl ?_
            refine Rv rfl rfl rfl (U_assign rfl) rfl rfl ?_
            refine Re rfl ?_
            exact joinTo id ⟨eD rfl rfl, trivial⟩ trivial rfl rfl rfl rfl (fun _ _ => rfl)
      refine thenQ_n ?_
      refine W_ret rfl ?_
      exact retL (rlT rfl rl0) (by first | rfl | (exact congrArg AV.bool (by unfold grt; first | (rw [show decide (14 < s.ls.length) = true from decide_eq_true (by omega)]; rfl) | (rw [show decide (14 < s.ls.length) = false from decide_eq_false (by omega), hmq, Bool.false_or])); done)) rfl
theorem samBS_p (a : List Bx) (c d : Option Nat) (ha : a.length ≤ 1000000) : Pure Try.prog 45 [boxesA a c, boxesA a d] (.bool true) := by
  have := samB_p a a c d ha ha; rwa [decide_eq_true rfl] at this
theorem intsS_p (a : List Int) (c d : Option Nat) (ha : a.length ≤ 1000000) : Pure Try.prog 24 [intsA a c, intsA a d] (.bool true) := by
  have := ints_p a a c d ha ha; rwa [decide_eq_true rfl] at this
theorem fine_p (s : Sk) (c : Option Nat) : Pure Try.prog 47 [.agg [i64 s.h, i64 s.z, landsA s.ls c]] (.bool (!grt s && decide (chkS s = 0))) := by
  refine pure_of_body Try.func47 (c := body Try.f47) rfl (by simp [Try.ntmps47]) fun w0 Φ0 => ?_
  refine W_seq rfl ?_
  refine W_reg rfl ?_
  refine Rv rfl rfl rfl (U_boxF rfl rfl rfl) rfl rfl ?_
  refine Rv rfl rfl rfl (U_assign rfl) rfl rfl ?_
  refine Re rfl ?_
  refine thenQ_n ?_
  refine W_seq rfl ?_
  refine Wjoin ⟨[(2, .bool ((!(grt s)) && (decide ((chkS s) = 0))))], [], 0, []⟩ ?_ ?_
  · refine W_reg rfl ?_
    refine Rv rfl rfl rfl (U_load3 rfl rfl rfl rfl rfl) rfl rfl ?_
    refine Rv rfl rfl rfl (U_call rfl rfl (great_p s c) rfl) rfl rfl ?_
    refine Rv rfl rfl rfl (U_not rfl) rfl rfl ?_
    refine Rv rfl rfl rfl (U_move rfl) rfl rfl ?_
    refine Rsplit (t := 6) rfl (fun hg1 => ?_) (fun hg1 => ?_)
    · rw [hg1]
      have hgr : grt s = false := by simpa using hg1
      have hl := grt_ls hgr
      have hbl := grt_bl hgr
      refine Rv rfl rfl rfl (U_load3 rfl rfl rfl rfl rfl) rfl rfl ?_
      refine Rv rfl rfl rfl (U_call rfl rfl (chkSR_p s c hl hbl) rfl) rfl rfl ?_
      refine Rv rfl rfl rfl (U_eql rfl rfl) rfl rfl ?_
      refine Rv rfl rfl rfl (U_pick_t rfl rfl) rfl rfl ?_
      refine Rv rfl rfl rfl (U_assign rfl) rfl rfl ?_
      refine Re rfl ?_
      exact joinTo id ⟨eD rfl rfl, trivial⟩ trivial rfl rfl rfl rfl (fun _ _ => rfl)
    · rw [hg1]
      refine Rs rfl rfl rfl rfl rfl ?_
      refine Rs rfl rfl rfl rfl rfl ?_
      refine Rs rfl rfl rfl rfl rfl ?_
      refine Rv rfl rfl rfl (U_pick_f rfl rfl) rfl rfl ?_
      refine Rv rfl rfl rfl (U_assign rfl) rfl rfl ?_
      refine Re rfl ?_
      exact joinTo id ⟨eD rfl rfl, trivial⟩ trivial rfl rfl rfl rfl (fun _ _ => rfl)
  refine thenQ_n ?_
  refine W_ret rfl ?_
  exact retL (rlT rfl rl0) rfl rfl
end Go.Proofs.Ythlolelbmhfdbaa
end

section
namespace Go.Proofs.Ythlolelbmhfdbaa
set_option maxRecDepth 20000
open Go.AE
theorem sk_ok {s : Sk} (h : chkS s = 0) : ∃ (H Z : Nat) (ls : List (List Bx)), s = ⟨H, Z, ls⟩ ∧ VS ⟨H, Z, ls⟩ H Z := by
  obtain ⟨H, Z, hv⟩ := vs_of h
  obtain ⟨h', z', ls⟩ := s
  have e1 := hv.h; have e2 := hv.z
  simp only at e1 e2
  subst e1; subst e2
  exact ⟨H, Z, ls, rfl, hv⟩
theorem fineF_p (s : Sk) (c : Option Nat) (h : (!grt s && decide (chkS s = 0)) = false) : Pure Try.prog 47 [.agg [i64 s.h, i64 s.z, landsA s.ls c]] (.bool false) := by
  have := fine_p s c; rwa [h] at this
theorem fineT_p (H Z : Nat) (ls : List (List Bx)) (c : Option Nat) (hg : grt ⟨H, Z, ls⟩ = false) (hc : chkS ⟨H, Z, ls⟩ = 0) : Pure Try.prog 47 [.agg [i64 (H : Nat), i64 (Z : Nat), landsA ls c]] (.bool true) := by
  have := fine_p ⟨H, Z, ls⟩ c; rwa [hg, hc] at this
theorem neiK_sz {Z H : Nat} {ls : List (List Bx)} {a : Nat} (hn : ls.length ≤ 10) : (neiK Z H ls a ls.length).length ≤ 1000000 := Nat.le_trans neiK_len (by omega)
end Go.Proofs.Ythlolelbmhfdbaa
end

section
namespace Go.Proofs.Ythlolelbmhfdbaa
set_option maxRecDepth 20000
open Go.AE
theorem vs_bl {H Z : Nat} {ls : List (List Bx)} (hv : VS ⟨H, Z, ls⟩ H Z) : ∀ l ∈ ls, l.length ≤ 1000000 := fun l hl => Nat.le_trans (hv.lb l hl) (by decide)
end Go.Proofs.Ythlolelbmhfdbaa
end

section
namespace Go.Proofs.Ythlolelbmhfdbaa
set_option maxRecDepth 20000
open Go.AE
theorem vs_chk {H Z : Nat} {ls : List (List Bx)} (h : VS ⟨H, Z, ls⟩ H Z) : chkS ⟨H, Z, ls⟩ = 0 := by
  have h1 := h.h1; have h2 := h.z1; have h3 := h.ln; have h4 := h.lb; have h5 := h.bx
  simp only at h3 h4 h5
  unfold chkS
  rw [if_neg, if_neg, if_neg]
  · simp only [List.any_eq_true, not_exists, not_and]
    intro l hl b hb
    have := isB_iff.2 (h5 l hl b hb)
    simp [this]
  · simp only [Bool.or_eq_true, decide_eq_true_eq, List.any_eq_true, not_or, not_exists, not_and]
    exact ⟨by omega, fun l hl => by have := h4 l hl; omega⟩
  · rw [inL1, inL1]; simp; omega
end Go.Proofs.Ythlolelbmhfdbaa
end

section
namespace Go.Proofs.Ythlolelbmhfdbaa
set_option maxRecDepth 20000
open Go.AE
theorem mod2 {x H : Nat} (h : x < 2 * H) : x % H = if x < H then x else x - H := by
  split
  · exact Nat.mod_eq_of_lt ‹_›
  · rw [Nat.mod_eq_sub_mod (by omega), Nat.mod_eq_of_lt (by omega)]
theorem inN_nat {H z h f w y : Nat} (hh : h < H) (hf : f < H) : inN ⟨f, w, y, ((y + 1 : Nat) : Int)⟩ H z h = (decide (z = y) && decide ((h + H - f) % H < w)) := by
  unfold inN
  have e : ((h : Int) - (f : Int) + (H : Int)) % (H : Int) = (((h + H - f) % H : Nat) : Int) := by
    rw [show (h : Int) - (f : Int) + (H : Int) = ((h + H - f : Nat) : Int) by omega]; rfl
  simp only [e]
  rw [Bool.eq_iff_iff]
  simp only [Bool.and_eq_true, decide_eq_true_eq]
  omega
section
variable {H z h f : Nat} {p : Nat → Bool} {P : Nat → Nat → Bool}
theorem least (q : Nat → Bool) : ∀ n, (∀ j, j < n → q j = true) ∨ ∃ d, d < n ∧ q d = false ∧ ∀ j, j < d → q j = true
  | 0 => .inl fun j h => by omega
  | n + 1 => by
    rcases least q n with h | ⟨d, h1, h2, h3⟩
    · cases e : q n with
      | false => exact .inr ⟨n, by omega, e, h⟩
      | true =>
        refine .inl fun j hj => ?_
        by_cases e2 : j = n
        · subst e2; exact e
        · exact h j (by omega)
    · exact .inr ⟨d, by omega, h2, h3⟩
theorem run_start (hh : h < H) (hp : p h = true) (hn : ∃ k, k < H ∧ p k = false) : ∃ f, f < H ∧ p f = true ∧ p ((f + H - 1) % H) = false ∧ (h + H - f) % H < widQ H p f := by
  obtain ⟨k, hk, hkp⟩ := hn
  rcases least (fun d => p ((h + H - d) % H)) (H + 1) with hall | ⟨d, hd, hd1, hd2⟩
  · exfalso
    have := hall ((h + H - k) % H) (by have := Nat.mod_lt (h + H - k) (show H > 0 by omega); omega)
    have e : (h + H - (h + H - k) % H) % H = k := by
      rw [mod2 (x := h + H - k) (by omega)]
      split
      · rw [show h + H - (h + H - k) = k by omega, Nat.mod_eq_of_lt hk]
      · rw [show h + H - (h + H - k - H) = k + H by omega, Nat.add_mod_right, Nat.mod_eq_of_lt hk]
    rw [e, hkp] at this; cases this
  · have hd0 : d ≠ 0 := fun e => by
      subst e
      rw [Nat.sub_zero, Nat.add_mod_right, Nat.mod_eq_of_lt hh, hp] at hd1; cases hd1
    have hdH : d ≠ H := fun e => by
      subst e
      rw [Nat.add_sub_cancel, Nat.mod_eq_of_lt hh, hp] at hd1; cases hd1
    -- the beginning: d - 1 hours ahead
    refine ⟨(h + H - (d - 1)) % H, Nat.mod_lt _ (by omega), hd2 (d - 1) (by omega), ?_, ?_⟩
    · rw [← hd1]
      congr 1
      rw [mod2 (x := h + H - (d - 1)) (by omega), mod2 (x := h + H - d) (by omega)]
      split
      · rw [mod2 (by omega)]; split <;> split <;> omega
      · rw [mod2 (by omega)]; split <;> split <;> omega
    · have hf : (h + H - (d - 1)) % H < H := Nat.mod_lt _ (by omega)
      have e : (h + H - (h + H - (d - 1)) % H) % H = d - 1 := by
        rw [mod2 (x := h + H - (d - 1)) (by omega)]
        split
        · rw [show h + H - (h + H - (d - 1)) = d - 1 by omega, Nat.mod_eq_of_lt (by omega)]
        · rw [show h + H - (h + H - (d - 1) - H) = d - 1 + H by omega, Nat.add_mod_right, Nat.mod_eq_of_lt (by omega)]
      rw [e]
      obtain ⟨w1, w2, w3, w4⟩ := widQ_spec (H := H) (p := p) (by omega) (hd2 (d - 1) (by omega)) hf
      refine Nat.lt_of_not_le fun hle => ?_
      rcases w4 with w4 | w4
      · omega
      · have : p ((h + H - (d - 1 - widQ H p ((h + H - (d - 1)) % H))) % H) = true := hd2 _ (by omega)
        have e2 : ((h + H - (d - 1)) % H + widQ H p ((h + H - (d - 1)) % H)) % H = (h + H - (d - 1 - widQ H p ((h + H - (d - 1)) % H))) % H := by
          rw [Nat.mod_add_mod]; congr 1; omega
        rw [e2, this] at w4; cases w4
theorem run_hit (hh : h < H) (hf : f < H) (hp : p f = true) (hd : (h + H - f) % H < widQ H p f) : p h = true := by
  obtain ⟨_, _, w3, _⟩ := widQ_spec (H := H) (p := p) (by omega) hp hf
  have := w3 _ hd
  have e : (f + (h + H - f) % H) % H = h := by
    rw [Nat.add_mod_mod, show f + (h + H - f) = h + H by omega, Nat.add_mod_right, Nat.mod_eq_of_lt hh]
  rwa [e] at this
theorem rnsZ_in {y : Nat} (hh : h < H) : ((rnsZ H p y).any fun b => inN b H z h) = (decide (z = y) && p h) := by
  by_cases ha : ∀ j, j < H → p j = true
  · rw [rnsZ_all ha]
    simp only [List.any_cons, List.any_nil, Bool.or_false]
    have := inN_nat (z := z) (y := y) (w := H) (f := 0) hh (by omega)
    simp only [Int.natCast_zero] at this
    rw [show (⟨0, (H : Int), (y : Int), ((y + 1 : Nat) : Int)⟩ : Bx) = ⟨((0 : Nat) : Int), H, y, ((y + 1 : Nat) : Int)⟩ from rfl]
    rw [inN_nat hh (by omega), ha h hh, decide_eq_true (show (h + H - 0) % H < H from Nat.mod_lt _ (by omega))]
  · obtain ⟨k, hk⟩ := Classical.not_forall.1 ha
    obtain ⟨hk, hkp⟩ := Classical.not_imp.1 hk
    rw [rnsZ_not hk (by simpa using hkp)]
    rw [Bool.eq_iff_iff]
    simp only [rnsH, List.any_eq_true, List.mem_flatMap, List.mem_range, Bool.and_eq_true, decide_eq_true_eq]
    constructor
    · rintro ⟨b, ⟨g, hg, hb⟩, hin⟩
      split at hb
      · rename_i hs
        rw [List.mem_singleton] at hb; subst hb
        rw [inN_nat hh hg] at hin
        simp only [Bool.and_eq_true, decide_eq_true_eq] at hin
        exact ⟨hin.1, run_hit hh hg hs.1 hin.2⟩
      · cases hb
    · rintro ⟨e, hp⟩
      obtain ⟨g, hg, h1, h2, h3⟩ := run_start hh hp ⟨k, hk, by simpa using hkp⟩
      refine ⟨_, ⟨g, hg, by rw [if_pos ⟨h1, h2⟩]; exact List.mem_singleton.2 rfl⟩, ?_⟩
      rw [inN_nat hh hg, e, decide_eq_true h3]; simp
theorem rnsK_in {Z : Nat} (hh : h < H) : ((rnsK H P Z).any fun b => inN b H z h) = (decide (z < Z) && P z h) := by
  induction Z with
  | zero => simp [rnsK]
  | succ Z ih =>
    rw [rnsK_succ, List.any_append, ih, rnsZ_in hh]
    by_cases e : z = Z
    · subst e; simp
    · have : (z < Z + 1) ↔ z < Z := by omega
      simp [e, this]
theorem runs_eqv {Z : Nat} (hP : ∀ z h, Z ≤ z → P z h = false) (hQ : ∀ z h, H ≤ h → P z h = false) : inL' (rnsK H P Z) H = P := by
  funext z h
  unfold inL'
  by_cases hh : h < H
  · rw [rnsK_in hh, decide_eq_true hh, Bool.true_and]
    by_cases hz : z < Z
    · rw [decide_eq_true hz, Bool.true_and]
    · rw [decide_eq_false hz, hP z h (by omega)]; rfl
  · rw [decide_eq_false hh, hQ z h (by omega)]; rfl
theorem inL_out {Z : Nat} {l : List Bx} (hl : ∀ b ∈ l, b.hi ≤ Z) : (∀ z h, Z ≤ z → inL' l H z h = false) ∧ ∀ z h, H ≤ h → inL' l H z h = false := by
  constructor
  · intro z h hz
    unfold inL'
    rw [Bool.and_eq_false_iff]; right
    rw [List.any_eq_false]
    intro b hb
    have := hl b hb
    unfold inN
    simp only [Bool.and_eq_true, decide_eq_true_eq, not_and]
    intro h1; omega
  · intro z h hh
    unfold inL'; rw [decide_eq_false (by omega)]; rfl
theorem rnsZ_mem {y : Nat} {b : Bx} (hH : 1 ≤ H) (hb : b ∈ rnsZ H p y) : ∃ f : Nat, f < H ∧ ∃ w : Nat, 1 ≤ w ∧ w ≤ H ∧ b = ⟨f, w, y, ((y + 1 : Nat) : Int)⟩ := by
  by_cases ha : ∀ j, j < H → p j = true
  · rw [rnsZ_all ha, List.mem_singleton] at hb
    exact ⟨0, by omega, H, hH, Nat.le_refl _, hb⟩
  · obtain ⟨k, hk⟩ := Classical.not_forall.1 ha
    obtain ⟨hk, hkp⟩ := Classical.not_imp.1 hk
    rw [rnsZ_not hk (by simpa using hkp), rnsH, List.mem_flatMap] at hb
    obtain ⟨g, hg, hb⟩ := hb
    split at hb
    · rename_i hs
      rw [List.mem_singleton] at hb
      obtain ⟨w1, w2, _⟩ := widQ_spec (H := H) (p := p) hH hs.1 (List.mem_range.1 hg)
      exact ⟨g, List.mem_range.1 hg, _, w1, w2, hb⟩
    · cases hb
theorem rnsK_mem {Z : Nat} {b : Bx} (hH : 1 ≤ H) (hb : b ∈ rnsK H P Z) : ∃ (f w y : Nat), f < H ∧ 1 ≤ w ∧ w ≤ H ∧ y < Z ∧ b = ⟨f, w, y, ((y + 1 : Nat) : Int)⟩ := by
  unfold rnsK at hb
  obtain ⟨y, hy, hb⟩ := List.mem_flatMap.1 hb
  obtain ⟨f, hf, w, h1, h2, e⟩ := rnsZ_mem hH hb
  exact ⟨f, w, y, hf, h1, h2, List.mem_range.1 hy, e⟩
theorem rnsK_is {Z : Nat} {b : Bx} (hH : 1 ≤ H) (hb : b ∈ rnsK H P Z) : isB b H Z = true ∧ b.hi = b.lo + 1 := by
  obtain ⟨f, w, y, h1, h2, h3, h4, rfl⟩ := rnsK_mem hH hb
  exact ⟨isB_iff.2 (by simp only; omega), by simp only; omega⟩
def aprR (H : Int) (a b : Bx) : Prop := a.lo = b.lo → a.wd < (b.fr - a.fr + H) % H ∧ b.wd < (a.fr - b.fr + H) % H
theorem start_far {g : Nat} (hf : f < H) (hg : g < H) (hn : f ≠ g) (h1 : p f = true) (h2 : p ((f + H - 1) % H) = false) (h3 : p g = true) (h4 : p ((g + H - 1) % H) = false) : widQ H p f < (g + H - f) % H := by
  obtain ⟨w1, w2, w3, w4⟩ := widQ_spec (H := H) (p := p) (by omega) h1 hf
  have hd : (g + H - f) % H = if f < g then g - f else g + H - f := by
    rw [mod2 (by omega)]; split <;> split <;> omega
  have hdm : 1 ≤ (g + H - f) % H ∧ (g + H - f) % H < H := by rw [hd]; split <;> omega
  refine Nat.lt_of_not_le fun hle => ?_
  rcases Nat.lt_or_eq_of_le hle with h5 | h5
  · have := w3 ((g + H - f) % H - 1) (by omega)
    have e : (f + ((g + H - f) % H - 1)) % H = (g + H - 1) % H := by
      rw [hd]
      split
      · rw [show f + (g - f - 1) = g - 1 by omega, show g + H - 1 = g - 1 + H by omega, Nat.add_mod_right]
      · rw [show f + (g + H - f - 1) = g + H - 1 by omega]
    rw [e, h4] at this; cases this
  · rcases w4 with w4 | w4
    · omega
    · rw [← h5, Nat.add_mod_mod, show f + (g + H - f) = g + H by omega, Nat.add_mod_right, Nat.mod_eq_of_lt hg, h3] at w4; cases w4
theorem rnsH_apart {y k : Nat} (hk : k ≤ H) : (rnsH H p y k).Pairwise (aprR H) := by
  unfold rnsH
  rw [List.pairwise_flatMap]
  refine ⟨fun g _ => by split <;> simp, ?_⟩
  refine List.Pairwise.imp_of_mem ?_ (List.pairwise_lt_range (n := k))
  intro f g hf hg hlt a ha b hb
  rw [List.mem_range] at hf hg
  split at ha
  · rename_i h1
    split at hb
    · rename_i h2
      rw [List.mem_singleton] at ha hb
      subst ha; subst hb
      intro _
      have a1 := start_far (p := p) (H := H) (f := f) (g := g) (by omega) (by omega) (by omega) h1.1 h1.2 h2.1 h2.2
      have a2 := start_far (p := p) (H := H) (f := g) (g := f) (by omega) (by omega) (by omega) h2.1 h2.2 h1.1 h1.2
      simp only
      rw [show (g : Int) - (f : Int) + (H : Int) = ((g + H - f : Nat) : Int) by omega, show (f : Int) - (g : Int) + (H : Int) = ((f + H - g : Nat) : Int) by omega]
      have e1 : (((g + H - f : Nat) : Int) % (H : Int)) = (((g + H - f) % H : Nat) : Int) := rfl
      have e2 : (((f + H - g : Nat) : Int) % (H : Int)) = (((f + H - g) % H : Nat) : Int) := rfl
      rw [e1, e2]; omega
    · cases hb
  · cases ha
theorem rnsK_apart {Z : Nat} (hH : 1 ≤ H) : (rnsK H P Z).Pairwise (aprR H) := by
  unfold rnsK
  rw [List.pairwise_flatMap]
  constructor
  · intro y _
    by_cases ha : ∀ j, j < H → P y j = true
    · rw [rnsZ_all ha]; simp
    · obtain ⟨k, hk⟩ := Classical.not_forall.1 ha
      obtain ⟨hk, hkp⟩ := Classical.not_imp.1 hk
      rw [rnsZ_not hk (by simpa using hkp)]
      exact rnsH_apart (Nat.le_refl _)
  · refine List.Pairwise.imp ?_ (List.pairwise_lt_range (n := Z))
    intro x y hlt a ha b hb
    obtain ⟨f, _, w, _, _, rfl⟩ := rnsZ_mem hH ha
    obtain ⟨g, _, v, _, _, rfl⟩ := rnsZ_mem hH hb
    intro e; simp only at e; omega
end
end Go.Proofs.Ythlolelbmhfdbaa
end

section
namespace Go.Proofs.Ythlolelbmhfdbaa
set_option maxRecDepth 20000
open Go.AE
section
variable {Z H : Nat} {l l' m m' : List Bx} {ls ls' : List (List Bx)}
theorem bit_c (h : inL' l' H = inL' l H) : bitQ l' H = bitQ l H := by funext z x; unfold bitQ; rw [h]
theorem fld_c (h : inL' l' H = inL' l H) : fldQ Z H l' = fldQ Z H l := by unfold fldQ; rw [bit_c h]
theorem siz_c (h : inL' l' H = inL' l H) : sizQ Z H l' = sizQ Z H l := by unfold sizQ; rw [fld_c h]
theorem nb_c (h : inL' l' H = inL' l H) : nbQ Z H l' = nbQ Z H l := by funext z x; unfold nbQ; rw [bit_c h]
theorem br_c (h : inL' l' H = inL' l H) (h2 : inL' m' H = inL' m H) : brQ Z H l' m' = brQ Z H l m := by unfold brQ; rw [bit_c h, nb_c h2]
theorem met_c (h : inL' l' H = inL' l H) (h2 : inL' m' H = inL' m H) : metQ Z H l' m' = metQ Z H l m := by unfold metQ; rw [h, h2]
theorem nr_c (h : inL' l' H = inL' l H) (h2 : inL' m' H = inL' m H) : nrQ Z H l' m' = nrQ Z H l m := by unfold nrQ; rw [met_c h h2, br_c h h2]
theorem add_c (h : inL' l' H = inL' l H) : addQ H l' = addQ H l := by funext S q; unfold addQ; rw [h]
theorem exp_c (h : inL' l' H = inL' l H) : expQ Z H l' = expQ Z H l := by funext S q; unfold expQ; rw [add_c h]
theorem run_c (h : inL' l' H = inL' l H) : ∀ n S k, runQ Z H l' n S k = runQ Z H l n S k := by
  intro n
  induction n with
  | zero => intro S k; rfl
  | succ n ih => intro S k; unfold runQ; rw [exp_c h]; simp only [ih]
theorem pieF_c (h : inL' l' H = inL' l H) : pieF Z H l' = pieF Z H l := by funext s p; unfold pieF; rw [h, run_c h]
theorem pie_c (h : inL' l' H = inL' l H) : pieQ Z H l' = pieQ Z H l := by unfold pieQ pieK; rw [pieF_c h]
structure Eqs (H : Nat) (ls' ls : List (List Bx)) : Prop where
  len : ls'.length = ls.length
  eq : ∀ i, inL' (ls'.getD i []) H = inL' (ls.getD i []) H
theorem Eqs.at (h : Eqs H ls' ls) {i : Nat} (h1 : i < ls'.length) (h2 : i < ls.length) : inL' ls'[i] H = inL' ls[i] H := by
  have := h.eq i
  simpa [List.getD_eq_getElem?_getD, List.getElem?_eq_getElem, h1, h2] using this
theorem of_c (h : Eqs H ls' ls) {z x k : Nat} : ofQ ls' H z x k = ofQ ls H z x k := by unfold ofQ; simp only [h.eq]
theorem cnt_c (h : Eqs H ls' ls) : cntQ ls' H = cntQ ls H := by funext p; unfold cntQ; rw [of_c h, h.len]
theorem flt_c (h : Eqs H ls' ls) : fltQ Z H ls' = fltQ Z H ls := by unfold fltQ; rw [cnt_c h]
theorem nei_c (h : Eqs H ls' ls) {a k : Nat} : neiK Z H ls' a k = neiK Z H ls a k := by
  unfold neiK; simp only [nr_c (h.eq _) (h.eq _)]
theorem ntr_c (h : Eqs H ls' ls) {k : Nat} : ntrK Z H ls' k = ntrK Z H ls k := by
  unfold ntrK ntrR; simp only [nr_c (h.eq _) (h.eq _)]
def rnL (Z H : Nat) (ls : List (List Bx)) : List (List Bx) := ls.map fun l => rnsK H (inL' l H) Z
theorem rnL_len : (rnL Z H ls).length = ls.length := by simp [rnL]
theorem rnL_eqs (hb : ∀ l ∈ ls, ∀ b ∈ l, b.hi ≤ Z) : Eqs H (rnL Z H ls) ls := by
  refine ⟨rnL_len, fun i => ?_⟩
  by_cases hi : i < ls.length
  · have e1 : (rnL Z H ls).getD i [] = rnsK H (inL' ls[i] H) Z := by simp [rnL, List.getD_eq_getElem?_getD, hi]
    have e2 : ls.getD i [] = ls[i] := by simp [List.getD_eq_getElem?_getD, hi]
    rw [e1, e2]
    have := inL_out (H := H) (hb _ (List.getElem_mem hi))
    exact runs_eqv this.1 this.2
  · have e1 : (rnL Z H ls).getD i [] = [] := by simp [rnL, List.getD_eq_getElem?_getD, List.getElem?_eq_none (show ls.length ≤ i by omega)]
    have e2 : ls.getD i [] = [] := by simp [List.getD_eq_getElem?_getD, List.getElem?_eq_none (show ls.length ≤ i by omega)]
    rw [e1, e2]
theorem rnL_vs (hv : VS ⟨H, Z, ls⟩ H Z) (hz : Z * H ≤ 600) : VS ⟨H, Z, rnL Z H ls⟩ H Z := by
  refine ⟨rfl, rfl, hv.h1, hv.z1, by show (rnL Z H ls).length ≤ 10; rw [rnL_len]; exact hv.ln, fun l hl => ?_, fun l hl b hb => ?_⟩
  · obtain ⟨m, _, rfl⟩ := List.mem_map.1 hl
    exact Nat.le_trans (rnsK_len hv.h1.1) hz
  · obtain ⟨m, _, rfl⟩ := List.mem_map.1 hl
    exact isB_iff.1 (rnsK_is hv.h1.1 hb).1
theorem vs_hi (hv : VS ⟨H, Z, ls⟩ H Z) : ∀ l ∈ ls, ∀ b ∈ l, b.hi ≤ Z := fun l hl b hb => (hv.bx l hl b hb).2.2.2.2
theorem grt_hz {s : Sk} (hg : grt s = false) (hc : chkS s = 0) : s.h * s.z ≤ 120 := by
  unfold grt at hg
  rw [hc] at hg
  simp only [Bool.or_eq_false_iff, Bool.and_eq_false_iff, decide_eq_false_iff_not] at hg
  rcases hg.2.2 with h | h
  · exact absurd trivial h
  · omega
theorem grt_zh {H Z : Nat} {ls : List (List Bx)} (hg : grt ⟨H, Z, ls⟩ = false) (hc : chkS ⟨H, Z, ls⟩ = 0) : Z * H ≤ 120 := by
  have h1 : (H : Int) * (Z : Int) ≤ 120 := grt_hz hg hc
  have h2 : (H : Int) * (Z : Int) = ((H * Z : Nat) : Int) := rfl
  rw [Nat.mul_comm]; omega
theorem rns_rn (hb : ∀ b ∈ l, b.hi ≤ Z) : rnsK H (inL' (rnsK H (inL' l H) Z) H) Z = rnsK H (inL' l H) Z := by
  have := inL_out (H := H) hb
  rw [runs_eqv this.1 this.2]
end
end Go.Proofs.Ythlolelbmhfdbaa
end

section
namespace Go.Proofs.Ythlolelbmhfdbaa
set_option maxRecDepth 20000
open Go.AE
theorem apart_p (H Z : Nat) (ls : List (List Bx)) (c : Option Nat) (hv : VS ⟨H, Z, ls⟩ H Z) (l : List Bx) (d : Option Nat) (hl : l.length ≤ Z * H) (hall : ∀ b ∈ l, isB b H Z = true ∧ b.hi = b.lo + 1) (hpw : l.Pairwise (aprR H)) : Pure Try.prog 54 [.agg [i64 (H : Nat), i64 (Z : Nat), landsA ls c], boxesA l d] (.bool true) := by
  have hv' := hv
  obtain ⟨_, _, hH, hZ1, hln, hlb, hbx⟩ := hv'
  simp only at hln hlb hbx
  have hZ := hZ1.2
  have hHZ : Z * H ≤ 1152 := Nat.mul_le_mul hZ hH.2
  have hHZc : H * Z = Z * H := Nat.mul_comm _ _
  refine pure_of_body Try.func54 (c := body Try.f54) rfl (by simp [Try.ntmps54]) fun w0 Φ0 => ?_
  refine W_seq rfl ?_
  refine W_reg rfl ?_
  refine Rv rfl rfl rfl (U_boxF rfl rfl rfl) rfl rfl ?_
  refine Rv rfl rfl rfl (U_assign rfl) rfl rfl ?_
  refine Re rfl ?_
  refine thenQ_n ?_
  refine W_seq rfl ?_
  refine W_seq rfl ?_
  refine W_reg rfl ?_
  refine Rv rfl rfl rfl (U_move rfl) rfl rfl ?_
  refine Rv rfl rfl rfl (U_lenOf rfl len_ros) rfl rfl ?_
  refine Rv rfl rfl rfl (U_fieldAddrR rfl) rfl rfl ?_
  refine Rv rfl rfl rfl (U_load1 rfl rfl rfl) rfl rfl ?_
  refine Rv rfl rfl rfl (U_fieldAddrR rfl) rfl rfl ?_
  refine Rv rfl rfl rfl (U_load1 rfl rfl rfl) rfl rfl ?_
  refine Rv rfl rfl rfl (U_mul rfl rfl (w64 (by omega) (by omega))) rfl rfl ?_
  refine Rv rfl rfl rfl (U_gtr rfl rfl) rfl rfl ?_
  refine Re rfl ?_
  refine thenQ_n ?_
  refine WcondP rfl rfl (fun hc0 => absurd hc0 (by omega)) (fun hc0 => ?_)
  refine W_skip rfl ?_
  refine thenQ_n ?_
  refine W_seq rfl ?_
  refine W_seq rfl ?_
  refine W_reg rfl ?_
  refine Rv rfl rfl rfl (U_assign rfl) rfl rfl ?_
  refine Re rfl ?_
  refine thenQ_n ?_
  refine W_block rfl ?_
  refine LoopTo (T' := [(1, .ros (l.flatMap bxC) l.length d), (2, .rop [i64 ((H : Nat) : Int), i64 ((Z : Nat) : Int), .ros (ls.map boxesL) ls.length c] 0), (5, i64 ((0 : Nat) : Int))]) (H' := []) (n := 0) rfl (fun mz_ qz_ => ∃ (i : Nat), i ≤ l.length ∧ mz_ = l.length - i ∧ qz_ = ⟨[(1, .ros (l.flatMap bxC) l.length d), (2, .rop [i64 ((H : Nat) : Int), i64 ((Z : Nat) : Int), .ros (ls.map boxesL) ls.length c] 0), (5, i64 ((i : Nat) : Int))], [], 0, []⟩) ⟨0, (by omega), rfl, rfl⟩ id ⟨eD rfl rfl, eD rfl rfl, eD rfl rfl, trivial⟩ trivial rfl rfl rfl rfl (fun _ _ => rfl) ?_
  rintro _ _ ⟨i, hi0_0, rfl, rfl⟩
  refine W_seq rfl ?_
  refine W_seq rfl ?_
  refine W_reg rfl ?_
  refine Rv rfl rfl rfl (U_move rfl) rfl rfl ?_
  refine Rv rfl rfl rfl (U_move rfl) rfl rfl ?_
  refine Rv rfl rfl rfl (U_lenOf rfl len_ros) rfl rfl ?_
  refine Rv rfl rfl rfl (U_lss rfl rfl) rfl rfl ?_
  refine Re rfl ?_
  refine thenQ_n ?_
  refine WcondP rfl rfl (fun hc1 => ?_) (fun hc1 => ?_)
  · have hbi := hall _ (List.getElem_mem (show i < l.length by omega))
    have hb1 := hbi.1
    have hb2 := isB_iff.1 hb1
    refine W_skip rfl ?_
    refine thenQ_n ?_
    refine W_seq rfl ?_
    refine W_block rfl ?_
    refine W_seq rfl ?_
    refine W_seq rfl ?_
    refine Wjoin ⟨[(1, .ros (l.flatMap bxC) l.length d), (2, .rop [i64 ((H : Nat) : Int), i64 ((Z : Nat) : Int), .ros (ls.map boxesL) ls.length c] 0), (5, i64 ((i : Nat) : Int)), (44, .bool ((!(isB l[i] ((H : Nat) : Int) ((Z : Nat) : Int))) || (decide (l[i].hi ≠ (l[i].lo + 1)))))], [], 0, []⟩ ?_ ?_
    · refine Wdraw rfl (by kernel_rfl) (by kernel_rfl) ?_
      refine Dv rfl rfl rfl (U_move rfl) rfl rfl ?_
      refine Dv rfl rfl rfl (U_move rfl) rfl rfl ?_
      have hx1 : i < l.length := by omega
      refine Dv rfl rfl rfl (U_indexR (j := i) rfl rfl rfl hx1) rfl rfl ?_
      refine Dv rfl rfl rfl (U_load4 rfl rfl (bxG0 hx1) (bxG1 hx1) (bxG2 hx1) (bxG3 hx1)) rfl rfl ?_
      refine Dv rfl rfl rfl (U_fieldAddrR rfl) rfl rfl ?_
      refine Dv rfl rfl rfl (U_load1 rfl rfl rfl) rfl rfl ?_
      refine Dv rfl rfl rfl (U_fieldAddrR rfl) rfl rfl ?_
      refine Dv rfl rfl rfl (U_load1 rfl rfl rfl) rfl rfl ?_
      refine Dv rfl rfl rfl (U_call rfl rfl (isBR_p l[i] ((H : Nat) : Int) ((Z : Nat) : Int) (by omega) (by omega)) rfl) rfl rfl ?_
      refine Dv rfl rfl rfl (U_not rfl) rfl rfl ?_
      refine Dv rfl rfl rfl (U_move rfl) rfl rfl ?_
      refine Dsplit (t := 31) rfl (fun hg2 => ?_) (fun hg2 => ?_)
      · rw [hg2]
        refine Ds rfl rfl rfl rfl rfl ?_
        refine Ds rfl rfl rfl rfl rfl ?_
        refine Ds rfl rfl rfl rfl rfl ?_
        refine Ds rfl rfl rfl rfl rfl ?_
        refine Ds rfl rfl rfl rfl rfl ?_
        refine Ds rfl rfl rfl rfl rfl ?_
        refine Ds rfl rfl rfl rfl rfl ?_
        refine Ds rfl rfl rfl rfl rfl ?_
        refine Ds rfl rfl rfl rfl rfl ?_
        refine Ds rfl rfl rfl rfl rfl ?_
        refine Ds rfl rfl rfl rfl rfl ?_
        refine Ds rfl rfl rfl rfl rfl ?_
        refine Dv rfl rfl rfl (U_pick_t rfl rfl) rfl rfl ?_
        refine Dr.nil rfl ?_
        exact joinTo id ⟨eD rfl rfl, eD rfl rfl, eD rfl rfl, eD rfl rfl, trivial⟩ trivial rfl rfl rfl rfl (fun _ _ => rfl)
      · rw [hg2]
        refine Dv rfl rfl rfl (U_move rfl) rfl rfl ?_
        refine Dv rfl rfl rfl (U_move rfl) rfl rfl ?_
        refine Dv rfl rfl rfl (U_indexR (j := i) rfl rfl rfl hx1) rfl rfl ?_
        refine Dv rfl rfl rfl (U_fieldAddrR rfl) rfl rfl ?_
        refine Dv rfl rfl rfl (U_load1 rfl rfl (bxG3 hx1)) rfl rfl ?_
        refine Dv rfl rfl rfl (U_move rfl) rfl rfl ?_
        refine Dv rfl rfl rfl (U_move rfl) rfl rfl ?_
        refine Dv rfl rfl rfl (U_indexR (j := i) rfl rfl rfl hx1) rfl rfl ?_
        refine Dv rfl rfl rfl (U_fieldAddrR rfl) rfl rfl ?_
        refine Dv rfl rfl rfl (U_load1 rfl rfl (bxG2 hx1)) rfl rfl ?_
        refine Dv rfl rfl rfl (U_add rfl rfl (w64 (by omega) (by omega))) rfl rfl ?_
        refine Dv rfl rfl rfl (U_neq rfl rfl) rfl rfl ?_
        refine Dv rfl rfl rfl (U_pick_f rfl rfl) rfl rfl ?_
        refine Dr.nil rfl ?_
        exact joinTo id ⟨eD rfl rfl, eD rfl rfl, eD rfl rfl, eD rfl rfl, trivial⟩ trivial rfl rfl rfl rfl (fun _ _ => rfl)
    refine thenQ_n ?_
    refine Wcond rfl rfl (fun hc2 => absurd hc2 (by simp [hb1]; omega)) (fun hc2 => ?_)
    refine W_skip rfl ?_
    refine thenQ_n ?_
    refine W_seq rfl ?_
    refine W_reg rfl ?_
    refine Rv rfl rfl rfl (U_assign rfl) rfl rfl ?_
    refine Re rfl ?_
    refine thenQ_n ?_
    refine W_block rfl ?_
    refine LoopTo (T' := [(1, .ros (l.flatMap bxC) l.length d), (2, .rop [i64 ((H : Nat) : Int), i64 ((Z : Nat) : Int), .ros (ls.map boxesL) ls.length c] 0), (5, i64 ((i : Nat) : Int)), (6, i64 ((0 : Nat) : Int))]) (H' := []) (n := 0) rfl (fun mz_ qz_ => ∃ (k : Nat), k ≤ i ∧ mz_ = i - k ∧ qz_ = ⟨[(1, .ros (l.flatMap bxC) l.length d), (2, .rop [i64 ((H : Nat) : Int), i64 ((Z : Nat) : Int), .ros (ls.map boxesL) ls.length c] 0), (5, i64 ((i : Nat) : Int)), (6, i64 ((k : Nat) : Int))], [], 0, []⟩) ⟨0, (by omega), rfl, rfl⟩ id ⟨eD rfl rfl, eD rfl rfl, eD rfl rfl, eD rfl rfl, trivial⟩ trivial rfl rfl rfl rfl (fun _ _ => rfl) ?_
    rintro _ _ ⟨k, hi1_0, rfl, rfl⟩
    refine W_seq rfl ?_
    refine W_seq rfl ?_
    refine W_reg rfl ?_
    refine Rv rfl rfl rfl (U_move rfl) rfl rfl ?_
    refine Rv rfl rfl rfl (U_move rfl) rfl rfl ?_
    refine Rv rfl rfl rfl (U_lss rfl rfl) rfl rfl ?_
    refine Re rfl ?_
    refine thenQ_n ?_
    refine WcondP rfl rfl (fun hc3 => ?_) (fun hc3 => ?_)
    · have hpk := List.pairwise_iff_getElem.1 hpw k i (by omega) (by omega) (by omega)
      have hbk := isB_iff.1 (hall _ (List.getElem_mem (show k < l.length by omega))).1
      have e1 : (l[i].fr - l[k].fr + (H : Int)).tmod (H : Int) = (l[i].fr - l[k].fr + H) % H := tmodP (by omega)
      have e2 : (l[k].fr - l[i].fr + (H : Int)).tmod (H : Int) = (l[k].fr - l[i].fr + H) % H := tmodP (by omega)
      have n1 := Int.emod_lt_of_pos (l[i].fr - l[k].fr + H) (show (0 : Int) < H by omega)
      have n2 := Int.emod_lt_of_pos (l[k].fr - l[i].fr + H) (show (0 : Int) < H by omega)
      have n3 := Int.emod_nonneg (l[i].fr - l[k].fr + H) (show (H : Int) ≠ 0 by omega)
      have n4 := Int.emod_nonneg (l[k].fr - l[i].fr + H) (show (H : Int) ≠ 0 by omega)
      unfold aprR at hpk
      refine W_skip rfl ?_
      refine thenQ_n ?_
      refine W_seq rfl ?_
      refine W_block rfl ?_
      refine W_seq rfl ?_
      refine Wdraw rfl (by kernel_rfl) (by kernel_rfl) ?_
      refine Dv rfl rfl rfl (U_move rfl) rfl rfl ?_
      refine Dv rfl rfl rfl (U_move rfl) rfl rfl ?_
      have hx3 : k < l.length := by omega
      refine Dv rfl rfl rfl (U_indexR (j := k) rfl rfl rfl hx3) rfl rfl ?_
      refine Dv rfl rfl rfl (U_fieldAddrR rfl) rfl rfl ?_
      refine Dv rfl rfl rfl (U_load1 rfl rfl (bxG2 hx3)) rfl rfl ?_
      refine Dv rfl rfl rfl (U_move rfl) rfl rfl ?_
      refine Dv rfl rfl rfl (U_move rfl) rfl rfl ?_
      have hx4 : i < l.length := by omega
      refine Dv rfl rfl rfl (U_indexR (j := i) rfl rfl rfl hx4) rfl rfl ?_
      refine Dv rfl rfl rfl (U_fieldAddrR rfl) rfl rfl ?_
      refine Dv rfl rfl rfl (U_load1 rfl rfl (bxG2 hx4)) rfl rfl ?_
      refine Dv rfl rfl rfl (U_eql rfl rfl) rfl rfl ?_
      refine Dv rfl rfl rfl (U_move rfl) rfl rfl ?_
      refine Dsplit (t := 61) rfl (fun hg5 => ?_) (fun hg5 => ?_)
      · rw [hg5]
        have hg5' : l[k].lo = l[i].lo := of_decide_eq_true hg5
        refine Dv rfl rfl rfl (U_move rfl) rfl rfl ?_
        refine Dv rfl rfl rfl (U_move rfl) rfl rfl ?_
        refine Dv rfl rfl rfl (U_indexR (j := i) rfl rfl rfl hx4) rfl rfl ?_
        refine Dv rfl rfl rfl (U_fieldAddrR rfl) rfl rfl ?_
        refine Dv rfl rfl rfl (U_load1 rfl rfl (bxG0 hx4)) rfl rfl ?_
        refine Dv rfl rfl rfl (U_move rfl) rfl rfl ?_
        refine Dv rfl rfl rfl (U_move rfl) rfl rfl ?_
        refine Dv rfl rfl rfl (U_indexR (j := k) rfl rfl rfl hx3) rfl rfl ?_
        refine Dv rfl rfl rfl (U_fieldAddrR rfl) rfl rfl ?_
        refine Dv rfl rfl rfl (U_load1 rfl rfl (bxG0 hx3)) rfl rfl ?_
        refine Dv rfl rfl rfl (U_sub rfl rfl (w64 (by omega) (by omega))) rfl rfl ?_
        refine Dv rfl rfl rfl (U_fieldAddrR rfl) rfl rfl ?_
        refine Dv rfl rfl rfl (U_load1 rfl rfl rfl) rfl rfl ?_
        refine Dv rfl rfl rfl (U_add rfl rfl (w64 (by omega) (by omega))) rfl rfl ?_
        refine Dv rfl rfl rfl (U_fieldAddrR rfl) rfl rfl ?_
        refine Dv rfl rfl rfl (U_load1 rfl rfl rfl) rfl rfl ?_
        refine Dv rfl rfl rfl (U_rem rfl rfl (by omega) rfl) rfl rfl ?_
        refine Dv rfl rfl rfl (U_move rfl) rfl rfl ?_
        refine Dv rfl rfl rfl (U_move rfl) rfl rfl ?_
        refine Dv rfl rfl rfl (U_indexR (j := k) rfl rfl rfl hx3) rfl rfl ?_
        refine Dv rfl rfl rfl (U_fieldAddrR rfl) rfl rfl ?_
        refine Dv rfl rfl rfl (U_load1 rfl rfl (bxG1 hx3)) rfl rfl ?_
        refine Dv rfl rfl rfl (U_leq rfl rfl) rfl rfl ?_
        refine Dv rfl rfl rfl (U_pick_t rfl rfl) rfl rfl ?_
        refine Dv rfl rfl rfl (U_move rfl) rfl rfl ?_
        refine Dsplit (t := 86) rfl (fun hg6 => ?_) (fun hg6 => ?_)
        · rw [hg6]
          have hg6' : (((l[i].fr - l[k].fr) + ((H : Nat) : Int)).tmod ((H : Nat) : Int)) ≤ l[k].wd := of_decide_eq_true hg6
          refine Ds rfl rfl rfl rfl rfl ?_
          refine Ds rfl rfl rfl rfl rfl ?_
          refine Ds rfl rfl rfl rfl rfl ?_
          refine Ds rfl rfl rfl rfl rfl ?_
          refine Ds rfl rfl rfl rfl rfl ?_
          refine Ds rfl rfl rfl rfl rfl ?_
          refine Ds rfl rfl rfl rfl rfl ?_
          refine Ds rfl rfl rfl rfl rfl ?_
          refine Ds rfl rfl rfl rfl rfl ?_
          refine Ds rfl rfl rfl rfl rfl ?_
          refine Ds rfl rfl rfl rfl rfl ?_
          refine Ds rfl rfl rfl rfl rfl ?_
          refine Ds rfl rfl rfl rfl rfl ?_
          refine Ds rfl rfl rfl rfl rfl ?_
          refine Ds rfl rfl rfl rfl rfl ?_
          refine Ds rfl rfl rfl rfl rfl ?_
          refine Ds rfl rfl rfl rfl rfl ?_
          refine Ds rfl rfl rfl rfl rfl ?_
          refine Ds rfl rfl rfl rfl rfl ?_
          refine Ds rfl rfl rfl rfl rfl ?_
          refine Ds rfl rfl rfl rfl rfl ?_
          refine Ds rfl rfl rfl rfl rfl ?_
          refine Ds rfl rfl rfl rfl rfl ?_
          refine Ds rfl rfl rfl rfl rfl ?_
          refine Ds rfl rfl rfl rfl rfl ?_
          refine Ds rfl rfl rfl rfl rfl ?_
          refine Ds rfl rfl rfl rfl rfl ?_
          refine Ds rfl rfl rfl rfl rfl ?_
          refine Ds rfl rfl rfl rfl rfl ?_
          refine Ds rfl rfl rfl rfl rfl ?_
          refine Ds rfl rfl rfl rfl rfl ?_
          refine Ds rfl rfl rfl rfl rfl ?_
          refine Ds rfl rfl rfl rfl rfl ?_
          refine Ds rfl rfl rfl rfl rfl ?_
          refine Ds rfl rfl rfl rfl rfl ?_
          refine Ds rfl rfl rfl rfl rfl ?_
          refine Dv rfl rfl rfl (U_pick_t rfl rfl) rfl rfl ?_
          refine Dr.nil rfl ?_
          refine thenQ_n ?_
          refine Wcond rfl rfl (fun _ => ?_) (fun h => nomatch h)
          refine W_seq rfl ?_
          refine W_reg rfl ?_
          refine Rv rfl rfl rfl (U_assign rfl) rfl rfl ?_
          refine Re rfl ?_
          refine thenQ_n ?_
          refine W_ret rfl ?_
          refine blkQ_r ?_
          refine thenQ_r ?_
          refine thenQ_r ?_
          refine blkQ_r ?_
          refine blkQ_r ?_
          refine thenQ_r ?_
          refine thenQ_r ?_
          refine blkQ_r ?_
          refine thenQ_r ?_
          exact retL (rlT rfl rl0) (by first | rfl | ((exfalso; omega); done)) rfl
        · rw [hg6]
          have hg6' : ¬ ((((l[i].fr - l[k].fr) + ((H : Nat) : Int)).tmod ((H : Nat) : Int)) ≤ l[k].wd) := of_decide_eq_false hg6
          refine Dv rfl rfl rfl (U_move rfl) rfl rfl ?_
          refine Dv rfl rfl rfl (U_move rfl) rfl rfl ?_
          refine Dv rfl rfl rfl (U_indexR (j := k) rfl rfl rfl hx3) rfl rfl ?_
          refine Dv rfl rfl rfl (U_fieldAddrR rfl) rfl rfl ?_
          refine Dv rfl rfl rfl (U_load1 rfl rfl (bxG2 hx3)) rfl rfl ?_
          refine Dv rfl rfl rfl (U_move rfl) rfl rfl ?_
          refine Dv rfl rfl rfl (U_move rfl) rfl rfl ?_
          refine Dv rfl rfl rfl (U_indexR (j := i) rfl rfl rfl hx4) rfl rfl ?_
          refine Dv rfl rfl rfl (U_fieldAddrR rfl) rfl rfl ?_
          refine Dv rfl rfl rfl (U_load1 rfl rfl (bxG2 hx4)) rfl rfl ?_
          refine Dv rfl rfl rfl (U_eql rfl rfl) rfl rfl ?_
          refine Dv rfl rfl rfl (U_move rfl) rfl rfl ?_
          refine Dsplit (t := 98) rfl (fun hg7 => ?_) (fun hg7 => ?_)
          · rw [hg7]
            have hg7' : l[k].lo = l[i].lo := of_decide_eq_true hg7
            refine Dv rfl rfl rfl (U_move rfl) rfl rfl ?_
            refine Dv rfl rfl rfl (U_move rfl) rfl rfl ?_
            refine Dv rfl rfl rfl (U_indexR (j := k) rfl rfl rfl hx3) rfl rfl ?_
            refine Dv rfl rfl rfl (U_fieldAddrR rfl) rfl rfl ?_
            refine Dv rfl rfl rfl (U_load1 rfl rfl (bxG0 hx3)) rfl rfl ?_
            refine Dv rfl rfl rfl (U_move rfl) rfl rfl ?_
            refine Dv rfl rfl rfl (U_move rfl) rfl rfl ?_
            refine Dv rfl rfl rfl (U_indexR (j := i) rfl rfl rfl hx4) rfl rfl ?_
            refine Dv rfl rfl rfl (U_fieldAddrR rfl) rfl rfl ?_
            refine Dv rfl rfl rfl (U_load1 rfl rfl (bxG0 hx4)) rfl rfl ?_
            refine Dv rfl rfl rfl (U_sub rfl rfl (w64 (by omega) (by omega))) rfl rfl ?_
            refine Dv rfl rfl rfl (U_fieldAddrR rfl) rfl rfl ?_
            refine Dv rfl rfl rfl (U_load1 rfl rfl rfl) rfl rfl ?_
            refine Dv rfl rfl rfl (U_add rfl rfl (w64 (by omega) (by omega))) rfl rfl ?_
            refine Dv rfl rfl rfl (U_fieldAddrR rfl) rfl rfl ?_
            refine Dv rfl rfl rfl (U_load1 rfl rfl rfl) rfl rfl ?_
            refine Dv rfl rfl rfl (U_rem rfl rfl (by omega) rfl) rfl rfl ?_
            refine Dv rfl rfl rfl (U_move rfl) rfl rfl ?_
            refine Dv rfl rfl rfl (U_move rfl) rfl rfl ?_
            refine Dv rfl rfl rfl (U_indexR (j := i) rfl rfl rfl hx4) rfl rfl ?_
            refine Dv rfl rfl rfl (U_fieldAddrR rfl) rfl rfl ?_
            refine Dv rfl rfl rfl (U_load1 rfl rfl (bxG1 hx4)) rfl rfl ?_
            refine Dv rfl rfl rfl (U_leq rfl rfl) rfl rfl ?_
            refine Dv rfl rfl rfl (U_pick_t rfl rfl) rfl rfl ?_
            refine Dv rfl rfl rfl (U_pick_f rfl rfl) rfl rfl ?_
            refine Dr.nil rfl ?_
            refine thenQ_n ?_
            refine WcondP rfl rfl (fun hc4 => absurd hc4 (by omega)) (fun hc4 => ?_)
            refine W_skip rfl ?_
            refine blkQ_n ?_
            refine thenQ_n ?_
            refine W_reg rfl ?_
            refine Rv rfl rfl rfl (U_move rfl) rfl rfl ?_
            refine Rv rfl rfl rfl (U_add rfl rfl (w64e (m := ((k + 1 : Nat) : Int)) (by omega) (by omega) (by omega))) rfl rfl ?_
            refine Rv rfl rfl rfl (U_assign rfl) rfl rfl ?_
            refine Re rfl ?_
            refine thenQ_n ?_
            exact againTo (T' := [(1, .ros (l.flatMap bxC) l.length d), (2, .rop [i64 ((H : Nat) : Int), i64 ((Z : Nat) : Int), .ros (ls.map boxesL) ls.length c] 0), (5, i64 ((i : Nat) : Int)), (6, i64 (((k + 1) : Nat) : Int))]) (H' := []) (n := 0) (i - (k + 1)) ⟨k + 1, (by omega), rfl, rfl⟩ (by omega) id ⟨eD rfl rfl, eD rfl rfl, eD rfl rfl, eD rfl rfl, trivial⟩ trivial rfl rfl rfl rfl (fun _ _ => rfl)
          · rw [hg7]
            have hg7' : ¬ (l[k].lo = l[i].lo) := of_decide_eq_false hg7
            refine Ds rfl rfl rfl rfl rfl ?_
            refine Ds rfl rfl rfl rfl rfl ?_
            refine Ds rfl rfl rfl rfl rfl ?_
            refine Ds rfl rfl rfl rfl rfl ?_
            refine Ds rfl rfl rfl rfl rfl ?_
            refine Ds rfl rfl rfl rfl rfl ?_
            refine Ds rfl rfl rfl rfl rfl ?_
            refine Ds rfl rfl rfl rfl rfl ?_
            refine Ds rfl rfl rfl rfl rfl ?_
            refine Ds rfl rfl rfl rfl rfl ?_
            refine Ds rfl rfl rfl rfl rfl ?_
            refine Ds rfl rfl rfl rfl rfl ?_
            refine Ds rfl rfl rfl rfl rfl ?_
            refine Ds rfl rfl rfl rfl rfl ?_
            refine Ds rfl rfl rfl rfl rfl ?_
            refine Ds rfl rfl rfl rfl rfl ?_
            refine Ds rfl rfl rfl rfl rfl ?_
            refine Ds rfl rfl rfl rfl rfl ?_
            refine Ds rfl rfl rfl rfl rfl ?_
            refine Ds rfl rfl rfl rfl rfl ?_
            refine Ds rfl rfl rfl rfl rfl ?_
            refine Ds rfl rfl rfl rfl rfl ?_
            refine Ds rfl rfl rfl rfl rfl ?_
            refine Dv rfl rfl rfl (U_pick_f rfl rfl) rfl rfl ?_
            refine Dv rfl rfl rfl (U_pick_f rfl rfl) rfl rfl ?_
            refine Dr.nil rfl ?_
            refine thenQ_n ?_
            refine Wcond rfl rfl (fun h => nomatch h) (fun _ => ?_)
            refine W_skip rfl ?_
            refine blkQ_n ?_
            refine thenQ_n ?_
            refine W_reg rfl ?_
            refine Rv rfl rfl rfl (U_move rfl) rfl rfl ?_
            refine Rv rfl rfl rfl (U_add rfl rfl (w64e (m := ((k + 1 : Nat) : Int)) (by omega) (by omega) (by omega))) rfl rfl ?_
            refine Rv rfl rfl rfl (U_assign rfl) rfl rfl ?_
            refine Re rfl ?_
            refine thenQ_n ?_
            exact againTo (T' := [(1, .ros (l.flatMap bxC) l.length d), (2, .rop [i64 ((H : Nat) : Int), i64 ((Z : Nat) : Int), .ros (ls.map boxesL) ls.length c] 0), (5, i64 ((i : Nat) : Int)), (6, i64 (((k + 1) : Nat) : Int))]) (H' := []) (n := 0) (i - (k + 1)) ⟨k + 1, (by omega), rfl, rfl⟩ (by omega) id ⟨eD rfl rfl, eD rfl rfl, eD rfl rfl, eD rfl rfl, trivial⟩ trivial rfl rfl rfl rfl (fun _ _ => rfl)
      · rw [hg5]
        have hg5' : ¬ (l[k].lo = l[i].lo) := of_decide_eq_false hg5
        refine Ds rfl rfl rfl rfl rfl ?_
        refine Ds rfl rfl rfl rfl rfl ?_
        refine Ds rfl rfl rfl rfl rfl ?_
        refine Ds rfl rfl rfl rfl rfl ?_
        refine Ds rfl rfl rfl rfl rfl ?_
        refine Ds rfl rfl rfl rfl rfl ?_
        refine Ds rfl rfl rfl rfl rfl ?_
        refine Ds rfl rfl rfl rfl rfl ?_
        refine Ds rfl rfl rfl rfl rfl ?_
        refine Ds rfl rfl rfl rfl rfl ?_
        refine Ds rfl rfl rfl rfl rfl ?_
        refine Ds rfl rfl rfl rfl rfl ?_
        refine Ds rfl rfl rfl rfl rfl ?_
        refine Ds rfl rfl rfl rfl rfl ?_
        refine Ds rfl rfl rfl rfl rfl ?_
        refine Ds rfl rfl rfl rfl rfl ?_
        refine Ds rfl rfl rfl rfl rfl ?_
        refine Ds rfl rfl rfl rfl rfl ?_
        refine Ds rfl rfl rfl rfl rfl ?_
        refine Ds rfl rfl rfl rfl rfl ?_
        refine Ds rfl rfl rfl rfl rfl ?_
        refine Ds rfl rfl rfl rfl rfl ?_
        refine Ds rfl rfl rfl rfl rfl ?_
        refine Dv rfl rfl rfl (U_pick_f rfl rfl) rfl rfl ?_
        refine Dv rfl rfl rfl (U_move rfl) rfl rfl ?_
        refine Dv rfl rfl rfl (U_move rfl) rfl rfl ?_
        refine Dv rfl rfl rfl (U_move rfl) rfl rfl ?_
        refine Dv rfl rfl rfl (U_indexR (j := k) rfl rfl rfl hx3) rfl rfl ?_
        refine Dv rfl rfl rfl (U_fieldAddrR rfl) rfl rfl ?_
        refine Dv rfl rfl rfl (U_load1 rfl rfl (bxG2 hx3)) rfl rfl ?_
        refine Dv rfl rfl rfl (U_move rfl) rfl rfl ?_
        refine Dv rfl rfl rfl (U_move rfl) rfl rfl ?_
        refine Dv rfl rfl rfl (U_indexR (j := i) rfl rfl rfl hx4) rfl rfl ?_
        refine Dv rfl rfl rfl (U_fieldAddrR rfl) rfl rfl ?_
        refine Dv rfl rfl rfl (U_load1 rfl rfl (bxG2 hx4)) rfl rfl ?_
        refine Dv rfl rfl rfl (U_eql rfl rfl) rfl rfl ?_
        refine Dv rfl rfl rfl (U_move rfl) rfl rfl ?_
        refine Dsplit (t := 98) rfl (fun hg8 => ?_) (fun hg8 => ?_)
        · rw [hg8]
          have hg8' : l[k].lo = l[i].lo := of_decide_eq_true hg8
          refine Dv rfl rfl rfl (U_move rfl) rfl rfl ?_
          refine Dv rfl rfl rfl (U_move rfl) rfl rfl ?_
          refine Dv rfl rfl rfl (U_indexR (j := k) rfl rfl rfl hx3) rfl rfl ?_
          refine Dv rfl rfl rfl (U_fieldAddrR rfl) rfl rfl ?_
          refine Dv rfl rfl rfl (U_load1 rfl rfl (bxG0 hx3)) rfl rfl ?_
          refine Dv rfl rfl rfl (U_move rfl) rfl rfl ?_
          refine Dv rfl rfl rfl (U_move rfl) rfl rfl ?_
          refine Dv rfl rfl rfl (U_indexR (j := i) rfl rfl rfl hx4) rfl rfl ?_
          refine Dv rfl rfl rfl (U_fieldAddrR rfl) rfl rfl ?_
          refine Dv rfl rfl rfl (U_load1 rfl rfl (bxG0 hx4)) rfl rfl ?_
          refine Dv rfl rfl rfl (U_sub rfl rfl (w64 (by omega) (by omega))) rfl rfl ?_
          refine Dv rfl rfl rfl (U_fieldAddrR rfl) rfl rfl ?_
          refine Dv rfl rfl rfl (U_load1 rfl rfl rfl) rfl rfl ?_
          refine Dv rfl rfl rfl (U_add rfl rfl (w64 (by omega) (by omega))) rfl rfl ?_
          refine Dv rfl rfl rfl (U_fieldAddrR rfl) rfl rfl ?_
          refine Dv rfl rfl rfl (U_load1 rfl rfl rfl) rfl rfl ?_
          refine Dv rfl rfl rfl (U_rem rfl rfl (by omega) rfl) rfl rfl ?_
          refine Dv rfl rfl rfl (U_move rfl) rfl rfl ?_
          refine Dv rfl rfl rfl (U_move rfl) rfl rfl ?_
          refine Dv rfl rfl rfl (U_indexR (j := i) rfl rfl rfl hx4) rfl rfl ?_
          refine Dv rfl rfl rfl (U_fieldAddrR rfl) rfl rfl ?_
          refine Dv rfl rfl rfl (U_load1 rfl rfl (bxG1 hx4)) rfl rfl ?_
          refine Dv rfl rfl rfl (U_leq rfl rfl) rfl rfl ?_
          refine Dv rfl rfl rfl (U_pick_t rfl rfl) rfl rfl ?_
          refine Dv rfl rfl rfl (U_pick_f rfl rfl) rfl rfl ?_
          refine Dr.nil rfl ?_
          refine thenQ_n ?_
          refine WcondP rfl rfl (fun hc4 => absurd hc4 (by omega)) (fun hc4 => ?_)
          refine W_skip rfl ?_
          refine blkQ_n ?_
          refine thenQ_n ?_
          refine W_reg rfl ?_
          refine Rv rfl rfl rfl (U_move rfl) rfl rfl ?_
          refine Rv rfl rfl rfl (U_add rfl rfl (w64e (m := ((k + 1 : Nat) : Int)) (by omega) (by omega) (by omega))) rfl rfl ?_
          refine Rv rfl rfl rfl (U_assign rfl) rfl rfl ?_
          refine Re rfl ?_
          refine thenQ_n ?_
          exact againTo (T' := [(1, .ros (l.flatMap bxC) l.length d), (2, .rop [i64 ((H : Nat) : Int), i64 ((Z : Nat) : Int), .ros (ls.map boxesL) ls.length c] 0), (5, i64 ((i : Nat) : Int)), (6, i64 (((k + 1) : Nat) : Int))]) (H' := []) (n := 0) (i - (k + 1)) ⟨k + 1, (by omega), rfl, rfl⟩ (by omega) id ⟨eD rfl rfl, eD rfl rfl, eD rfl rfl, eD rfl rfl, trivial⟩ trivial rfl rfl rfl rfl (fun _ _ => rfl)
        · rw [hg8]
          have hg8' : ¬ (l[k].lo = l[i].lo) := of_decide_eq_false hg8
          refine Ds rfl rfl rfl rfl rfl ?_
          refine Ds rfl rfl rfl rfl rfl ?_
          refine Ds rfl rfl rfl rfl rfl ?_
          refine Ds rfl rfl rfl rfl rfl ?_
          refine Ds rfl rfl rfl rfl rfl ?_
          refine Ds rfl rfl rfl rfl rfl ?_
          refine Ds rfl rfl rfl rfl rfl ?_
          refine Ds rfl rfl rfl rfl rfl ?_
          refine Ds rfl rfl rfl rfl rfl ?_
          refine Ds rfl rfl rfl rfl rfl ?_
          refine Ds rfl rfl rfl rfl rfl ?_
          refine Ds rfl rfl rfl rfl rfl ?_
          refine Ds rfl rfl rfl rfl rfl ?_
          refine Ds rfl rfl rfl rfl rfl ?_
          refine Ds rfl rfl rfl rfl rfl ?_
          refine Ds rfl rfl rfl rfl rfl ?_
          refine Ds rfl rfl rfl rfl rfl ?_
          refine Ds rfl rfl rfl rfl rfl ?_
          refine Ds rfl rfl rfl rfl rfl ?_
          refine Ds rfl rfl rfl rfl rfl ?_
          refine Ds rfl rfl rfl rfl rfl ?_
          refine Ds rfl rfl rfl rfl rfl ?_
          refine Ds rfl rfl rfl rfl rfl ?_
          refine Dv rfl rfl rfl (U_pick_f rfl rfl) rfl rfl ?_
          refine Dv rfl rfl rfl (U_pick_f rfl rfl) rfl rfl ?_
          refine Dr.nil rfl ?_
          refine thenQ_n ?_
          refine Wcond rfl rfl (fun h => nomatch h) (fun _ => ?_)
          refine W_skip rfl ?_
          refine blkQ_n ?_
          refine thenQ_n ?_
          refine W_reg rfl ?_
          refine Rv rfl rfl rfl (U_move rfl) rfl rfl ?_
          refine Rv rfl rfl rfl (U_add rfl rfl (w64e (m := ((k + 1 : Nat) : Int)) (by omega) (by omega) (by omega))) rfl rfl ?_
          refine Rv rfl rfl rfl (U_assign rfl) rfl rfl ?_
          refine Re rfl ?_
          refine thenQ_n ?_
          exact againTo (T' := [(1, .ros (l.flatMap bxC) l.length d), (2, .rop [i64 ((H : Nat) : Int), i64 ((Z : Nat) : Int), .ros (ls.map boxesL) ls.length c] 0), (5, i64 ((i : Nat) : Int)), (6, i64 (((k + 1) : Nat) : Int))]) (H' := []) (n := 0) (i - (k + 1)) ⟨k + 1, (by omega), rfl, rfl⟩ (by omega) id ⟨eD rfl rfl, eD rfl rfl, eD rfl rfl, eD rfl rfl, trivial⟩ trivial rfl rfl rfl rfl (fun _ _ => rfl)
    · refine W_exit rfl ?_
      refine thenQ_x ?_
      refine thenQ_x ?_
      refine blkQ_x rfl ?_
      refine blkQ_n ?_
      refine thenQ_n ?_
      refine W_reg rfl ?_
      refine Rv rfl rfl rfl (U_move rfl) rfl rfl ?_
      refine Rv rfl rfl rfl (U_add rfl rfl (w64e (m := ((i + 1 : Nat) : Int)) (by omega) (by omega) (by omega))) rfl rfl ?_
      refine Rv rfl rfl rfl (U_assign rfl) rfl rfl ?_
      refine Re rfl ?_
      refine thenQ_n ?_
      exact againTo (T' := [(1, .ros (l.flatMap bxC) l.length d), (2, .rop [i64 ((H : Nat) : Int), i64 ((Z : Nat) : Int), .ros (ls.map boxesL) ls.length c] 0), (5, i64 (((i + 1) : Nat) : Int))]) (H' := []) (n := 0) (l.length - (i + 1)) ⟨i + 1, (by omega), rfl, rfl⟩ (by omega) id ⟨eD rfl rfl, eD rfl rfl, eD rfl rfl, trivial⟩ trivial rfl rfl rfl rfl (fun _ _ => rfl)
  · refine W_exit rfl ?_
    refine thenQ_x ?_
    refine thenQ_x ?_
    refine blkQ_x rfl ?_
    refine thenQ_n ?_
    refine W_seq rfl ?_
    refine W_reg rfl ?_
    refine Rv rfl rfl rfl (U_assign rfl) rfl rfl ?_
    refine Re rfl ?_
    refine thenQ_n ?_
    refine W_ret rfl ?_
    exact retL (rlT rfl rl0) rfl rfl
section
variable (H Z : Nat) (ls : List (List Bx)) (c : Option Nat) (hc : chkS ⟨H, Z, ls⟩ = 0) (hv : VS ⟨H, Z, ls⟩ H Z) (l0 : List (List Bx)) (he : Eqs H ls l0) (h0 : chkS ⟨H, Z, l0⟩ = 0)
include hc hv he
theorem sizX_p (a : Nat) (ha : a < ls.length) (ha2 : a < l0.length) : Pure Try.prog 27 [.agg [i64 (H : Nat), i64 (Z : Nat), landsA ls c], i64 (a : Nat)] (.tup [i64 ((sizQ Z H l0[a] : Nat) : Int), i64 0]) := by
  rw [← siz_c (he.at ha ha2)]; exact siz_g H Z ls c hc hv a ha
theorem pieX_p (a : Nat) (ha : a < ls.length) (ha2 : a < l0.length) : Pure Try.prog 29 [.agg [i64 (H : Nat), i64 (Z : Nat), landsA ls c], i64 (a : Nat)] (.tup [i64 ((pieQ Z H l0[a] : Nat) : Int), i64 0]) := by
  rw [← pie_c (he.at ha ha2)]; exact pie_g H Z ls c hc hv a ha
theorem neiX_p (a : Nat) (ha : a < ls.length) : Pure Try.prog 33 [.agg [i64 (H : Nat), i64 (Z : Nat), landsA ls c], i64 (a : Nat)] (.tup [intsA (neiK Z H l0 a l0.length) none, i64 0]) := by
  rw [← nei_c he, ← he.len]; exact nei_g H Z ls c hc hv a ha
theorem tinX_p : Pure Try.prog 37 [.agg [i64 (H : Nat), i64 (Z : Nat), landsA ls c]] (.tup [intsA (tinQ (ntrK Z H l0 l0.length)) none, i64 0]) := by
  rw [← ntr_c he, ← he.len]; exact tin_g H Z ls c hc hv
include h0
theorem fltR_c : fltR ⟨H, Z, ls⟩ = fltR ⟨H, Z, l0⟩ := by
  cases e : fltQ Z H l0 with
  | none => rw [fltR_n h0 e, fltR_n hc (by rw [flt_c he]; exact e)]
  | some p => rw [fltR_s h0 e, fltR_s hc (by rw [flt_c he]; exact e), cnt_c he]
theorem fltX_p : Pure Try.prog 20 [.agg [i64 (H : Nat), i64 (Z : Nat), landsA ls c]] (.tup [i64 (fltR ⟨H, Z, l0⟩).1, i64 (fltR ⟨H, Z, l0⟩).2.1, i64 (fltR ⟨H, Z, l0⟩).2.2.1, i64 (fltR ⟨H, Z, l0⟩).2.2.2]) := by
  rw [← fltR_c H Z ls hc hv l0 he h0]; exact flt_g H Z ls c hc hv
end
theorem runX_p (H Z : Nat) (ls : List (List Bx)) (c : Option Nat) (hc : chkS ⟨H, Z, rnL Z H ls⟩ = 0) (hv : VS ⟨H, Z, rnL Z H ls⟩ H Z) (hb : ∀ l ∈ ls, ∀ b ∈ l, b.hi ≤ Z) (a : Nat) (ha : a < (rnL Z H ls).length) : Pure Try.prog 41 [.agg [i64 (H : Nat), i64 (Z : Nat), landsA (rnL Z H ls) c], i64 (a : Nat)] (.tup [boxesA (rnL Z H ls)[a] none, i64 0]) := by
  have := run_g H Z (rnL Z H ls) c hc hv a ha
  have e : (rnL Z H ls)[a] = rnsK H (inL' (ls[a]'(by rw [rnL_len] at ha; exact ha)) H) Z := by simp [rnL]
  rw [e] at this ⊢
  rwa [rns_rn (hb _ (List.getElem_mem _))] at this
theorem rnL_snoc {Z H k : Nat} {ls : List (List Bx)} (hk : k < ls.length) : (rnL Z H ls).take (k + 1) = (rnL Z H ls).take k ++ [rnsK H (inL' ls[k] H) Z] := by
  rw [List.take_succ_eq_append_getElem (by rw [rnL_len]; exact hk)]; simp [rnL]
theorem tinQ_sz {Z H : Nat} {ls : List (List Bx)} (hn : ls.length ≤ 10) : (tinQ (ntrK Z H ls ls.length)).length ≤ 1000000 := by
  rw [tin_len ntr_ok, ntrK_len]; omega
theorem borderRuns1_p (H Z : Nat) (ls : List (List Bx)) (c : Option Nat) (hc : chkS ⟨H, Z, ls⟩ = 0) (hv : VS ⟨H, Z, ls⟩ H Z) (hg : grt ⟨H, Z, ls⟩ = false) : Pure Try.prog 11 [.agg [i64 (H : Nat), i64 (Z : Nat), landsA ls c]] (.bool true) := by
  have hv' := hv
  obtain ⟨_, _, hH, hZ1, hln, hlb, hbx⟩ := hv'
  simp only at hln hlb hbx
  have hZ := hZ1.2
  have hHZ : Z * H ≤ 1152 := Nat.mul_le_mul hZ hH.2
  have hHZc : H * Z = Z * H := Nat.mul_comm _ _
  have hzh := grt_zh hg hc
  have hhi := vs_hi hv
  have he := rnL_eqs (H := H) hhi
  have hv2 := rnL_vs hv (by omega)
  have hc2 := vs_chk hv2
  have hrl : (rnL Z H ls).length = ls.length := rnL_len
  refine pure_of_body Try.func11 (c := body Try.f11) rfl (by simp [Try.ntmps11]) fun w0 Φ0 => ?_
  refine W_seq rfl ?_
  refine W_reg rfl ?_
  refine Rv rfl rfl rfl (U_boxF rfl rfl rfl) rfl rfl ?_
  refine Rv rfl rfl rfl (U_assign rfl) rfl rfl ?_
  refine Re rfl ?_
  refine thenQ_n ?_
  refine W_seq rfl ?_
  refine W_seq rfl ?_
  refine W_reg rfl ?_
  refine Rv rfl rfl rfl (U_load3 rfl rfl rfl rfl rfl) rfl rfl ?_
  refine Rv rfl rfl rfl (U_call rfl rfl (fineT_p H Z ls c hg hc) rfl) rfl rfl ?_
  refine Rv rfl rfl rfl (U_not rfl) rfl rfl ?_
  refine Re rfl ?_
  refine thenQ_n ?_
  refine Wcond rfl rfl (fun h => nomatch h) (fun _ => ?_)
  refine W_skip rfl ?_
  refine thenQ_n ?_
  refine W_seq rfl ?_
  refine W_reg rfl ?_
  refine Rv rfl rfl rfl (U_fieldAddrR rfl) rfl rfl ?_
  refine Rv rfl rfl rfl (U_load1 rfl rfl rfl) rfl rfl ?_
  refine Rv rfl rfl rfl (U_fieldAddrR rfl) rfl rfl ?_
  refine Rv rfl rfl rfl (U_load1 rfl rfl rfl) rfl rfl ?_
  refine Rv rfl rfl rfl (U_build rfl rfl) rfl rfl ?_
  refine Ra rfl rfl rfl (U_alloc) rfl rfl rfl ?_
  refine Rn rfl rfl rfl (U_storeAll rfl rfl rfl rfl rfl rfl) rfl ?_
  refine Re rfl ?_
  refine thenQ_n ?_
  refine W_seq rfl ?_
  refine W_seq rfl ?_
  refine W_reg rfl ?_
  refine Rv rfl rfl rfl (U_assign rfl) rfl rfl ?_
  refine Re rfl ?_
  refine thenQ_n ?_
  refine W_block rfl ?_
  refine WweakH (b := 0) (cs' := [i64 ((H : Nat) : Int), i64 ((Z : Nat) : Int), .out 1 0 1]) rfl (leL_cons (le_refl _) (leL_cons (le_refl _) (leL_cons le_nils_out (leL_refl _)))) ?_
  refine LoopTo (T' := [(1, .rop [i64 ((H : Nat) : Int), i64 ((Z : Nat) : Int), .ros (ls.map boxesL) ls.length c] 0), (3, .ptr 0 0), (4, i64 ((0 : Nat) : Int))]) (H' := [(0, some (.cells [i64 ((H : Nat) : Int), i64 ((Z : Nat) : Int), .out 1 [].length 1] 24)), (1, outB ([].map boxesL) 46 [].length)]) (n := 2) rfl (fun mz_ qz_ => ∃ (i : Nat) (D : List (List Bx)), i ≤ ls.length ∧ D = (rnL Z H ls).take i ∧ mz_ = ls.length - i ∧ qz_ = ⟨[(1, .rop [i64 ((H : Nat) : Int), i64 ((Z : Nat) : Int), .ros (ls.map boxesL) ls.length c] 0), (3, .ptr 0 0), (4, i64 ((i : Nat) : Int))], [(0, some (.cells [i64 ((H : Nat) : Int), i64 ((Z : Nat) : Int), .out 1 D.length 1] 24)), (1, outB (D.map boxesL) 46 D.length)], 2, []⟩) ⟨0, [], (by omega), rfl, rfl, rfl⟩ id ⟨eD rfl rfl, e_ rfl rfl, eD rfl rfl, trivial⟩ ⟨r_ rfl rfl rfl, rO0 rfl, trivial⟩ rfl rfl rfl rfl (fun _ _ => rfl) ?_
  rintro _ _ ⟨i, D, hi0_0, hi0_1, rfl, rfl⟩
  have hDl : D.length = i := by rw [hi0_1, List.length_take, hrl]; omega
  refine W_seq rfl ?_
  refine W_seq rfl ?_
  refine W_reg rfl ?_
  refine Rv rfl rfl rfl (U_move rfl) rfl rfl ?_
  refine Rv rfl rfl rfl (U_fieldAddrR rfl) rfl rfl ?_
  refine Rv rfl rfl rfl (U_load1 rfl rfl rfl) rfl rfl ?_
  refine Rv rfl rfl rfl (U_lenOf rfl len_ros) rfl rfl ?_
  refine Rv rfl rfl rfl (U_lss rfl rfl) rfl rfl ?_
  refine Re rfl ?_
  refine thenQ_n ?_
  refine WcondP rfl rfl (fun hc1 => ?_) (fun hc1 => ?_)
  · refine W_skip rfl ?_
    refine thenQ_n ?_
    refine W_seq rfl ?_
    refine W_block rfl ?_
    refine W_seq rfl ?_
    refine W_reg rfl ?_
    refine Rv rfl rfl rfl (U_load3 rfl rfl rfl rfl rfl) rfl rfl ?_
    refine Rv rfl rfl rfl (U_move rfl) rfl rfl ?_
    refine Rv rfl rfl rfl (U_call rfl rfl (run_g H Z ls c hc hv i (by omega)) rfl) rfl rfl ?_
    refine Rv rfl rfl rfl (U_move rfl) rfl rfl ?_
    refine Rv rfl rfl rfl (U_extract rfl rfl) rfl rfl ?_
    refine Rv rfl rfl rfl (U_extract rfl rfl) rfl rfl ?_
    refine Rv rfl rfl rfl (U_assign rfl) rfl rfl ?_
    refine Rv rfl rfl rfl (U_assign rfl) rfl rfl ?_
    refine Re rfl ?_
    refine thenQ_n ?_
    refine W_seq rfl ?_
    refine W_seq rfl ?_
    refine W_reg rfl ?_
    refine Rv rfl rfl rfl (U_move rfl) rfl rfl ?_
    refine Rv rfl rfl rfl (U_neq rfl rfl) rfl rfl ?_
    refine Rv rfl rfl rfl (U_move rfl) rfl rfl ?_
    refine Rv rfl rfl rfl (U_load3 rfl rfl rfl rfl rfl) rfl rfl ?_
    refine Rv rfl rfl rfl (U_move rfl) rfl rfl ?_
    refine Rv rfl rfl rfl (U_call rfl rfl (apart_p H Z ls c hv (rnsK H (inL' ls[i] H) Z) none (rnsK_len hH.1) (fun _ h => rnsK_is hH.1 h) (rnsK_apart hH.1)) rfl) rfl rfl ?_
    refine Rv rfl rfl rfl (U_not rfl) rfl rfl ?_
    refine Rv rfl rfl rfl (U_pick_f rfl rfl) rfl rfl ?_
    refine Re rfl ?_
    refine thenQ_n ?_
    refine Wcond rfl rfl (fun h => nomatch h) (fun _ => ?_)
    refine W_skip rfl ?_
    refine thenQ_n ?_
    refine W_reg rfl ?_
    refine Rv rfl rfl rfl (U_fieldAddr rfl) rfl rfl ?_
    refine Rv rfl rfl rfl (U_load1 rfl rfl rfl) rfl rfl ?_
    refine Rv rfl rfl rfl (U_move rfl) rfl rfl ?_
    refine Rv rfl rfl rfl (U_buildSliceF (by rfl) (by decide) rfl rfl rfl) rfl rfl ?_
    refine Ra rfl rfl rfl (U_appO (b := 1) (m := 0) (cs' := (D ++ [rnsK H (inL' ls[i] H) Z]).map boxesL) (n' := (D ++ [rnsK H (inL' ls[i] H) Z]).length) rfl rfl (by simp) rfl (map_len1 _) rfl rfl (by omega) (appM _ _) (len1 _ _)) rfl rfl rfl ?_
    refine Rv rfl rfl rfl (U_fieldAddr rfl) rfl rfl ?_
    refine Rn rfl rfl rfl (U_store rfl rfl rfl rfl rfl (Nat.le_of_ble_eq_true rfl) rfl rfl) rfl ?_
    refine Re rfl ?_
    refine blkQ_n ?_
    refine thenQ_n ?_
    refine W_reg rfl ?_
    refine Rv rfl rfl rfl (U_move rfl) rfl rfl ?_
    refine Rv rfl rfl rfl (U_add rfl rfl (w64e (m := ((i + 1 : Nat) : Int)) (by omega) (by omega) (by omega))) rfl rfl ?_
    refine Rv rfl rfl rfl (U_assign rfl) rfl rfl ?_
    refine Re rfl ?_
    refine thenQ_n ?_
    exact againTo (T' := [(1, .rop [i64 ((H : Nat) : Int), i64 ((Z : Nat) : Int), .ros (ls.map boxesL) ls.length c] 0), (3, .ptr 0 0), (4, i64 (((i + 1) : Nat) : Int))]) (H' := [(0, some (.cells [i64 ((H : Nat) : Int), i64 ((Z : Nat) : Int), .out 1 (D ++ [rnsK H (inL' ls[i] H) Z]).length 1] 24)), (1, outB ((D ++ [rnsK H (inL' ls[i] H) Z]).map boxesL) 46 (D ++ [rnsK H (inL' ls[i] H) Z]).length)]) (n := 2) (ls.length - (i + 1)) ⟨i + 1, D ++ [rnsK H (inL' ls[i] H) Z], (by omega), (by rw [rnL_snoc (by omega), ← hi0_1]), rfl, rfl⟩ (by omega) (mapN [0, 2]) ⟨eD rfl rfl, e_ rfl rfl, eD rfl rfl, trivial⟩ ⟨r_ rfl rfl rfl, rO (mapD (fun _ => rfl) _) rfl rfl, trivial⟩ rfl rfl rfl rfl (fun _ h => absurd h (Nat.not_lt_zero _))
  · have hDr : D = (rnL Z H ls) := by rw [hi0_1, List.take_of_length_le (by omega)]
    refine W_exit rfl ?_
    refine thenQ_x ?_
    refine thenQ_x ?_
    refine blkQ_x rfl ?_
    refine thenQ_n ?_
    refine W_seq rfl ?_
    refine W_seq rfl ?_
    subst hDr
    refine WfrO 1 ((rnL Z H ls).map boxesL) rfl (mapD (fun _ => rfl) _) (T' := [(1, .rop [i64 ((H : Nat) : Int), i64 ((Z : Nat) : Int), .ros (ls.map boxesL) ls.length c] 0), (3, .ptr 0 0)]) (H' := [(0, some (.cells [i64 ((H : Nat) : Int), i64 ((Z : Nat) : Int), .ros ((rnL Z H ls).map boxesL) ((rnL Z H ls).length) none] 24))]) ⟨fD rfl rfl, fS rfl rfl, trivial⟩ ⟨⟨rfl, .cells (.cons (.same rfl) (.cons (.same rfl) (.cons .out .nil)))⟩, trivial⟩ ?_
    refine WfrN 0 rfl rfl (T' := [(1, .rop [i64 ((H : Nat) : Int), i64 ((Z : Nat) : Int), .ros (ls.map boxesL) ls.length c] 0), (3, .rop [i64 ((H : Nat) : Int), i64 ((Z : Nat) : Int), .ros ((rnL Z H ls).map boxesL) ((rnL Z H ls).length) none] 0)]) (H' := []) ⟨⟨_, rfl, rfl⟩, ⟨_, rfl, rfl⟩, trivial⟩ trivial ?_
    refine W_reg rfl ?_
    refine Rv rfl rfl rfl (U_load3 rfl rfl rfl rfl rfl) rfl rfl ?_
    refine Rv rfl rfl rfl (U_call rfl rfl (chkSRG_p H Z (rnL Z H ls) none hc2 hv2) rfl) rfl rfl ?_
    refine Rv rfl rfl rfl (U_neq rfl rfl) rfl rfl ?_
    refine Re rfl ?_
    refine thenQ_n ?_
    refine WcondP rfl rfl (fun h => absurd h (by decide)) (fun _ => ?_)
    refine W_skip rfl ?_
    refine thenQ_n ?_
    refine W_seq rfl ?_
    refine W_reg rfl ?_
    refine Rv rfl rfl rfl (U_load3 rfl rfl rfl rfl rfl) rfl rfl ?_
    refine Rv rfl rfl rfl (U_call rfl rfl (flt_g H Z ls c hc hv) rfl) rfl rfl ?_
    refine Rv rfl rfl rfl (U_move rfl) rfl rfl ?_
    refine Rv rfl rfl rfl (U_extract rfl rfl) rfl rfl ?_
    refine Rv rfl rfl rfl (U_extract rfl rfl) rfl rfl ?_
    refine Rv rfl rfl rfl (U_extract rfl rfl) rfl rfl ?_
    refine Rv rfl rfl rfl (U_extract rfl rfl) rfl rfl ?_
    refine Rv rfl rfl rfl (U_assign rfl) rfl rfl ?_
    refine Rv rfl rfl rfl (U_assign rfl) rfl rfl ?_
    refine Rv rfl rfl rfl (U_assign rfl) rfl rfl ?_
    refine Rv rfl rfl rfl (U_assign rfl) rfl rfl ?_
    refine Re rfl ?_
    refine thenQ_n ?_
    refine W_seq rfl ?_
    refine W_reg rfl ?_
    refine Rv rfl rfl rfl (U_load3 rfl rfl rfl rfl rfl) rfl rfl ?_
    refine Rv rfl rfl rfl (U_call rfl rfl (fltX_p H Z (rnL Z H ls) none hc2 hv2 ls he hc) rfl) rfl rfl ?_
    refine Rv rfl rfl rfl (U_move rfl) rfl rfl ?_
    refine Rv rfl rfl rfl (U_extract rfl rfl) rfl rfl ?_
    refine Rv rfl rfl rfl (U_extract rfl rfl) rfl rfl ?_
    refine Rv rfl rfl rfl (U_extract rfl rfl) rfl rfl ?_
    refine Rv rfl rfl rfl (U_extract rfl rfl) rfl rfl ?_
    refine Rv rfl rfl rfl (U_assign rfl) rfl rfl ?_
    refine Rv rfl rfl rfl (U_assign rfl) rfl rfl ?_
    refine Rv rfl rfl rfl (U_assign rfl) rfl rfl ?_
    refine Rv rfl rfl rfl (U_assign rfl) rfl rfl ?_
    refine Re rfl ?_
    refine thenQ_n ?_
    refine W_seq rfl ?_
    refine W_reg rfl ?_
    refine Rv rfl rfl rfl (U_load3 rfl rfl rfl rfl rfl) rfl rfl ?_
    refine Rv rfl rfl rfl (U_call rfl rfl (tin_g H Z ls c hc hv) rfl) rfl rfl ?_
    refine Rv rfl rfl rfl (U_move rfl) rfl rfl ?_
    refine Rv rfl rfl rfl (U_extract rfl rfl) rfl rfl ?_
    refine Rv rfl rfl rfl (U_extract rfl rfl) rfl rfl ?_
    refine Rv rfl rfl rfl (U_assign rfl) rfl rfl ?_
    refine Rv rfl rfl rfl (U_assign rfl) rfl rfl ?_
    refine Re rfl ?_
    refine thenQ_n ?_
    refine W_seq rfl ?_
    refine W_reg rfl ?_
    refine Rv rfl rfl rfl (U_load3 rfl rfl rfl rfl rfl) rfl rfl ?_
    refine Rv rfl rfl rfl (U_call rfl rfl (tinX_p H Z (rnL Z H ls) none hc2 hv2 ls he) rfl) rfl rfl ?_
    refine Rv rfl rfl rfl (U_move rfl) rfl rfl ?_
    refine Rv rfl rfl rfl (U_extract rfl rfl) rfl rfl ?_
    refine Rv rfl rfl rfl (U_extract rfl rfl) rfl rfl ?_
    refine Rv rfl rfl rfl (U_assign rfl) rfl rfl ?_
    refine Rv rfl rfl rfl (U_assign rfl) rfl rfl ?_
    refine Re rfl ?_
    refine thenQ_n ?_
    refine W_seq rfl ?_
    refine W_seq rfl ?_
    refine W_reg rfl ?_
    refine Rv rfl rfl rfl (U_move rfl) rfl rfl ?_
    refine Rv rfl rfl rfl (U_move rfl) rfl rfl ?_
    refine Rv rfl rfl rfl (U_neqS rfl rfl) rfl rfl ?_
    refine Rv rfl rfl rfl (U_move rfl) rfl rfl ?_
    refine Rv rfl rfl rfl (U_move rfl) rfl rfl ?_
    refine Rv rfl rfl rfl (U_move rfl) rfl rfl ?_
    refine Rv rfl rfl rfl (U_neqS rfl rfl) rfl rfl ?_
    refine Rv rfl rfl rfl (U_pick_f rfl rfl) rfl rfl ?_
    refine Rv rfl rfl rfl (U_move rfl) rfl rfl ?_
    refine Rv rfl rfl rfl (U_move rfl) rfl rfl ?_
    refine Rv rfl rfl rfl (U_move rfl) rfl rfl ?_
    refine Rv rfl rfl rfl (U_neqS rfl rfl) rfl rfl ?_
    refine Rv rfl rfl rfl (U_pick_f rfl rfl) rfl rfl ?_
    refine Rv rfl rfl rfl (U_move rfl) rfl rfl ?_
    refine Rv rfl rfl rfl (U_move rfl) rfl rfl ?_
    refine Rv rfl rfl rfl (U_move rfl) rfl rfl ?_
    refine Rv rfl rfl rfl (U_neqS rfl rfl) rfl rfl ?_
    refine Rv rfl rfl rfl (U_pick_f rfl rfl) rfl rfl ?_
    refine Rv rfl rfl rfl (U_move rfl) rfl rfl ?_
    refine Rv rfl rfl rfl (U_move rfl) rfl rfl ?_
    refine Rv rfl rfl rfl (U_neq rfl rfl) rfl rfl ?_
    refine Rv rfl rfl rfl (U_pick_f rfl rfl) rfl rfl ?_
    refine Rv rfl rfl rfl (U_move rfl) rfl rfl ?_
    refine Rv rfl rfl rfl (U_move rfl) rfl rfl ?_
    refine Rv rfl rfl rfl (U_neq rfl rfl) rfl rfl ?_
    refine Rv rfl rfl rfl (U_pick_f rfl rfl) rfl rfl ?_
    refine Rv rfl rfl rfl (U_move rfl) rfl rfl ?_
    refine Rv rfl rfl rfl (U_move rfl) rfl rfl ?_
    refine Rv rfl rfl rfl (U_move rfl) rfl rfl ?_
    refine Rv rfl rfl rfl (U_call rfl rfl (intsS_p (tinQ (ntrK Z H ls ls.length)) none none (by first | assumption | omega | exact neiK_sz (by omega) | exact tinQ_sz (by omega) | exact vs_bl hv2 _ (List.getElem_mem _))) rfl) rfl rfl ?_
    refine Rv rfl rfl rfl (U_not rfl) rfl rfl ?_
    refine Rv rfl rfl rfl (U_pick_f rfl rfl) rfl rfl ?_
    refine Re rfl ?_
    refine thenQ_n ?_
    refine Wcond rfl rfl (fun h => nomatch h) (fun _ => ?_)
    refine W_skip rfl ?_
    refine thenQ_n ?_
    refine W_seq rfl ?_
    refine W_seq rfl ?_
    refine W_reg rfl ?_
    refine Rv rfl rfl rfl (U_assign rfl) rfl rfl ?_
    refine Re rfl ?_
    refine thenQ_n ?_
    refine W_block rfl ?_
    refine LoopTo (T' := [(1, .rop [i64 ((H : Nat) : Int), i64 ((Z : Nat) : Int), .ros (ls.map boxesL) ls.length c] 0), (3, .rop [i64 ((H : Nat) : Int), i64 ((Z : Nat) : Int), .ros ((rnL Z H ls).map boxesL) ((rnL Z H ls).length) none] 0), (19, i64 ((0 : Nat) : Int))]) (H' := []) (n := 0) rfl (fun mz_ qz_ => ∃ (k : Nat), k ≤ ls.length ∧ mz_ = ls.length - k ∧ qz_ = ⟨[(1, .rop [i64 ((H : Nat) : Int), i64 ((Z : Nat) : Int), .ros (ls.map boxesL) ls.length c] 0), (3, .rop [i64 ((H : Nat) : Int), i64 ((Z : Nat) : Int), .ros ((rnL Z H ls).map boxesL) ((rnL Z H ls).length) none] 0), (19, i64 ((k : Nat) : Int))], [], 0, []⟩) ⟨0, (by omega), rfl, rfl⟩ id ⟨eD rfl rfl, eD rfl rfl, eD rfl rfl, trivial⟩ trivial rfl rfl rfl rfl (fun _ _ => rfl) ?_
    rintro _ _ ⟨k, hi1_0, rfl, rfl⟩
    refine W_seq rfl ?_
    refine W_seq rfl ?_
    refine W_reg rfl ?_
    refine Rv rfl rfl rfl (U_move rfl) rfl rfl ?_
    refine Rv rfl rfl rfl (U_fieldAddrR rfl) rfl rfl ?_
    refine Rv rfl rfl rfl (U_load1 rfl rfl rfl) rfl rfl ?_
    refine Rv rfl rfl rfl (U_lenOf rfl len_ros) rfl rfl ?_
    refine Rv rfl rfl rfl (U_lss rfl rfl) rfl rfl ?_
    refine Re rfl ?_
    refine thenQ_n ?_
    refine WcondP rfl rfl (fun hc5 => ?_) (fun hc5 => ?_)
    · refine W_skip rfl ?_
      refine thenQ_n ?_
      refine W_seq rfl ?_
      refine W_block rfl ?_
      refine W_seq rfl ?_
      refine W_reg rfl ?_
      refine Rv rfl rfl rfl (U_load3 rfl rfl rfl rfl rfl) rfl rfl ?_
      refine Rv rfl rfl rfl (U_move rfl) rfl rfl ?_
      refine Rv rfl rfl rfl (U_call rfl rfl (siz_g H Z ls c hc hv k (by omega)) rfl) rfl rfl ?_
      refine Rv rfl rfl rfl (U_move rfl) rfl rfl ?_
      refine Rv rfl rfl rfl (U_extract rfl rfl) rfl rfl ?_
      refine Rv rfl rfl rfl (U_extract rfl rfl) rfl rfl ?_
      refine Rv rfl rfl rfl (U_assign rfl) rfl rfl ?_
      refine Rv rfl rfl rfl (U_assign rfl) rfl rfl ?_
      refine Re rfl ?_
      refine thenQ_n ?_
      refine W_seq rfl ?_
      refine W_reg rfl ?_
      refine Rv rfl rfl rfl (U_load3 rfl rfl rfl rfl rfl) rfl rfl ?_
      refine Rv rfl rfl rfl (U_move rfl) rfl rfl ?_
      refine Rv rfl rfl rfl (U_call rfl rfl (sizX_p H Z (rnL Z H ls) none hc2 hv2 ls he k (by rw [rnL_len]; omega) (by omega)) rfl) rfl rfl ?_
      refine Rv rfl rfl rfl (U_move rfl) rfl rfl ?_
      refine Rv rfl rfl rfl (U_extract rfl rfl) rfl rfl ?_
      refine Rv rfl rfl rfl (U_extract rfl rfl) rfl rfl ?_
      refine Rv rfl rfl rfl (U_assign rfl) rfl rfl ?_
      refine Rv rfl rfl rfl (U_assign rfl) rfl rfl ?_
      refine Re rfl ?_
      refine thenQ_n ?_
      refine W_seq rfl ?_
      refine W_reg rfl ?_
      refine Rv rfl rfl rfl (U_load3 rfl rfl rfl rfl rfl) rfl rfl ?_
      refine Rv rfl rfl rfl (U_move rfl) rfl rfl ?_
      refine Rv rfl rfl rfl (U_call rfl rfl (pie_g H Z ls c hc hv k (by omega)) rfl) rfl rfl ?_
      refine Rv rfl rfl rfl (U_move rfl) rfl rfl ?_
      refine Rv rfl rfl rfl (U_extract rfl rfl) rfl rfl ?_
      refine Rv rfl rfl rfl (U_extract rfl rfl) rfl rfl ?_
      refine Rv rfl rfl rfl (U_assign rfl) rfl rfl ?_
      refine Rv rfl rfl rfl (U_assign rfl) rfl rfl ?_
      refine Re rfl ?_
      refine thenQ_n ?_
      refine W_seq rfl ?_
      refine W_reg rfl ?_
      refine Rv rfl rfl rfl (U_load3 rfl rfl rfl rfl rfl) rfl rfl ?_
      refine Rv rfl rfl rfl (U_move rfl) rfl rfl ?_
      refine Rv rfl rfl rfl (U_call rfl rfl (pieX_p H Z (rnL Z H ls) none hc2 hv2 ls he k (by rw [rnL_len]; omega) (by omega)) rfl) rfl rfl ?_
      refine Rv rfl rfl rfl (U_move rfl) rfl rfl ?_
      refine Rv rfl rfl rfl (U_extract rfl rfl) rfl rfl ?_
      refine Rv rfl rfl rfl (U_extract rfl rfl) rfl rfl ?_
      refine Rv rfl rfl rfl (U_assign rfl) rfl rfl ?_
      refine Rv rfl rfl rfl (U_assign rfl) rfl rfl ?_
      refine Re rfl ?_
      refine thenQ_n ?_
      refine W_seq rfl ?_
      refine W_reg rfl ?_
      refine Rv rfl rfl rfl (U_load3 rfl rfl rfl rfl rfl) rfl rfl ?_
      refine Rv rfl rfl rfl (U_move rfl) rfl rfl ?_
      refine Rv rfl rfl rfl (U_call rfl rfl (nei_g H Z ls c hc hv k (by omega)) rfl) rfl rfl ?_
      refine Rv rfl rfl rfl (U_move rfl) rfl rfl ?_
      refine Rv rfl rfl rfl (U_extract rfl rfl) rfl rfl ?_
      refine Rv rfl rfl rfl (U_extract rfl rfl) rfl rfl ?_
      refine Rv rfl rfl rfl (U_assign rfl) rfl rfl ?_
      refine Rv rfl rfl rfl (U_assign rfl) rfl rfl ?_
      refine Re rfl ?_
      refine thenQ_n ?_
      refine W_seq rfl ?_
      refine W_reg rfl ?_
      refine Rv rfl rfl rfl (U_load3 rfl rfl rfl rfl rfl) rfl rfl ?_
      refine Rv rfl rfl rfl (U_move rfl) rfl rfl ?_
      refine Rv rfl rfl rfl (U_call rfl rfl (neiX_p H Z (rnL Z H ls) none hc2 hv2 ls he k (by rw [rnL_len]; omega)) rfl) rfl rfl ?_
      refine Rv rfl rfl rfl (U_move rfl) rfl rfl ?_
      refine Rv rfl rfl rfl (U_extract rfl rfl) rfl rfl ?_
      refine Rv rfl rfl rfl (U_extract rfl rfl) rfl rfl ?_
      refine Rv rfl rfl rfl (U_assign rfl) rfl rfl ?_
      refine Rv rfl rfl rfl (U_assign rfl) rfl rfl ?_
      refine Re rfl ?_
      refine thenQ_n ?_
      refine W_seq rfl ?_
      refine W_reg rfl ?_
      refine Rv rfl rfl rfl (U_load3 rfl rfl rfl rfl rfl) rfl rfl ?_
      refine Rv rfl rfl rfl (U_move rfl) rfl rfl ?_
      refine Rv rfl rfl rfl (U_call rfl rfl (runX_p H Z ls none hc2 hv2 hhi k (by rw [rnL_len]; omega)) rfl) rfl rfl ?_
      refine Rv rfl rfl rfl (U_move rfl) rfl rfl ?_
      refine Rv rfl rfl rfl (U_extract rfl rfl) rfl rfl ?_
      refine Rv rfl rfl rfl (U_extract rfl rfl) rfl rfl ?_
      refine Rv rfl rfl rfl (U_assign rfl) rfl rfl ?_
      refine Rv rfl rfl rfl (U_assign rfl) rfl rfl ?_
      refine Re rfl ?_
      refine thenQ_n ?_
      refine W_seq rfl ?_
      refine W_reg rfl ?_
      refine Rv rfl rfl rfl (U_move rfl) rfl rfl ?_
      refine Rv rfl rfl rfl (U_neq rfl rfl) rfl rfl ?_
      refine Rv rfl rfl rfl (U_move rfl) rfl rfl ?_
      refine Rv rfl rfl rfl (U_move rfl) rfl rfl ?_
      refine Rv rfl rfl rfl (U_neq rfl rfl) rfl rfl ?_
      refine Rv rfl rfl rfl (U_pick_f rfl rfl) rfl rfl ?_
      refine Rv rfl rfl rfl (U_move rfl) rfl rfl ?_
      refine Rv rfl rfl rfl (U_move rfl) rfl rfl ?_
      refine Rv rfl rfl rfl (U_move rfl) rfl rfl ?_
      refine Rv rfl rfl rfl (U_neqS rfl rfl) rfl rfl ?_
      refine Rv rfl rfl rfl (U_pick_f rfl rfl) rfl rfl ?_
      refine Rv rfl rfl rfl (U_move rfl) rfl rfl ?_
      refine Rv rfl rfl rfl (U_move rfl) rfl rfl ?_
      refine Rv rfl rfl rfl (U_neq rfl rfl) rfl rfl ?_
      refine Rv rfl rfl rfl (U_pick_f rfl rfl) rfl rfl ?_
      refine Rv rfl rfl rfl (U_move rfl) rfl rfl ?_
      refine Rv rfl rfl rfl (U_move rfl) rfl rfl ?_
      refine Rv rfl rfl rfl (U_neq rfl rfl) rfl rfl ?_
      refine Rv rfl rfl rfl (U_pick_f rfl rfl) rfl rfl ?_
      refine Rv rfl rfl rfl (U_move rfl) rfl rfl ?_
      refine Rv rfl rfl rfl (U_move rfl) rfl rfl ?_
      refine Rv rfl rfl rfl (U_move rfl) rfl rfl ?_
      refine Rv rfl rfl rfl (U_neqS rfl rfl) rfl rfl ?_
      refine Rv rfl rfl rfl (U_pick_f rfl rfl) rfl rfl ?_
      refine Rv rfl rfl rfl (U_move rfl) rfl rfl ?_
      refine Rv rfl rfl rfl (U_move rfl) rfl rfl ?_
      refine Rv rfl rfl rfl (U_neq rfl rfl) rfl rfl ?_
      refine Rv rfl rfl rfl (U_pick_f rfl rfl) rfl rfl ?_
      refine Rv rfl rfl rfl (U_move rfl) rfl rfl ?_
      refine Rv rfl rfl rfl (U_move rfl) rfl rfl ?_
      refine Rv rfl rfl rfl (U_neq rfl rfl) rfl rfl ?_
      refine Rv rfl rfl rfl (U_pick_f rfl rfl) rfl rfl ?_
      refine Rv rfl rfl rfl (U_move rfl) rfl rfl ?_
      refine Rv rfl rfl rfl (U_move rfl) rfl rfl ?_
      refine Rv rfl rfl rfl (U_move rfl) rfl rfl ?_
      refine Rv rfl rfl rfl (U_call rfl rfl (intsS_p (neiK Z H ls k ls.length) none none (by first | assumption | omega | exact neiK_sz (by omega) | exact tinQ_sz (by omega) | exact vs_bl hv2 _ (List.getElem_mem _))) rfl) rfl rfl ?_
      refine Rv rfl rfl rfl (U_not rfl) rfl rfl ?_
      refine Rv rfl rfl rfl (U_pick_f rfl rfl) rfl rfl ?_
      refine Rv rfl rfl rfl (U_move rfl) rfl rfl ?_
      refine Rv rfl rfl rfl (U_move rfl) rfl rfl ?_
      refine Rv rfl rfl rfl (U_neq rfl rfl) rfl rfl ?_
      refine Rv rfl rfl rfl (U_pick_f rfl rfl) rfl rfl ?_
      refine Rv rfl rfl rfl (U_move rfl) rfl rfl ?_
      refine Rv rfl rfl rfl (U_move rfl) rfl rfl ?_
      refine Rv rfl rfl rfl (U_fieldAddrR rfl) rfl rfl ?_
      refine Rv rfl rfl rfl (U_load1 rfl rfl rfl) rfl rfl ?_
      refine Rv rfl rfl rfl (U_move rfl) rfl rfl ?_
      have hx1 : k < (rnL Z H ls).length := by omega
      refine Rv rfl rfl rfl (U_indexR (j := k) rfl rfl rfl hx1) rfl rfl ?_
      refine Rv rfl rfl rfl (U_load1 rfl rfl (getM hx1)) rfl rfl ?_
      refine Rv rfl rfl rfl (U_call rfl rfl (samBS_p ((rnL Z H ls)[k]) none none (by first | assumption | omega | exact neiK_sz (by omega) | exact tinQ_sz (by omega) | exact vs_bl hv2 _ (List.getElem_mem _))) rfl) rfl rfl ?_
      refine Rv rfl rfl rfl (U_not rfl) rfl rfl ?_
      refine Rv rfl rfl rfl (U_pick_f rfl rfl) rfl rfl ?_
      refine Re rfl ?_
      refine thenQ_n ?_
      refine Wcond rfl rfl (fun h => nomatch h) (fun _ => ?_)
      refine W_skip rfl ?_
      refine blkQ_n ?_
      refine thenQ_n ?_
      refine W_reg rfl ?_
      refine Rv rfl rfl rfl (U_move rfl) rfl rfl ?_
      refine Rv rfl rfl rfl (U_add rfl rfl (w64e (m := ((k + 1 : Nat) : Int)) (by omega) (by omega) (by omega))) rfl rfl ?_
      refine Rv rfl rfl rfl (U_assign rfl) rfl rfl ?_
      refine Re rfl ?_
      refine thenQ_n ?_
      exact againTo (T' := [(1, .rop [i64 ((H : Nat) : Int), i64 ((Z : Nat) : Int), .ros (ls.map boxesL) ls.length c] 0), (3, .rop [i64 ((H : Nat) : Int), i64 ((Z : Nat) : Int), .ros ((rnL Z H ls).map boxesL) ((rnL Z H ls).length) none] 0), (19, i64 (((k + 1) : Nat) : Int))]) (H' := []) (n := 0) (ls.length - (k + 1)) ⟨k + 1, (by omega), rfl, rfl⟩ (by omega) id ⟨eD rfl rfl, eD rfl rfl, eD rfl rfl, trivial⟩ trivial rfl rfl rfl rfl (fun _ _ => rfl)
    · refine W_exit rfl ?_
      refine thenQ_x ?_
      refine thenQ_x ?_
      refine blkQ_x rfl ?_
      refine thenQ_n ?_
      refine W_seq rfl ?_
      refine W_reg rfl ?_
      refine Rv rfl rfl rfl (U_call rfl rfl (works_p) rfl) rfl rfl ?_
      refine Rv rfl rfl rfl (U_assign rfl) rfl rfl ?_
      refine Re rfl ?_
      refine thenQ_n ?_
      refine W_ret rfl ?_
      exact retL (rlT rfl rl0) rfl rfl
theorem borderRunsF_p (s : Sk) (c : Option Nat) (hf : (!grt s && decide (chkS s = 0)) = false)  : Pure Try.prog 11 [.agg [i64 s.h, i64 s.z, landsA s.ls c]] (.bool true) := by
  refine pure_of_body Try.func11 (c := body Try.f11) rfl (by simp [Try.ntmps11]) fun w0 Φ0 => ?_
  refine W_seq rfl ?_
  refine W_reg rfl ?_
  refine Rv rfl rfl rfl (U_boxF rfl rfl rfl) rfl rfl ?_
  refine Rv rfl rfl rfl (U_assign rfl) rfl rfl ?_
  refine Re rfl ?_
  refine thenQ_n ?_
  refine W_seq rfl ?_
  refine W_seq rfl ?_
  refine W_reg rfl ?_
  refine Rv rfl rfl rfl (U_load3 rfl rfl rfl rfl rfl) rfl rfl ?_
  refine Rv rfl rfl rfl (U_call rfl rfl (fineF_p s c hf) rfl) rfl rfl ?_
  refine Rv rfl rfl rfl (U_not rfl) rfl rfl ?_
  refine Re rfl ?_
  refine thenQ_n ?_
  refine Wcond rfl rfl (fun _ => ?_) (fun h => nomatch h)
  refine W_seq rfl ?_
  refine W_reg rfl ?_
  refine Rv rfl rfl rfl (U_call rfl rfl (works_p) rfl) rfl rfl ?_
  refine Rv rfl rfl rfl (U_assign rfl) rfl rfl ?_
  refine Re rfl ?_
  refine thenQ_n ?_
  refine W_ret rfl ?_
  refine thenQ_r ?_
  exact retL (rlT rfl rl0) rfl rfl
theorem borderRuns_p (s : Sk) (c : Option Nat)  : Pure Try.prog 11 [.agg [i64 s.h, i64 s.z, landsA s.ls c]] (.bool true) := by
  cases hf : (!grt s && decide (chkS s = 0)) with
  | false => exact borderRunsF_p s c hf 
  | true =>
    simp only [Bool.and_eq_true, Bool.not_eq_true', decide_eq_true_eq] at hf
    obtain ⟨H, Z, ls, rfl, hv⟩ := sk_ok hf.2
    have hc := hf.2
    have hg := hf.1
    exact borderRuns1_p H Z ls c hc hv hg
end Go.Proofs.Ythlolelbmhfdbaa
end
