import Derived.KernelRfl
import Derived.Test.YthlolelbmhfdbaaM5
set_option linter.all false
section
namespace Go.AE
open Go.RowKit
section
variable {ρ : Env} {Φ : Fz} {w : World}
end
section
variable {C : Ctx} {o : Oper} {T : AT} {H : AH} {nx nx' : Nat} {v : AV} {ups : AH}
end
section ops
variable {C : Ctx} {T : AT} {H : AH} {nx : Nat} {d : Option Tmp} {ty : TypeId} {pos : String} {after : Array Edge} {g : Option (Nat × Bool)}
section num
variable {x y : Operand} {k : IntKind} {a b c : Int} {t t' : TypeId}
theorem U_mul (hx : ev T x = some (.int k a)) (hy : ev T y = some (.int k b)) (hc : k.wrap (a * b) = c) : OpU C ⟨d, .binOp .mul t x y t', ty, pos, after, g⟩ T H nx (.int k c) [] nx :=
  binInt hx hy rfl (by simp) fun w => ⟨.int k c, by simp [binOp, Op.intArith, hc], fun _ _ => mk_int⟩
end num
end ops
end Go.AE
end

section
namespace Go.AE
open Go.RowKit
section
variable {C : Ctx} {ρ : Env} {Φ : Fz} {H : AH} {w : World}
end
section ops
variable {C : Ctx} {T : AT} {H : AH} {nx : Nat} {d : Option Tmp} {ty : TypeId} {pos : String} {after : Array Edge} {g : Option (Nat × Bool)}
theorem U_convInt {s t : TypeId} {x : Operand} {k k' : IntKind} {n m : Int} {dd : TypeDesc} [hT : TyInt C.P t k'] (hs : C.P.underlying s = some dd) (hx : ev T x = some (.int k n)) (hm : k'.wrap n = m) : OpU C ⟨d, .convert s t x, ty, pos, after, g⟩ T H nx (.int k' m) [] nx :=
  OpU.of_value (by intro c; simp) fun ρ Φ a w h2 _ => by
    refine ⟨.int k' m, ?_, mk_int⟩
    simp only [execOp, convert, con_int (ev_con h2 hx), Sem.run_bind, run_underlying hs, run_underlying hT.un, Result.andThen_ok, Conv.intToInt, hm, Sem.run_pure]
end ops
end Go.AE
end

section
namespace Go.AE
open Go.RowKit
theorem wr_i64 {n : Int} (h1 : -9223372036854775808 ≤ n) (h2 : n ≤ 9223372036854775807) : IntKind.i64.wrap n = n := w64 h1 h2
section
variable {P : Program} {T : AT} {H : AH} {nx : Nat}
end
section ops
variable {C : Ctx} {T : AT} {H : AH} {nx : Nat} {d : Option Tmp} {ty : TypeId} {pos : String} {after : Array Edge} {g : Option (Nat × Bool)}
end ops
end Go.AE
end

section
namespace Go.Proofs.Ythlolelbmhfdbaa
set_option maxRecDepth 20000
open Go.AE
theorem any_false {α : Type} {p : α → Bool} {l : List α} (h : ∀ j (hj : j < l.length), p l[j] = false) : l.any p = false := by
  rw [List.any_eq_false]; intro x hx; obtain ⟨j, hj, rfl⟩ := List.getElem_of_mem hx; rw [h j hj]; simp
end Go.Proofs.Ythlolelbmhfdbaa
end

section
namespace Go.Proofs.Ythlolelbmhfdbaa
set_option maxRecDepth 20000
open Go.AE
theorem any_f {α : Type} {p : α → Bool} {l : List α} (h : ∀ j (hj : j < l.length), p l[j] = false) : l.any p = false := any_false h
theorem bef_succ {α : Type} {p : α → Bool} {l : List α} {k : Nat} (h : ∀ j (hj : j < l.length), j < k → p l[j] = false) (hk : k < l.length) (hp : p l[k] = false) : ∀ j (hj : j < l.length), j < k + 1 → p l[j] = false := fun j hj h2 => by
  rcases Nat.lt_succ_iff_lt_or_eq.1 h2 with h2 | rfl
  · exact h j hj h2
  · exact hp
theorem isBR_p (b : Bx) (H Z : Int) (hH : 1 ≤ H ∧ H ≤ 48) (hZ : 1 ≤ Z ∧ Z ≤ 24) : Pure Try.prog 74 [bxA b, i64 H, i64 Z] (.bool (isB b H Z)) := by
  refine pure_of_body Try.func74 (c := body Try.f74) rfl (by simp [Try.ntmps74]) fun w0 Φ0 => ?_
  refine W_seq rfl ?_
  refine W_reg rfl ?_
  refine Rv rfl rfl rfl (U_boxF rfl rfl rfl) rfl rfl ?_
  refine Rv rfl rfl rfl (U_assign rfl) rfl rfl ?_
  refine Re rfl ?_
  refine thenQ_n ?_
  refine W_seq rfl ?_
  refine W_seq rfl ?_
  refine Wjoin ⟨[(2, i64 Z), (3, .rop [i64 b.fr, i64 b.wd, i64 b.lo, i64 b.hi] 0), (26, .bool ((decide (b.fr < 0)) || ((decide (H ≤ b.fr)) || ((decide (b.wd < 1)) || (decide (H < b.wd))))))], [], 0, []⟩ ?_ ?_
  · refine W_reg rfl ?_
    refine Rv rfl rfl rfl (U_fieldAddrR rfl) rfl rfl ?_
    refine Rv rfl rfl rfl (U_load1 rfl rfl rfl) rfl rfl ?_
    refine Rv rfl rfl rfl (U_lss rfl rfl) rfl rfl ?_
    refine Rv rfl rfl rfl (U_move rfl) rfl rfl ?_
    refine Rsplit (t := 10) rfl (fun hg1 => ?_) (fun hg1 => ?_)
    · rw [hg1]
      have hg1' : b.fr < 0 := of_decide_eq_true hg1
      refine Rs rfl rfl rfl rfl rfl ?_
      refine Rs rfl rfl rfl rfl rfl ?_
      refine Rs rfl rfl rfl rfl rfl ?_
      refine Rs rfl rfl rfl rfl rfl ?_
      refine Rv rfl rfl rfl (U_pick_t rfl rfl) rfl rfl ?_
      refine Rv rfl rfl rfl (U_move rfl) rfl rfl ?_
      refine Rs rfl rfl rfl rfl rfl ?_
      refine Rs rfl rfl rfl rfl rfl ?_
      refine Rs rfl rfl rfl rfl rfl ?_
      refine Rv rfl rfl rfl (U_pick_t rfl rfl) rfl rfl ?_
      refine Rv rfl rfl rfl (U_move rfl) rfl rfl ?_
      refine Rs rfl rfl rfl rfl rfl ?_
      refine Rs rfl rfl rfl rfl rfl ?_
      refine Rs rfl rfl rfl rfl rfl ?_
      refine Rs rfl rfl rfl rfl rfl ?_
      refine Rv rfl rfl rfl (U_pick_t rfl rfl) rfl rfl ?_
      refine Re rfl ?_
      exact joinTo id ⟨eD rfl rfl, eD rfl rfl, eD rfl rfl, trivial⟩ trivial rfl rfl rfl rfl (fun _ _ => rfl)
    · rw [hg1]
      have hg1' : ¬ (b.fr < 0) := of_decide_eq_false hg1
      refine Rv rfl rfl rfl (U_fieldAddrR rfl) rfl rfl ?_
      refine Rv rfl rfl rfl (U_load1 rfl rfl rfl) rfl rfl ?_
      refine Rv rfl rfl rfl (U_move rfl) rfl rfl ?_
      refine Rv rfl rfl rfl (U_geq rfl rfl) rfl rfl ?_
      refine Rv rfl rfl rfl (U_pick_f rfl rfl) rfl rfl ?_
      refine Rv rfl rfl rfl (U_move rfl) rfl rfl ?_
      refine Rsplit (t := 16) rfl (fun hg2 => ?_) (fun hg2 => ?_)
      · rw [hg2]
        have hg2' : H ≤ b.fr := of_decide_eq_true hg2
        refine Rs rfl rfl rfl rfl rfl ?_
        refine Rs rfl rfl rfl rfl rfl ?_
        refine Rs rfl rfl rfl rfl rfl ?_
        refine Rv rfl rfl rfl (U_pick_t rfl rfl) rfl rfl ?_
        refine Rv rfl rfl rfl (U_move rfl) rfl rfl ?_
        refine Rs rfl rfl rfl rfl rfl ?_
        refine Rs rfl rfl rfl rfl rfl ?_
        refine Rs rfl rfl rfl rfl rfl ?_
        refine Rs rfl rfl rfl rfl rfl ?_
        refine Rv rfl rfl rfl (U_pick_t rfl rfl) rfl rfl ?_
        refine Re rfl ?_
        exact joinTo id ⟨eD rfl rfl, eD rfl rfl, eD rfl rfl, trivial⟩ trivial rfl rfl rfl rfl (fun _ _ => rfl)
      · rw [hg2]
        have hg2' : ¬ (H ≤ b.fr) := of_decide_eq_false hg2
        refine Rv rfl rfl rfl (U_fieldAddrR rfl) rfl rfl ?_
        refine Rv rfl rfl rfl (U_load1 rfl rfl rfl) rfl rfl ?_
        refine Rv rfl rfl rfl (U_lss rfl rfl) rfl rfl ?_
        refine Rv rfl rfl rfl (U_pick_f rfl rfl) rfl rfl ?_
        refine Rv rfl rfl rfl (U_move rfl) rfl rfl ?_
        refine Rsplit (t := 21) rfl (fun hg3 => ?_) (fun hg3 => ?_)
        · rw [hg3]
          have hg3' : b.wd < 1 := of_decide_eq_true hg3
          refine Rs rfl rfl rfl rfl rfl ?_
          refine Rs rfl rfl rfl rfl rfl ?_
          refine Rs rfl rfl rfl rfl rfl ?_
          refine Rs rfl rfl rfl rfl rfl ?_
          refine Rv rfl rfl rfl (U_pick_t rfl rfl) rfl rfl ?_
          refine Re rfl ?_
          exact joinTo id ⟨eD rfl rfl, eD rfl rfl, eD rfl rfl, trivial⟩ trivial rfl rfl rfl rfl (fun _ _ => rfl)
        · rw [hg3]
          have hg3' : ¬ (b.wd < 1) := of_decide_eq_false hg3
          refine Rv rfl rfl rfl (U_fieldAddrR rfl) rfl rfl ?_
          refine Rv rfl rfl rfl (U_load1 rfl rfl rfl) rfl rfl ?_
          refine Rv rfl rfl rfl (U_move rfl) rfl rfl ?_
          refine Rv rfl rfl rfl (U_gtr rfl rfl) rfl rfl ?_
          refine Rv rfl rfl rfl (U_pick_f rfl rfl) rfl rfl ?_
          refine Re rfl ?_
          exact joinTo id ⟨eD rfl rfl, eD rfl rfl, eD rfl rfl, trivial⟩ trivial rfl rfl rfl rfl (fun _ _ => rfl)
  refine thenQ_n ?_
  refine Wcond rfl rfl (fun hc0 => ?_) (fun hc0 => ?_)
  · refine W_seq rfl ?_
    refine W_reg rfl ?_
    refine Rv rfl rfl rfl (U_assign rfl) rfl rfl ?_
    refine Re rfl ?_
    refine thenQ_n ?_
    refine W_ret rfl ?_
    refine thenQ_r ?_
    exact retL (rlT rfl rl0) (by first | rfl | (simp only [packA]; congr 1; symm; unfold isB; rw [inL1, inL1, inL1, inL1, Bool.eq_false_iff]; intro h; simp at h hc0; omega; first | done | rfl) | (simp only [packA]; congr 1; unfold isB; rw [inL1, inL1, inL1, inL1, Bool.eq_iff_iff]; simp at hc0 ⊢; omega; first | done | rfl)) rfl
  · have hc0' := Bool.eq_false_iff.1 hc0
    refine W_skip rfl ?_
    refine thenQ_n ?_
    refine W_seq rfl ?_
    refine Wjoin ⟨[(6, .bool ((decide (0 ≤ b.lo)) && ((decide (b.lo < b.hi)) && (decide (b.hi ≤ Z)))))], [], 0, []⟩ ?_ ?_
    · refine W_reg rfl ?_
      refine Rv rfl rfl rfl (U_fieldAddrR rfl) rfl rfl ?_
      refine Rv rfl rfl rfl (U_load1 rfl rfl rfl) rfl rfl ?_
      refine Rv rfl rfl rfl (U_geq rfl rfl) rfl rfl ?_
      refine Rv rfl rfl rfl (U_move rfl) rfl rfl ?_
      refine Rsplit (t := 30) rfl (fun hg4 => ?_) (fun hg4 => ?_)
      · rw [hg4]
        have hg4' : 0 ≤ b.lo := of_decide_eq_true hg4
        refine Rv rfl rfl rfl (U_fieldAddrR rfl) rfl rfl ?_
        refine Rv rfl rfl rfl (U_load1 rfl rfl rfl) rfl rfl ?_
        refine Rv rfl rfl rfl (U_fieldAddrR rfl) rfl rfl ?_
        refine Rv rfl rfl rfl (U_load1 rfl rfl rfl) rfl rfl ?_
        refine Rv rfl rfl rfl (U_lss rfl rfl) rfl rfl ?_
        refine Rv rfl rfl rfl (U_pick_t rfl rfl) rfl rfl ?_
        refine Rv rfl rfl rfl (U_move rfl) rfl rfl ?_
        refine Rsplit (t := 37) rfl (fun hg5 => ?_) (fun hg5 => ?_)
        · rw [hg5]
          have hg5' : b.lo < b.hi := of_decide_eq_true hg5
          refine Rv rfl rfl rfl (U_fieldAddrR rfl) rfl rfl ?_
          refine Rv rfl rfl rfl (U_load1 rfl rfl rfl) rfl rfl ?_
          refine Rv rfl rfl rfl (U_move rfl) rfl rfl ?_
          refine Rv rfl rfl rfl (U_leq rfl rfl) rfl rfl ?_
          refine Rv rfl rfl rfl (U_pick_t rfl rfl) rfl rfl ?_
          refine Rv rfl rfl rfl (U_assign rfl) rfl rfl ?_
          refine Re rfl ?_
          exact joinTo id ⟨eD rfl rfl, trivial⟩ trivial rfl rfl rfl rfl (fun _ _ => rfl)
        · rw [hg5]
          have hg5' : ¬ (b.lo < b.hi) := of_decide_eq_false hg5
          refine Rs rfl rfl rfl rfl rfl ?_
          refine Rs rfl rfl rfl rfl rfl ?_
          refine Rs rfl rfl rfl rfl rfl ?_
          refine Rs rfl rfl rfl rfl rfl ?_
          refine Rv rfl rfl rfl (U_pick_f rfl rfl) rfl rfl ?_
          refine Rv rfl rfl rfl (U_assign rfl) rfl rfl ?_
          refine Re rfl ?_
          exact joinTo id ⟨eD rfl rfl, trivial⟩ trivial rfl rfl rfl rfl (fun _ _ => rfl)
      · rw [hg4]
        have hg4' : ¬ (0 ≤ b.lo) := of_decide_eq_false hg4
        refine Rs rfl rfl rfl rfl rfl ?_
        refine Rs rfl rfl rfl rfl rfl ?_
        refine Rs rfl rfl rfl rfl rfl ?_
        refine Rs rfl rfl rfl rfl rfl ?_
        refine Rs rfl rfl rfl rfl rfl ?_
        refine Rv rfl rfl rfl (U_pick_f rfl rfl) rfl rfl ?_
        refine Rv rfl rfl rfl (U_move rfl) rfl rfl ?_
        refine Rs rfl rfl rfl rfl rfl ?_
        refine Rs rfl rfl rfl rfl rfl ?_
        refine Rs rfl rfl rfl rfl rfl ?_
        refine Rs rfl rfl rfl rfl rfl ?_
        refine Rv rfl rfl rfl (U_pick_f rfl rfl) rfl rfl ?_
        refine Rv rfl rfl rfl (U_assign rfl) rfl rfl ?_
        refine Re rfl ?_
        exact joinTo id ⟨eD rfl rfl, trivial⟩ trivial rfl rfl rfl rfl (fun _ _ => rfl)
    refine thenQ_n ?_
    refine W_ret rfl ?_
    exact retL (rlT rfl rl0) (by first | rfl | (simp only [packA]; congr 1; symm; unfold isB; rw [inL1, inL1, inL1, inL1, Bool.eq_false_iff]; intro h; simp at h hc0; omega; first | done | rfl) | (simp only [packA]; congr 1; unfold isB; rw [inL1, inL1, inL1, inL1, Bool.eq_iff_iff]; simp at hc0 ⊢; omega; first | done | rfl)) rfl
theorem chkSR_p (s : Sk) (c : Option Nat) (hl : s.ls.length ≤ 1000000) (hbl : ∀ l ∈ s.ls, l.length ≤ 1000000) : Pure Try.prog 23 [.agg [i64 s.h, i64 s.z, landsA s.ls c]] (i64 (chkS s)) := by
  refine pure_of_body Try.func23 (c := body Try.f23) rfl (by simp [Try.ntmps23]) fun w0 Φ0 => ?_
  refine W_seq rfl ?_
  refine W_reg rfl ?_
  refine Rv rfl rfl rfl (U_boxF rfl rfl rfl) rfl rfl ?_
  refine Rv rfl rfl rfl (U_assign rfl) rfl rfl ?_
  refine Re rfl ?_
  refine thenQ_n ?_
  refine W_seq rfl ?_
  refine W_seq rfl ?_
  refine Wjoin ⟨[(1, .rop [i64 s.h, i64 s.z, .ros (s.ls.map boxesL) s.ls.length c] 0), (23, .bool ((decide (s.h < 1)) || ((decide (48 < s.h)) || ((decide (s.z < 1)) || (decide (24 < s.z))))))], [], 0, []⟩ ?_ ?_
  · refine W_reg rfl ?_
    refine Rv rfl rfl rfl (U_fieldAddrR rfl) rfl rfl ?_
    refine Rv rfl rfl rfl (U_load1 rfl rfl rfl) rfl rfl ?_
    refine Rv rfl rfl rfl (U_lss rfl rfl) rfl rfl ?_
    refine Rv rfl rfl rfl (U_move rfl) rfl rfl ?_
    refine Rsplit (t := 9) rfl (fun hg1 => ?_) (fun hg1 => ?_)
    · rw [hg1]
      have hg1' : s.h < 1 := of_decide_eq_true hg1
      refine Rs rfl rfl rfl rfl rfl ?_
      refine Rs rfl rfl rfl rfl rfl ?_
      refine Rs rfl rfl rfl rfl rfl ?_
      refine Rv rfl rfl rfl (U_pick_t rfl rfl) rfl rfl ?_
      refine Rv rfl rfl rfl (U_move rfl) rfl rfl ?_
      refine Rs rfl rfl rfl rfl rfl ?_
      refine Rs rfl rfl rfl rfl rfl ?_
      refine Rs rfl rfl rfl rfl rfl ?_
      refine Rv rfl rfl rfl (U_pick_t rfl rfl) rfl rfl ?_
      refine Rv rfl rfl rfl (U_move rfl) rfl rfl ?_
      refine Rs rfl rfl rfl rfl rfl ?_
      refine Rs rfl rfl rfl rfl rfl ?_
      refine Rs rfl rfl rfl rfl rfl ?_
      refine Rv rfl rfl rfl (U_pick_t rfl rfl) rfl rfl ?_
      refine Re rfl ?_
      exact joinTo id ⟨eD rfl rfl, eD rfl rfl, trivial⟩ trivial rfl rfl rfl rfl (fun _ _ => rfl)
    · rw [hg1]
      have hg1' : ¬ (s.h < 1) := of_decide_eq_false hg1
      refine Rv rfl rfl rfl (U_fieldAddrR rfl) rfl rfl ?_
      refine Rv rfl rfl rfl (U_load1 rfl rfl rfl) rfl rfl ?_
      refine Rv rfl rfl rfl (U_gtr rfl rfl) rfl rfl ?_
      refine Rv rfl rfl rfl (U_pick_f rfl rfl) rfl rfl ?_
      refine Rv rfl rfl rfl (U_move rfl) rfl rfl ?_
      refine Rsplit (t := 14) rfl (fun hg2 => ?_) (fun hg2 => ?_)
      · rw [hg2]
        have hg2' : 48 < s.h := of_decide_eq_true hg2
        refine Rs rfl rfl rfl rfl rfl ?_
        refine Rs rfl rfl rfl rfl rfl ?_
        refine Rs rfl rfl rfl rfl rfl ?_
        refine Rv rfl rfl rfl (U_pick_t rfl rfl) rfl rfl ?_
        refine Rv rfl rfl rfl (U_move rfl) rfl rfl ?_
        refine Rs rfl rfl rfl rfl rfl ?_
        refine Rs rfl rfl rfl rfl rfl ?_
        refine Rs rfl rfl rfl rfl rfl ?_
        refine Rv rfl rfl rfl (U_pick_t rfl rfl) rfl rfl ?_
        refine Re rfl ?_
        exact joinTo id ⟨eD rfl rfl, eD rfl rfl, trivial⟩ trivial rfl rfl rfl rfl (fun _ _ => rfl)
      · rw [hg2]
        have hg2' : ¬ (48 < s.h) := of_decide_eq_false hg2
        refine Rv rfl rfl rfl (U_fieldAddrR rfl) rfl rfl ?_
        refine Rv rfl rfl rfl (U_load1 rfl rfl rfl) rfl rfl ?_
        refine Rv rfl rfl rfl (U_lss rfl rfl) rfl rfl ?_
        refine Rv rfl rfl rfl (U_pick_f rfl rfl) rfl rfl ?_
        refine Rv rfl rfl rfl (U_move rfl) rfl rfl ?_
        refine Rsplit (t := 19) rfl (fun hg3 => ?_) (fun hg3 => ?_)
        · rw [hg3]
          have hg3' : s.z < 1 := of_decide_eq_true hg3
          refine Rs rfl rfl rfl rfl rfl ?_
          refine Rs rfl rfl rfl rfl rfl ?_
          refine Rs rfl rfl rfl rfl rfl ?_
          refine Rv rfl rfl rfl (U_pick_t rfl rfl) rfl rfl ?_
          refine Re rfl ?_
          exact joinTo id ⟨eD rfl rfl, eD rfl rfl, trivial⟩ trivial rfl rfl rfl rfl (fun _ _ => rfl)
        · rw [hg3]
          have hg3' : ¬ (s.z < 1) := of_decide_eq_false hg3
          refine Rv rfl rfl rfl (U_fieldAddrR rfl) rfl rfl ?_
          refine Rv rfl rfl rfl (U_load1 rfl rfl rfl) rfl rfl ?_
          refine Rv rfl rfl rfl (U_gtr rfl rfl) rfl rfl ?_
          refine Rv rfl rfl rfl (U_pick_f rfl rfl) rfl rfl ?_
          refine Re rfl ?_
          exact joinTo id ⟨eD rfl rfl, eD rfl rfl, trivial⟩ trivial rfl rfl rfl rfl (fun _ _ => rfl)
  refine thenQ_n ?_
  refine Wcond rfl rfl (fun hc0 => ?_) (fun hc0 => ?_)
  · have hce : chkS s = 3 := by rw [chkS, if_pos (by rw [inL1, inL1]; simp at hc0 ⊢; omega)]
    refine W_seq rfl ?_
    refine W_reg rfl ?_
    refine Rv rfl rfl rfl (U_assign rfl) rfl rfl ?_
    refine Re rfl ?_
    refine thenQ_n ?_
    refine W_ret rfl ?_
    refine thenQ_r ?_
    exact retL (rlT rfl rl0) (by first | rfl | (simp only [packA]; rw [hce]; first | done | rfl)) rfl
  · have hc0' := Bool.eq_false_iff.1 hc0
    have hr : (1 ≤ s.h ∧ s.h ≤ 48) ∧ 1 ≤ s.z ∧ s.z ≤ 24 := by simp at hc0; omega
    obtain ⟨hh, hz⟩ := hr
    refine W_skip rfl ?_
    refine thenQ_n ?_
    refine W_seq rfl ?_
    refine W_seq rfl ?_
    refine W_reg rfl ?_
    refine Rv rfl rfl rfl (U_fieldAddrR rfl) rfl rfl ?_
    refine Rv rfl rfl rfl (U_load1 rfl rfl rfl) rfl rfl ?_
    refine Rv rfl rfl rfl (U_lenOf rfl len_ros) rfl rfl ?_
    refine Rv rfl rfl rfl (U_gtr rfl rfl) rfl rfl ?_
    refine Re rfl ?_
    refine thenQ_n ?_
    refine WcondP rfl rfl (fun hc1 => ?_) (fun hc1 => ?_)
    · have hce : chkS s = 6 := by rw [chkS, if_neg (by rw [inL1, inL1]; simp; omega), if_pos (by simp; omega)]
      refine W_seq rfl ?_
      refine W_reg rfl ?_
      refine Rv rfl rfl rfl (U_assign rfl) rfl rfl ?_
      refine Re rfl ?_
      refine thenQ_n ?_
      refine W_ret rfl ?_
      refine thenQ_r ?_
      exact retL (rlT rfl rl0) (by first | rfl | (simp only [packA]; rw [hce]; first | done | rfl)) rfl
    · refine W_skip rfl ?_
      refine thenQ_n ?_
      refine W_seq rfl ?_
      refine W_seq rfl ?_
      refine W_reg rfl ?_
      refine Rv rfl rfl rfl (U_assign rfl) rfl rfl ?_
      refine Re rfl ?_
      refine thenQ_n ?_
      refine W_block rfl ?_
      refine LoopTo (T' := [(1, .rop [i64 s.h, i64 s.z, .ros (s.ls.map boxesL) s.ls.length c] 0), (3, i64 ((0 : Nat) : Int))]) (H' := []) (n := 0) rfl (fun mz_ qz_ => ∃ (k : Nat), k ≤ s.ls.length ∧ (∀ j (hj : j < s.ls.length), j < k → decide ((600 : Int) < ((s.ls[j].length : Nat) : Int)) = false) ∧ mz_ = s.ls.length - k ∧ qz_ = ⟨[(1, .rop [i64 s.h, i64 s.z, .ros (s.ls.map boxesL) s.ls.length c] 0), (3, i64 ((k : Nat) : Int))], [], 0, []⟩) ⟨0, (by omega), (fun j hj h => absurd h (Nat.not_lt_zero _)), rfl, rfl⟩ id ⟨eD rfl rfl, eD rfl rfl, trivial⟩ trivial rfl rfl rfl rfl (fun _ _ => rfl) ?_
      rintro _ _ ⟨k, hi0_0, hi0_1, rfl, rfl⟩
      refine W_seq rfl ?_
      refine W_seq rfl ?_
      refine W_reg rfl ?_
      refine Rv rfl rfl rfl (U_move rfl) rfl rfl ?_
      refine Rv rfl rfl rfl (U_fieldAddrR rfl) rfl rfl ?_
      refine Rv rfl rfl rfl (U_load1 rfl rfl rfl) rfl rfl ?_
      refine Rv rfl rfl rfl (U_lenOf rfl len_ros) rfl rfl ?_
      refine Rv rfl rfl rfl (U_lss rfl rfl) rfl rfl ?_
      refine Re rfl ?_
      refine thenQ_n ?_
      refine WcondP rfl rfl (fun hc2 => ?_) (fun hc2 => ?_)
      · have hck : k < s.ls.length := by omega
        refine W_skip rfl ?_
        refine thenQ_n ?_
        refine W_seq rfl ?_
        refine W_block rfl ?_
        refine W_seq rfl ?_
        refine W_reg rfl ?_
        refine Rv rfl rfl rfl (U_fieldAddrR rfl) rfl rfl ?_
        refine Rv rfl rfl rfl (U_load1 rfl rfl rfl) rfl rfl ?_
        refine Rv rfl rfl rfl (U_move rfl) rfl rfl ?_
        have hx4 : k < s.ls.length := by omega
        refine Rv rfl rfl rfl (U_indexR (j := k) rfl rfl rfl hx4) rfl rfl ?_
        refine Rv rfl rfl rfl (U_load1 rfl rfl (getM hx4)) rfl rfl ?_
        refine Rv rfl rfl rfl (U_lenOf rfl len_ros) rfl rfl ?_
        refine Rv rfl rfl rfl (U_gtr rfl rfl) rfl rfl ?_
        refine Re rfl ?_
        refine thenQ_n ?_
        refine WcondP rfl rfl (fun hc3 => ?_) (fun hc3 => ?_)
        · have h600 : (s.ls.any fun l => decide ((600 : Int) < ((l.length : Nat) : Int))) = true := any_true hck (by simpa using hc3)
          have hce : chkS s = 6 := by rw [chkS, if_neg (by rw [inL1, inL1]; simp; omega), if_pos (by rw [h600]; simp)]
          refine W_seq rfl ?_
          refine W_reg rfl ?_
          refine Rv rfl rfl rfl (U_assign rfl) rfl rfl ?_
          refine Re rfl ?_
          refine thenQ_n ?_
          refine W_ret rfl ?_
          refine blkQ_r ?_
          refine thenQ_r ?_
          refine thenQ_r ?_
          refine blkQ_r ?_
          refine thenQ_r ?_
          exact retL (rlT rfl rl0) (by first | rfl | (simp only [packA]; rw [hce]; first | done | rfl)) rfl
        · refine W_skip rfl ?_
          refine blkQ_n ?_
          refine thenQ_n ?_
          refine W_reg rfl ?_
          refine Rv rfl rfl rfl (U_move rfl) rfl rfl ?_
          refine Rv rfl rfl rfl (U_add rfl rfl (w64e (m := ((k + 1 : Nat) : Int)) (by omega) (by omega) (by omega))) rfl rfl ?_
          refine Rv rfl rfl rfl (U_assign rfl) rfl rfl ?_
          refine Re rfl ?_
          refine thenQ_n ?_
          exact againTo (T' := [(1, .rop [i64 s.h, i64 s.z, .ros (s.ls.map boxesL) s.ls.length c] 0), (3, i64 (((k + 1) : Nat) : Int))]) (H' := []) (n := 0) (s.ls.length - (k + 1)) ⟨k + 1, (by omega), (bef_succ (p := fun l : List Bx => decide ((600 : Int) < ((l.length : Nat) : Int))) hi0_1 hck (by simp; omega)), rfl, rfl⟩ (by omega) id ⟨eD rfl rfl, eD rfl rfl, trivial⟩ trivial rfl rfl rfl rfl (fun _ _ => rfl)
      · have h600 : (s.ls.any fun l => decide ((600 : Int) < ((l.length : Nat) : Int))) = false := any_f fun j hj => hi0_1 j hj (by omega)
        refine W_exit rfl ?_
        refine thenQ_x ?_
        refine thenQ_x ?_
        refine blkQ_x rfl ?_
        refine thenQ_n ?_
        refine W_seq rfl ?_
        refine W_seq rfl ?_
        refine W_reg rfl ?_
        refine Rv rfl rfl rfl (U_assign rfl) rfl rfl ?_
        refine Re rfl ?_
        refine thenQ_n ?_
        refine W_block rfl ?_
        refine LoopTo (T' := [(1, .rop [i64 s.h, i64 s.z, .ros (s.ls.map boxesL) s.ls.length c] 0), (4, i64 ((0 : Nat) : Int))]) (H' := []) (n := 0) rfl (fun mz_ qz_ => ∃ (m : Nat), m ≤ s.ls.length ∧ (∀ j (hj : j < s.ls.length), j < m → (s.ls[j].any fun b => !isB b s.h s.z) = false) ∧ mz_ = s.ls.length - m ∧ qz_ = ⟨[(1, .rop [i64 s.h, i64 s.z, .ros (s.ls.map boxesL) s.ls.length c] 0), (4, i64 ((m : Nat) : Int))], [], 0, []⟩) ⟨0, (by omega), (fun j hj h => absurd h (Nat.not_lt_zero _)), rfl, rfl⟩ id ⟨eD rfl rfl, eD rfl rfl, trivial⟩ trivial rfl rfl rfl rfl (fun _ _ => rfl) ?_
        rintro _ _ ⟨m, hi1_0, hi1_1, rfl, rfl⟩
        refine W_seq rfl ?_
        refine W_seq rfl ?_
        refine W_reg rfl ?_
        refine Rv rfl rfl rfl (U_move rfl) rfl rfl ?_
        refine Rv rfl rfl rfl (U_fieldAddrR rfl) rfl rfl ?_
        refine Rv rfl rfl rfl (U_load1 rfl rfl rfl) rfl rfl ?_
        refine Rv rfl rfl rfl (U_lenOf rfl len_ros) rfl rfl ?_
        refine Rv rfl rfl rfl (U_lss rfl rfl) rfl rfl ?_
        refine Re rfl ?_
        refine thenQ_n ?_
        refine WcondP rfl rfl (fun hc4 => ?_) (fun hc4 => ?_)
        · have hcm : m < s.ls.length := by omega
          have hbm := hbl _ (List.getElem_mem hcm)
          refine W_skip rfl ?_
          refine thenQ_n ?_
          refine W_seq rfl ?_
          refine W_block rfl ?_
          refine W_seq rfl ?_
          refine W_reg rfl ?_
          refine Rv rfl rfl rfl (U_assign rfl) rfl rfl ?_
          refine Re rfl ?_
          refine thenQ_n ?_
          refine W_block rfl ?_
          refine LoopTo (T' := [(1, .rop [i64 s.h, i64 s.z, .ros (s.ls.map boxesL) s.ls.length c] 0), (4, i64 ((m : Nat) : Int)), (5, i64 ((0 : Nat) : Int))]) (H' := []) (n := 0) rfl (fun mz_ qz_ => ∃ (i : Nat), i ≤ s.ls[m].length ∧ (∀ j (hj : j < s.ls[m].length), j < i → (!isB s.ls[m][j] s.h s.z) = false) ∧ mz_ = s.ls[m].length - i ∧ qz_ = ⟨[(1, .rop [i64 s.h, i64 s.z, .ros (s.ls.map boxesL) s.ls.length c] 0), (4, i64 ((m : Nat) : Int)), (5, i64 ((i : Nat) : Int))], [], 0, []⟩) ⟨0, (by omega), (fun j hj h => absurd h (Nat.not_lt_zero _)), rfl, rfl⟩ id ⟨eD rfl rfl, eD rfl rfl, eD rfl rfl, trivial⟩ trivial rfl rfl rfl rfl (fun _ _ => rfl) ?_
          rintro _ _ ⟨i, hi2_0, hi2_1, rfl, rfl⟩
          refine W_seq rfl ?_
          refine W_seq rfl ?_
          refine W_reg rfl ?_
          refine Rv rfl rfl rfl (U_move rfl) rfl rfl ?_
          refine Rv rfl rfl rfl (U_fieldAddrR rfl) rfl rfl ?_
          refine Rv rfl rfl rfl (U_load1 rfl rfl rfl) rfl rfl ?_
          refine Rv rfl rfl rfl (U_move rfl) rfl rfl ?_
          have hx5 : m < s.ls.length := by omega
          refine Rv rfl rfl rfl (U_indexR (j := m) rfl rfl rfl hx5) rfl rfl ?_
          refine Rv rfl rfl rfl (U_load1 rfl rfl (getM hx5)) rfl rfl ?_
          refine Rv rfl rfl rfl (U_lenOf rfl len_ros) rfl rfl ?_
          refine Rv rfl rfl rfl (U_lss rfl rfl) rfl rfl ?_
          refine Re rfl ?_
          refine thenQ_n ?_
          refine WcondP rfl rfl (fun hc5 => ?_) (fun hc5 => ?_)
          · have hci : i < s.ls[m].length := by omega
            refine W_skip rfl ?_
            refine thenQ_n ?_
            refine W_seq rfl ?_
            refine W_block rfl ?_
            refine W_seq rfl ?_
            refine Wdraw rfl (by kernel_rfl) (by kernel_rfl) ?_
            refine Dv rfl rfl rfl (U_fieldAddrR rfl) rfl rfl ?_
            refine Dv rfl rfl rfl (U_load1 rfl rfl rfl) rfl rfl ?_
            refine Dv rfl rfl rfl (U_move rfl) rfl rfl ?_
            refine Dv rfl rfl rfl (U_indexR (j := m) rfl rfl rfl hx5) rfl rfl ?_
            refine Dv rfl rfl rfl (U_load1 rfl rfl (getM hx5)) rfl rfl ?_
            refine Dv rfl rfl rfl (U_move rfl) rfl rfl ?_
            have hx6 : i < s.ls[m].length := by omega
            refine Dv rfl rfl rfl (U_indexR (j := i) rfl rfl rfl hx6) rfl rfl ?_
            refine Dv rfl rfl rfl (U_load4 rfl rfl (bxG0 hx6) (bxG1 hx6) (bxG2 hx6) (bxG3 hx6)) rfl rfl ?_
            refine Dv rfl rfl rfl (U_fieldAddrR rfl) rfl rfl ?_
            refine Dv rfl rfl rfl (U_load1 rfl rfl rfl) rfl rfl ?_
            refine Dv rfl rfl rfl (U_fieldAddrR rfl) rfl rfl ?_
            refine Dv rfl rfl rfl (U_load1 rfl rfl rfl) rfl rfl ?_
            refine Dv rfl rfl rfl (U_call rfl rfl (isBR_p (s.ls[m][i]) s.h s.z (by assumption) (by assumption)) rfl) rfl rfl ?_
            refine Dv rfl rfl rfl (U_not rfl) rfl rfl ?_
            refine Dr.nil rfl ?_
            refine thenQ_n ?_
            refine Wcond rfl rfl (fun hc6 => ?_) (fun hc6 => ?_)
            · have hst : (s.ls.any fun l => l.any fun b => !isB b s.h s.z) = true := any_true hcm (any_true hci (by simpa using hc6))
              have hce : chkS s = 2 := by rw [chkS, if_neg (by rw [inL1, inL1]; simp; omega), if_neg (by rw [h600]; simp; omega), if_pos hst]
              refine W_seq rfl ?_
              refine W_reg rfl ?_
              refine Rv rfl rfl rfl (U_assign rfl) rfl rfl ?_
              refine Re rfl ?_
              refine thenQ_n ?_
              refine W_ret rfl ?_
              refine blkQ_r ?_
              refine thenQ_r ?_
              refine thenQ_r ?_
              refine blkQ_r ?_
              refine blkQ_r ?_
              refine thenQ_r ?_
              refine thenQ_r ?_
              refine blkQ_r ?_
              refine thenQ_r ?_
              exact retL (rlT rfl rl0) (by first | rfl | (simp only [packA]; rw [hce]; first | done | rfl)) rfl
            · have hc6' := Bool.eq_false_iff.1 hc6
              refine W_skip rfl ?_
              refine blkQ_n ?_
              refine thenQ_n ?_
              refine W_reg rfl ?_
              refine Rv rfl rfl rfl (U_move rfl) rfl rfl ?_
              refine Rv rfl rfl rfl (U_add rfl rfl (w64e (m := ((i + 1 : Nat) : Int)) (by omega) (by omega) (by omega))) rfl rfl ?_
              refine Rv rfl rfl rfl (U_assign rfl) rfl rfl ?_
              refine Re rfl ?_
              refine thenQ_n ?_
              exact againTo (T' := [(1, .rop [i64 s.h, i64 s.z, .ros (s.ls.map boxesL) s.ls.length c] 0), (4, i64 ((m : Nat) : Int)), (5, i64 (((i + 1) : Nat) : Int))]) (H' := []) (n := 0) (s.ls[m].length - (i + 1)) ⟨i + 1, (by omega), (bef_succ (p := fun b : Bx => !isB b s.h s.z) hi2_1 hci (by simpa using hc6)), rfl, rfl⟩ (by omega) id ⟨eD rfl rfl, eD rfl rfl, eD rfl rfl, trivial⟩ trivial rfl rfl rfl rfl (fun _ _ => rfl)
          · have hla : (s.ls[m].any fun b => !isB b s.h s.z) = false := any_f fun j hj => hi2_1 j hj (by omega)
            refine W_exit rfl ?_
            refine thenQ_x ?_
            refine thenQ_x ?_
            refine blkQ_x rfl ?_
            refine blkQ_n ?_
            refine thenQ_n ?_
            refine W_reg rfl ?_
            refine Rv rfl rfl rfl (U_move rfl) rfl rfl ?_
            refine Rv rfl rfl rfl (U_add rfl rfl (w64e (m := ((m + 1 : Nat) : Int)) (by omega) (by omega) (by omega))) rfl rfl ?_
            refine Rv rfl rfl rfl (U_assign rfl) rfl rfl ?_
            refine Re rfl ?_
            refine thenQ_n ?_
            exact againTo (T' := [(1, .rop [i64 s.h, i64 s.z, .ros (s.ls.map boxesL) s.ls.length c] 0), (4, i64 (((m + 1) : Nat) : Int))]) (H' := []) (n := 0) (s.ls.length - (m + 1)) ⟨m + 1, (by omega), (bef_succ (p := fun l : List Bx => l.any fun b => !isB b s.h s.z) hi1_1 hcm hla), rfl, rfl⟩ (by omega) id ⟨eD rfl rfl, eD rfl rfl, trivial⟩ trivial rfl rfl rfl rfl (fun _ _ => rfl)
        · have hst : (s.ls.any fun l => l.any fun b => !isB b s.h s.z) = false := any_f fun j hj => hi1_1 j hj (by omega)
          have hce : chkS s = 0 := by rw [chkS, if_neg (by rw [inL1, inL1]; simp; omega), if_neg (by rw [h600]; simp; omega), if_neg (by rw [hst]; simp)]
          refine W_exit rfl ?_
          refine thenQ_x ?_
          refine thenQ_x ?_
          refine blkQ_x rfl ?_
          refine thenQ_n ?_
          refine W_seq rfl ?_
          refine W_reg rfl ?_
          refine Rv rfl rfl rfl (U_assign rfl) rfl rfl ?_
          refine Re rfl ?_
          refine thenQ_n ?_
          refine W_ret rfl ?_
          exact retL (rlT rfl rl0) (by first | rfl | (simp only [packA]; rw [hce]; first | done | rfl)) rfl
end Go.Proofs.Ythlolelbmhfdbaa
end

section
namespace Go.Proofs.Ythlolelbmhfdbaa
set_option maxRecDepth 20000
open Go.AE
def mostQ (ls : List (List Bx)) : Int := ls.foldl (fun m l => max m (l.length : Int)) 0
theorem mostQ_take {ls : List (List Bx)} {i : Nat} (hi : i < ls.length) : mostQ (ls.take (i + 1)) = max (mostQ (ls.take i)) (ls[i].length : Int) := by
  unfold mostQ; rw [List.take_succ_eq_append_getElem hi, List.foldl_append]; rfl
theorem mostF_ge {ls : List (List Bx)} : ∀ {m : Int}, m ≤ ls.foldl (fun m l => max m (l.length : Int)) m := by
  induction ls with
  | nil => intro m; exact Int.le_refl m
  | cons a l ih => intro m; exact Int.le_trans (Int.le_max_left m _) ih
theorem mostF_mem {ls : List (List Bx)} : ∀ {m : Int} {l : List Bx}, l ∈ ls → (l.length : Int) ≤ ls.foldl (fun m l => max m (l.length : Int)) m := by
  induction ls with
  | nil => intro m l h; cases h
  | cons a r ih =>
    intro m l h
    cases h with
    | head => exact Int.le_trans (Int.le_max_right m _) mostF_ge
    | tail _ h => exact ih h
theorem mostQ_mem {ls : List (List Bx)} {l : List Bx} (h : l ∈ ls) : (l.length : Int) ≤ mostQ ls := mostF_mem h
def grt (s : Sk) : Bool := decide (14 < s.ls.length) || (decide (610 < mostQ s.ls) || (decide (chkS s = 0) && (decide (120 < s.h * s.z) || decide (30 < mostQ s.ls))))
theorem chkS_hz {s : Sk} (h : chkS s = 0) : 1 ≤ s.h ∧ s.h ≤ 48 ∧ 1 ≤ s.z ∧ s.z ≤ 24 ∧ 1 ≤ s.h * s.z ∧ s.h * s.z ≤ 1152 := by
  obtain ⟨H, Z, e1, e2, hH, hZ, _⟩ := vs_of h
  have := Int.mul_le_mul (show s.h ≤ 48 by omega) (show s.z ≤ 24 by omega) (by omega) (by omega)
  have := Int.mul_pos (show 0 < s.h by omega) (show 0 < s.z by omega)
  omega
theorem grt_ls {s : Sk} (h : grt s = false) : s.ls.length ≤ 1000000 := by
  simp [grt] at h; omega
theorem grt_bl {s : Sk} (h : grt s = false) : ∀ l ∈ s.ls, l.length ≤ 1000000 := by
  intro l hl; have := mostQ_mem hl; simp [grt] at h; omega
theorem bl_most {ls : List (List Bx)} (h : mostQ ls ≤ 610) : ∀ l ∈ ls, l.length ≤ 1000000 := by
  intro l hl; have := mostQ_mem hl; omega
theorem great_p (s : Sk) (c : Option Nat) : Pure Try.prog 16 [.agg [i64 s.h, i64 s.z, landsA s.ls c]] (.bool (grt s)) := by
  refine pure_of_body Try.func16 (c := body Try.f16) rfl (by simp [Try.ntmps16]) fun w0 Φ0 => ?_
  refine W_seq rfl ?_
  refine W_reg rfl ?_
  refine Rv rfl rfl rfl (U_boxF rfl rfl rfl) rfl rfl ?_
  refine Rv rfl rfl rfl (U_assign rfl) rfl rfl ?_
  refine Re rfl ?_
  refine thenQ_n ?_
  refine W_seq rfl ?_
  refine W_seq rfl ?_
  refine W_reg rfl ?_
  refine Rv rfl rfl rfl (U_fieldAddrR rfl) rfl rfl ?_
  refine Rv rfl rfl rfl (U_load1 rfl rfl rfl) rfl rfl ?_
  refine Rv rfl rfl rfl (U_lenOf rfl len_ros) rfl rfl ?_
  refine Rv rfl rfl rfl (U_gtr rfl rfl) rfl rfl ?_
  refine Re rfl ?_
  refine thenQ_n ?_
  refine WcondP rfl rfl (fun hc0 => ?_) (fun hc0 => ?_)
  · refine W_seq rfl ?_
    refine W_reg rfl ?_
    refine Rv rfl rfl rfl (U_assign rfl) rfl rfl ?_
    refine Re rfl ?_
    refine thenQ_n ?_
    refine W_ret rfl ?_
    refine thenQ_r ?_
    exact retL (rlT rfl rl0) (by first | rfl | (exact congrArg AV.bool (by unfold grt; first | (rw [show decide (14 < s.ls.length) = true from decide_eq_true (by omega)]; rfl) | (rw [show decide (14 < s.ls.length) = false from decide_eq_false (by omega), hmq, Bool.false_or])); done)) rfl
  · refine W_skip rfl ?_
    refine thenQ_n ?_
    refine W_seq rfl ?_
    refine W_reg rfl ?_
    refine Rv rfl rfl rfl (U_assign rfl) rfl rfl ?_
    refine Re rfl ?_
    refine thenQ_n ?_
    refine W_seq rfl ?_
    refine W_seq rfl ?_
    refine W_reg rfl ?_
    refine Rv rfl rfl rfl (U_assign rfl) rfl rfl ?_
    refine Re rfl ?_
    refine thenQ_n ?_
    refine W_block rfl ?_
    refine LoopTo (T' := [(1, .rop [i64 s.h, i64 s.z, .ros (s.ls.map boxesL) s.ls.length c] 0), (3, i64 0), (4, i64 ((0 : Nat) : Int))]) (H' := []) (n := 0) rfl (fun mz_ qz_ => ∃ (i : Nat) (m : Int), i ≤ s.ls.length ∧ m = mostQ (s.ls.take i) ∧ mz_ = s.ls.length - i ∧ qz_ = ⟨[(1, .rop [i64 s.h, i64 s.z, .ros (s.ls.map boxesL) s.ls.length c] 0), (3, i64 m), (4, i64 ((i : Nat) : Int))], [], 0, []⟩) ⟨0, 0, (by omega), rfl, rfl, rfl⟩ id ⟨eD rfl rfl, eD rfl rfl, eD rfl rfl, trivial⟩ trivial rfl rfl rfl rfl (fun _ _ => rfl) ?_
    rintro _ _ ⟨i, m, hi0_0, hi0_1, rfl, rfl⟩
    refine W_seq rfl ?_
    refine W_seq rfl ?_
    refine W_reg rfl ?_
    refine Rv rfl rfl rfl (U_move rfl) rfl rfl ?_
    refine Rv rfl rfl rfl (U_fieldAddrR rfl) rfl rfl ?_
    refine Rv rfl rfl rfl (U_load1 rfl rfl rfl) rfl rfl ?_
    refine Rv rfl rfl rfl (U_lenOf rfl len_ros) rfl rfl ?_
    refine Rv rfl rfl rfl (U_lss rfl rfl) rfl rfl ?_
    refine Re rfl ?_
    refine thenQ_n ?_
    refine WcondP rfl rfl (fun hc1 => ?_) (fun hc1 => ?_)
    · refine W_skip rfl ?_
      refine thenQ_n ?_
      refine W_seq rfl ?_
      refine W_block rfl ?_
      refine W_reg rfl ?_
      refine Rv rfl rfl rfl (U_move rfl) rfl rfl ?_
      refine Rv rfl rfl rfl (U_fieldAddrR rfl) rfl rfl ?_
      refine Rv rfl rfl rfl (U_load1 rfl rfl rfl) rfl rfl ?_
      refine Rv rfl rfl rfl (U_move rfl) rfl rfl ?_
      have hx1 : i < s.ls.length := by omega
      refine Rv rfl rfl rfl (U_indexR (j := i) rfl rfl rfl hx1) rfl rfl ?_
      refine Rv rfl rfl rfl (U_load1 rfl rfl (getM hx1)) rfl rfl ?_
      refine Rv rfl rfl rfl (U_lenOf rfl len_ros) rfl rfl ?_
      refine Rv rfl rfl rfl (U_max rfl rfl rfl) rfl rfl ?_
      refine Rv rfl rfl rfl (U_assign rfl) rfl rfl ?_
      refine Re rfl ?_
      refine blkQ_n ?_
      refine thenQ_n ?_
      refine W_reg rfl ?_
      refine Rv rfl rfl rfl (U_move rfl) rfl rfl ?_
      refine Rv rfl rfl rfl (U_add rfl rfl (w64e (m := ((i + 1 : Nat) : Int)) (by omega) (by omega) (by omega))) rfl rfl ?_
      refine Rv rfl rfl rfl (U_assign rfl) rfl rfl ?_
      refine Re rfl ?_
      refine thenQ_n ?_
      exact againTo (T' := [(1, .rop [i64 s.h, i64 s.z, .ros (s.ls.map boxesL) s.ls.length c] 0), (3, i64 (max m ((s.ls[i].length : Nat) : Int))), (4, i64 (((i + 1) : Nat) : Int))]) (H' := []) (n := 0) (s.ls.length - (i + 1)) ⟨i + 1, max m ((s.ls[i].length : Nat) : Int), (by omega), (by rw [mostQ_take (by omega), ← hi0_1]), rfl, rfl⟩ (by omega) id ⟨eD rfl rfl, eD rfl rfl, eD rfl rfl, trivial⟩ trivial rfl rfl rfl rfl (fun _ _ => rfl)
    · have hmq : m = mostQ s.ls := by rw [hi0_1, show i = s.ls.length by omega, List.take_length]
      refine W_exit rfl ?_
      refine thenQ_x ?_
      refine thenQ_x ?_
      refine blkQ_x rfl ?_
      refine thenQ_n ?_
      refine W_seq rfl ?_
      refine Wjoin ⟨[(2, .bool ((decide (610 < m)) || ((decide ((chkS s) = 0)) && ((decide (120 < (s.h * s.z))) || (decide (30 < m))))))], [], 0, []⟩ ?_ ?_
      · refine W_reg rfl ?_
        refine Rv rfl rfl rfl (U_move rfl) rfl rfl ?_
        refine Rv rfl rfl rfl (U_gtr rfl rfl) rfl rfl ?_
        refine Rv rfl rfl rfl (U_move rfl) rfl rfl ?_
        refine Rsplit (t := 26) rfl (fun hg2 => ?_) (fun hg2 => ?_)
        · rw [hg2]
          have hg2' : 610 < m := of_decide_eq_true hg2
          refine Rs rfl rfl rfl rfl rfl ?_
          refine Rs rfl rfl rfl rfl rfl ?_
          refine Rs rfl rfl rfl rfl rfl ?_
          refine Rs rfl rfl rfl rfl rfl ?_
          refine Rs rfl rfl rfl rfl rfl ?_
          refine Rs rfl rfl rfl rfl rfl ?_
          refine Rs rfl rfl rfl rfl rfl ?_
          refine Rs rfl rfl rfl rfl rfl ?_
          refine Rs rfl rfl rfl rfl rfl ?_
          refine Rs rfl rfl rfl rfl rfl ?_
          refine Rs rfl rfl rfl rfl rfl ?_
          refine Rs rfl rfl rfl rfl rfl ?_
          refine Rs rfl rfl rfl rfl rfl ?_
          refine Rs rfl rfl rfl rfl rfl ?_
          refine Rs rfl rfl rfl rfl rfl ?_
          refine Rv rfl rfl rfl (U_pick_t rfl rfl) rfl rfl ?_
          refine Rv rfl rfl rfl (U_assign rfl) rfl rfl ?_
          refine Re rfl ?_
          exact joinTo id ⟨eD rfl rfl, trivial⟩ trivial rfl rfl rfl rfl (fun _ _ => rfl)
        · rw [hg2]
          have hg2' : ¬ (610 < m) := of_decide_eq_false hg2
          have hbl := bl_most (ls := s.ls) (by omega)
          have hl : s.ls.length ≤ 1000000 := by omega
          refine Rv rfl rfl rfl (U_load3 rfl rfl rfl rfl rfl) rfl rfl ?_
          refine Rv rfl rfl rfl (U_call rfl rfl (chkSR_p s c hl hbl) rfl) rfl rfl ?_
          refine Rv rfl rfl rfl (U_eql rfl rfl) rfl rfl ?_
          refine Rv rfl rfl rfl (U_move rfl) rfl rfl ?_
          refine Rsplit (t := 30) rfl (fun hg3 => ?_) (fun hg3 => ?_)
          · rw [hg3]
            have hg3' : (chkS s) = 0 := of_decide_eq_true hg3
            have hhz := chkS_hz hg3'
            refine Rv rfl rfl rfl (U_fieldAddrR rfl) rfl rfl ?_
            refine Rv rfl rfl rfl (U_load1 rfl rfl rfl) rfl rfl ?_
            refine Rv rfl rfl rfl (U_fieldAddrR rfl) rfl rfl ?_
            refine Rv rfl rfl rfl (U_load1 rfl rfl rfl) rfl rfl ?_
            refine Rv rfl rfl rfl (U_mul rfl rfl (w64 (by omega) (by omega))) rfl rfl ?_
            refine Rv rfl rfl rfl (U_gtr rfl rfl) rfl rfl ?_
            refine Rv rfl rfl rfl (U_move rfl) rfl rfl ?_
            refine Rsplit (t := 37) rfl (fun hg4 => ?_) (fun hg4 => ?_)
            · rw [hg4]
              have hg4' : 120 < (s.h * s.z) := of_decide_eq_true hg4
              refine Rs rfl rfl rfl rfl rfl ?_
              refine Rs rfl rfl rfl rfl rfl ?_
              refine Rv rfl rfl rfl (U_pick_t rfl rfl) rfl rfl ?_
              refine Rv rfl rfl rfl (U_pick_t rfl rfl) rfl rfl ?_
              refine Rv rfl rfl rfl (U_pick_f rfl rfl) rfl rfl ?_
              refine Rv rfl rfl rfl (U_assign rfl) rfl rfl ?_
              refine Re rfl ?_
              exact joinTo id ⟨eD rfl rfl, trivial⟩ trivial rfl rfl rfl rfl (fun _ _ => rfl)
            · rw [hg4]
              have hg4' : ¬ (120 < (s.h * s.z)) := of_decide_eq_false hg4
              refine Rv rfl rfl rfl (U_move rfl) rfl rfl ?_
              refine Rv rfl rfl rfl (U_gtr rfl rfl) rfl rfl ?_
              refine Rv rfl rfl rfl (U_pick_f rfl rfl) rfl rfl ?_
              refine Rv rfl rfl rfl (U_pick_t rfl rfl) rfl rfl ?_
              refine Rv rfl rfl rfl (U_pick_f rfl rfl) rfl rfl ?_
              refine Rv rfl rfl rfl (U_assign rfl) rfl rfl ?_
              refine Re rfl ?_
              exact joinTo id ⟨eD rfl rfl, trivial⟩ trivial rfl rfl rfl rfl (fun _ _ => rfl)
          · rw [hg3]
            have hg3' : ¬ ((chkS s) = 0) := of_decide_eq_false hg3
            refine Rs rfl rfl rfl rfl rfl ?_
            refine Rs rfl rfl rfl rfl rfl ?_
            refine Rs rfl rfl rfl rfl rfl ?_
            refine Rs rfl rfl rfl rfl rfl ?_
            refine Rs rfl rfl rfl rfl rfl ?_
            refine Rs rfl rfl rfl rfl rfl ?_
            refine Rs rfl rfl rfl rfl rfl ?_
            refine Rs rfl rfl rfl rfl rfl ?_
            refine Rs rfl rfl rfl rfl rfl ?_
            refine Rs rfl rfl rfl rfl rfl ?_
            refine Rv rfl rfl rfl (U_pick_f rfl rfl) rfl rfl ?_
            refine Rv rfl rfl rfl (U_pick_f rfl rfl) rfl rfl ?_
            refine Rv rfl rfl rfl (U_assign rfl) rfl rfl ?_
            refine Re rfl ?_
            exact joinTo id ⟨eD rfl rfl, trivial⟩ trivial rfl rfl rfl rfl (fun _ _ => rfl)
      refine thenQ_n ?_
      refine W_ret rfl ?_
      exact retL (rlT rfl rl0) (by first | rfl | (exact congrArg AV.bool (by unfold grt; first | (rw [show decide (14 < s.ls.length) = true from decide_eq_true (by omega)]; rfl) | (rw [show decide (14 < s.ls.length) = false from decide_eq_false (by omega), hmq, Bool.false_or])); done)) rfl
theorem fine_p (s : Sk) (c : Option Nat) : Pure Try.prog 47 [.agg [i64 s.h, i64 s.z, landsA s.ls c]] (.bool (!grt s && decide (chkS s = 0))) := by
  refine pure_of_body Try.func47 (c := body Try.f47) rfl (by simp [Try.ntmps47]) fun w0 Φ0 => ?_
  refine W_seq rfl ?_
  refine W_reg rfl ?_
  refine Rv rfl rfl rfl (U_boxF rfl rfl rfl) rfl rfl ?_
  refine Rv rfl rfl rfl (U_assign rfl) rfl rfl ?_
  refine Re rfl ?_
  refine thenQ_n ?_
  refine W_seq rfl ?_
  refine Wjoin ⟨[(2, .bool ((!(grt s)) && (decide ((chkS s) = 0))))], [], 0, []⟩ ?_ ?_
  · refine W_reg rfl ?_
    refine Rv rfl rfl rfl (U_load3 rfl rfl rfl rfl rfl) rfl rfl ?_
    refine Rv rfl rfl rfl (U_call rfl rfl (great_p s c) rfl) rfl rfl ?_
    refine Rv rfl rfl rfl (U_not rfl) rfl rfl ?_
    refine Rv rfl rfl rfl (U_move rfl) rfl rfl ?_
    refine Rsplit (t := 6) rfl (fun hg1 => ?_) (fun hg1 => ?_)
    · rw [hg1]
      have hgr : grt s = false := by simpa using hg1
      have hl := grt_ls hgr
      have hbl := grt_bl hgr
      refine Rv rfl rfl rfl (U_load3 rfl rfl rfl rfl rfl) rfl rfl ?_
      refine Rv rfl rfl rfl (U_call rfl rfl (chkSR_p s c hl hbl) rfl) rfl rfl ?_
      refine Rv rfl rfl rfl (U_eql rfl rfl) rfl rfl ?_
      refine Rv rfl rfl rfl (U_pick_t rfl rfl) rfl rfl ?_
      refine Rv rfl rfl rfl (U_assign rfl) rfl rfl ?_
      refine Re rfl ?_
      exact joinTo id ⟨eD rfl rfl, trivial⟩ trivial rfl rfl rfl rfl (fun _ _ => rfl)
    · rw [hg1]
      refine Rs rfl rfl rfl rfl rfl ?_
      refine Rs rfl rfl rfl rfl rfl ?_
      refine Rs rfl rfl rfl rfl rfl ?_
      refine Rv rfl rfl rfl (U_pick_f rfl rfl) rfl rfl ?_
      refine Rv rfl rfl rfl (U_assign rfl) rfl rfl ?_
      refine Re rfl ?_
      exact joinTo id ⟨eD rfl rfl, trivial⟩ trivial rfl rfl rfl rfl (fun _ _ => rfl)
  refine thenQ_n ?_
  refine W_ret rfl ?_
  exact retL (rlT rfl rl0) rfl rfl
end Go.Proofs.Ythlolelbmhfdbaa
end

section
namespace Go.Proofs.Ythlolelbmhfdbaa
open Go Go.AE Go.Proofs
theorem rd5 : Reads Try.prog 5 fun vs => ∃ n, (0 ≤ n ∧ n ≤ 255) ∧ vs = [.int .u8 n] := Reads.int Try.underlying5
theorem rd5b : Reads Try.prog 5 fun vs => ∃ n : Nat, n < 256 ∧ vs = [.int .u8 (n : Nat)] := rd5.mono fun vs ⟨n, h, e⟩ => ⟨n.toNat, by omega, by rw [e, Int.toNat_of_nonneg h.1]⟩
end Go.Proofs.Ythlolelbmhfdbaa
end

section
namespace Go.Proofs.Ythlolelbmhfdbaa
open Go Go.AE Go.Proofs
theorem rd60 : Reads Try.prog 60 fun vs => ∃ x : Nat × Nat × Nat × Nat, (x.1 < 256 ∧ x.2.1 < 256 ∧ x.2.2.1 < 256 ∧ x.2.2.2 < 256) ∧ vs = [.int .u8 x.1, .int .u8 x.2.1, .int .u8 x.2.2.1, .int .u8 x.2.2.2] :=
  (Reads.array Try.underlying60 (z := 1) (by kernel_rfl) (by kernel_rfl) rd5b).mono fun vs ⟨ls, h, hn, e⟩ => by
    obtain ⟨xs, h1, rfl⟩ := all_map (Q := fun n : Nat => n < 256) (f := fun n : Nat => [AV.int IntKind.u8 n]) h
    rw [List.length_map] at hn
    match xs, hn, h1 with
    | [a, b, c, d], _, h1 => exact ⟨(a, b, c, d), ⟨h1 a (by simp), h1 b (by simp), h1 c (by simp), h1 d (by simp)⟩, by rw [e]; rfl⟩
theorem inp60 : ArgR Try.prog 60 fun a => ∃ x : Nat × Nat × Nat × Nat, (x.1 < 256 ∧ x.2.1 < 256 ∧ x.2.2.1 < 256 ∧ x.2.2.2 < 256) ∧ a = .agg [.int .u8 x.1, .int .u8 x.2.1, .int .u8 x.2.2.1, .int .u8 x.2.2.2] :=
  (ArgR.array Try.underlying60 rd60).mono fun v ⟨vs, ⟨x, hx, e⟩, e'⟩ => ⟨x, hx, by rw [e', e]⟩
end Go.Proofs.Ythlolelbmhfdbaa
end

section
namespace Go.Proofs.Ythlolelbmhfdbaa
set_option maxRecDepth 20000
open Go.AE
theorem sumS_congr {α : Type} {f g : α → Nat} {l : List α} (h : ∀ x ∈ l, f x = g x) : (l.map f).sum = (l.map g).sum := by rw [List.map_congr_left h]
theorem sumS_0 {α : Type} {f : α → Nat} {l : List α} (h : ∀ x ∈ l, f x = 0) : (l.map f).sum = 0 := by
  rw [sumS_congr (g := fun _ => 0) h]; induction l with
  | nil => rfl
  | cons a l ih => simp [ih fun x hx => h x (.tail _ hx)]
theorem plcQ_mem {Z H : Nat} {p : Nat × Nat} : p ∈ plcQ Z H ↔ p.1 < Z ∧ p.2 < H := by
  refine ⟨plcQ_in, fun h => ?_⟩
  refine List.mem_map.2 ⟨p.1 * H + p.2, List.mem_range.2 ?_, ?_⟩
  · have := Nat.mul_le_mul_right H (show p.1 + 1 ≤ Z from h.1)
    rw [Nat.add_mul] at this; omega
  · have hH : 0 < H := by omega
    rw [Nat.mul_comm, Nat.mul_add_div hH, Nat.mul_add_mod, Nat.div_eq_of_lt h.2, Nat.mod_eq_of_lt h.2]; simp
end Go.Proofs.Ythlolelbmhfdbaa
end

section
namespace Go.Proofs.Ythlolelbmhfdbaa
set_option maxRecDepth 20000
open Go.AE
theorem sk_ok {s : Sk} (h : chkS s = 0) : ∃ (H Z : Nat) (ls : List (List Bx)), s = ⟨H, Z, ls⟩ ∧ VS ⟨H, Z, ls⟩ H Z := by
  obtain ⟨H, Z, hv⟩ := vs_of h
  obtain ⟨h', z', ls⟩ := s
  have e1 := hv.h; have e2 := hv.z
  simp only at e1 e2
  subst e1; subst e2
  exact ⟨H, Z, ls, rfl, hv⟩
theorem fineF_p (s : Sk) (c : Option Nat) (h : (!grt s && decide (chkS s = 0)) = false) : Pure Try.prog 47 [.agg [i64 s.h, i64 s.z, landsA s.ls c]] (.bool false) := by
  have := fine_p s c; rwa [h] at this
theorem fineT_p (H Z : Nat) (ls : List (List Bx)) (c : Option Nat) (hg : grt ⟨H, Z, ls⟩ = false) (hc : chkS ⟨H, Z, ls⟩ = 0) : Pure Try.prog 47 [.agg [i64 (H : Nat), i64 (Z : Nat), landsA ls c]] (.bool true) := by
  have := fine_p ⟨H, Z, ls⟩ c; rwa [hg, hc] at this
end Go.Proofs.Ythlolelbmhfdbaa
end

section
namespace Go.Proofs.Ythlolelbmhfdbaa
set_option maxRecDepth 20000
open Go.AE
theorem cntF {p : Nat → Bool} : ∀ {n : Nat}, ((List.range n).filter p).length = ((List.range n).map fun i => if p i = true then 1 else 0).sum
  | 0 => rfl
  | n + 1 => by
    rw [List.range_succ, List.filter_append, List.length_append, List.map_append, List.sum_append, cntF (n := n)]
    congr 1
    by_cases h : p n = true
    · simp [h]
    · simp [h]
theorem range_getD {α : Type} {f : α → Nat} {d : α} {l : List α} : ((List.range l.length).map fun i => f (l.getD i d)) = l.map f := by
  apply List.ext_getElem (by simp)
  intro i h1 h2
  simp at h1 h2
  simp [List.getD_eq_getElem?_getD, List.getElem?_eq_getElem, h1]
theorem cntQ_sum {ls : List (List Bx)} {H : Nat} {p : Nat × Nat} : cntQ ls H p = (ls.map fun l => bitQ l H p.1 p.2).sum := by
  unfold cntQ ofQ
  rw [List.length_map, cntF]
  have : ((List.range ls.length).map fun i => if inL' (ls.getD i []) H p.1 p.2 = true then 1 else 0) = (List.range ls.length).map fun i => (fun l => bitQ l H p.1 p.2) (ls.getD i []) := rfl
  rw [this, range_getD (f := fun l => bitQ l H p.1 p.2)]
theorem sum_pos {α : Type} {f : α → Nat} : ∀ {l : List α} {x : α}, x ∈ l → f x ≤ (l.map f).sum
  | a :: l, x, h => by
    simp only [List.map_cons, List.sum_cons]
    cases h with
    | head => omega
    | tail _ h => have := sum_pos (f := f) h; omega
end Go.Proofs.Ythlolelbmhfdbaa
end

section
namespace Go.Proofs.Ythlolelbmhfdbaa
set_option maxRecDepth 20000
open Go.AE
theorem onceN {H Z : Nat} {ls : List (List Bx)} (hc : chkS ⟨H, Z, ls⟩ = 0) (hn : fltQ Z H ls = none) : onceQ ⟨H, Z, ls⟩ = 0 := by unfold onceQ; rw [fltR_n hc hn]; rfl
theorem onceS {H Z : Nat} {ls : List (List Bx)} {p : Nat × Nat} (hc : chkS ⟨H, Z, ls⟩ = 0) (hn : fltQ Z H ls = some p) : onceQ ⟨H, Z, ls⟩ = 19 := by unfold onceQ; rw [fltR_s hc hn]; rfl
theorem vs_bl {H Z : Nat} {ls : List (List Bx)} (hv : VS ⟨H, Z, ls⟩ H Z) : ∀ l ∈ ls, l.length ≤ 1000000 := fun l hl => Nat.le_trans (hv.lb l hl) (by decide)
theorem vs_ln {H Z : Nat} {ls : List (List Bx)} (hv : VS ⟨H, Z, ls⟩ H Z) : ls.length ≤ 1000000 := Nat.le_trans hv.ln (by decide)
theorem onceN_p (H Z : Nat) (ls : List (List Bx)) (c : Option Nat) (hc : chkS ⟨H, Z, ls⟩ = 0) (hv : VS ⟨H, Z, ls⟩ H Z) (hn : fltQ Z H ls = none) : Pure Try.prog 25 [.agg [i64 (H : Nat), i64 (Z : Nat), landsA ls c]] (i64 0) := by
  have := onceA_p ⟨H, Z, ls⟩ c (vs_ln hv) (vs_bl hv); rwa [onceN hc hn] at this
theorem onceS_p (H Z : Nat) (ls : List (List Bx)) (c : Option Nat) (hc : chkS ⟨H, Z, ls⟩ = 0) (hv : VS ⟨H, Z, ls⟩ H Z) {p : Nat × Nat} (hn : fltQ Z H ls = some p) : Pure Try.prog 25 [.agg [i64 (H : Nat), i64 (Z : Nat), landsA ls c]] (i64 19) := by
  have := onceA_p ⟨H, Z, ls⟩ c (vs_ln hv) (vs_bl hv); rwa [onceS hc hn] at this
end Go.Proofs.Ythlolelbmhfdbaa
end

section
namespace Go.Proofs.Ythlolelbmhfdbaa
set_option maxRecDepth 20000
open Go.AE
def boxW (Z H x0 x1 x2 x3 : Nat) : Bx := ⟨((x0 % H : Nat) : Int), ((1 + x1 % H : Nat) : Int), ((x2 % Z : Nat) : Int), ((x2 % Z + 1 + x3 % (Z - x2 % Z) : Nat) : Int)⟩
theorem boxW_is {Z H x0 x1 x2 x3 : Nat} (hH : 1 ≤ H) (hZ : 1 ≤ Z) : isB (boxW Z H x0 x1 x2 x3) H Z = true := by
  have a := Nat.mod_lt x0 (show H > 0 by omega); have b := Nat.mod_lt x1 (show H > 0 by omega); have c := Nat.mod_lt x2 (show Z > 0 by omega); have d := Nat.mod_lt x3 (show Z - x2 % Z > 0 by omega)
  rw [isB_iff]; simp only [boxW]; omega
theorem boxW_p (H Z : Nat) (ls : List (List Bx)) (c : Option Nat) (hv : VS ⟨H, Z, ls⟩ H Z) (x0 x1 x2 x3 : Nat) (hx0 : x0 < 256) (hx1 : x1 < 256) (hx2 : x2 < 256) (hx3 : x3 < 256) : Pure Try.prog 51 [.agg [i64 (H : Nat), i64 (Z : Nat), landsA ls c], .agg [.int .u8 (x0 : Nat), .int .u8 (x1 : Nat), .int .u8 (x2 : Nat), .int .u8 (x3 : Nat)]] (.agg [i64 (boxW Z H x0 x1 x2 x3).fr, i64 (boxW Z H x0 x1 x2 x3).wd, i64 (boxW Z H x0 x1 x2 x3).lo, i64 (boxW Z H x0 x1 x2 x3).hi]) := by
  have hv' := hv
  obtain ⟨_, _, hH, hZ1, hln, hlb, hbx⟩ := hv'
  simp only at hln hlb hbx
  have hZ := hZ1.2
  have hHZ : Z * H ≤ 1152 := Nat.mul_le_mul hZ hH.2
  have hHZc : H * Z = Z * H := Nat.mul_comm _ _
  have he3 : ((x3 : Nat) : Int).tmod ((Z : Int) - ((x2 % Z : Nat) : Int)) = ((x3 % (Z - x2 % Z) : Nat) : Int) := by
    have := Nat.mod_lt x2 (show Z > 0 by omega)
    rw [Int.tmod_eq_emod_of_nonneg (by omega), show (Z : Int) - ((x2 % Z : Nat) : Int) = ((Z - x2 % Z : Nat) : Int) by omega]; rfl
  have m0 := Nat.mod_lt x0 (show H > 0 by omega)
  have m1 := Nat.mod_lt x1 (show H > 0 by omega)
  have m2 := Nat.mod_lt x2 (show Z > 0 by omega)
  have m3 := Nat.mod_lt x3 (show Z - x2 % Z > 0 by omega)
  refine pure_of_body Try.func51 (c := body Try.f51) rfl (by simp [Try.ntmps51]) fun w0 Φ0 => ?_
  refine W_seq rfl ?_
  refine W_reg rfl ?_
  refine Rv rfl rfl rfl (U_boxF rfl rfl rfl) rfl rfl ?_
  refine Rv rfl rfl rfl (U_boxF rfl rfl rfl) rfl rfl ?_
  refine Ra rfl rfl rfl (U_alloc) rfl rfl rfl ?_
  refine Re rfl ?_
  refine thenQ_n ?_
  refine W_seq rfl ?_
  refine W_reg rfl ?_
  refine Rv rfl rfl rfl (U_indexAR (j := 2) rfl rfl rfl (by decide)) rfl rfl ?_
  refine Rv rfl rfl rfl (U_load1 rfl rfl rfl) rfl rfl ?_
  refine Rv rfl rfl rfl (U_convInt (by rfl) rfl (wr_i64 (by omega) (by omega))) rfl rfl ?_
  refine Rv rfl rfl rfl (U_fieldAddrR rfl) rfl rfl ?_
  refine Rv rfl rfl rfl (U_load1 rfl rfl rfl) rfl rfl ?_
  refine Rv rfl rfl rfl (U_rem (c := ((x2 % Z : Nat) : Int)) rfl rfl (by omega) (tmodN _ _)) rfl rfl ?_
  refine Rv rfl rfl rfl (U_assign rfl) rfl rfl ?_
  refine Re rfl ?_
  refine thenQ_n ?_
  refine W_seq rfl ?_
  refine Wdraw rfl (by kernel_rfl) (by kernel_rfl) ?_
  refine Dv rfl rfl rfl (U_indexAR (j := 0) rfl rfl rfl (by decide)) rfl rfl ?_
  refine Dv rfl rfl rfl (U_load1 rfl rfl rfl) rfl rfl ?_
  refine Dv rfl rfl rfl (U_convInt (by rfl) rfl (wr_i64 (by omega) (by omega))) rfl rfl ?_
  refine Dv rfl rfl rfl (U_fieldAddrR rfl) rfl rfl ?_
  refine Dv rfl rfl rfl (U_load1 rfl rfl rfl) rfl rfl ?_
  refine Dv rfl rfl rfl (U_rem (c := ((x0 % H : Nat) : Int)) rfl rfl (by omega) (tmodN _ _)) rfl rfl ?_
  refine Dv rfl rfl rfl (U_indexAR (j := 1) rfl rfl rfl (by decide)) rfl rfl ?_
  refine Dv rfl rfl rfl (U_load1 rfl rfl rfl) rfl rfl ?_
  refine Dv rfl rfl rfl (U_convInt (by rfl) rfl (wr_i64 (by omega) (by omega))) rfl rfl ?_
  refine Dv rfl rfl rfl (U_fieldAddrR rfl) rfl rfl ?_
  refine Dv rfl rfl rfl (U_load1 rfl rfl rfl) rfl rfl ?_
  refine Dv rfl rfl rfl (U_rem (c := ((x1 % H : Nat) : Int)) rfl rfl (by omega) (tmodN _ _)) rfl rfl ?_
  refine Dv rfl rfl rfl (U_add rfl rfl (w64 (by omega) (by omega))) rfl rfl ?_
  refine Dv rfl rfl rfl (U_move rfl) rfl rfl ?_
  refine Dv rfl rfl rfl (U_move rfl) rfl rfl ?_
  refine Dv rfl rfl rfl (U_add rfl rfl (w64e (m := ((x2 % Z + 1 : Nat) : Int)) (by omega) (by omega) (by omega))) rfl rfl ?_
  refine Dv rfl rfl rfl (U_indexAR (j := 3) rfl rfl rfl (by decide)) rfl rfl ?_
  refine Dv rfl rfl rfl (U_load1 rfl rfl rfl) rfl rfl ?_
  refine Dv rfl rfl rfl (U_convInt (by rfl) rfl (wr_i64 (by omega) (by omega))) rfl rfl ?_
  refine Dv rfl rfl rfl (U_fieldAddrR rfl) rfl rfl ?_
  refine Dv rfl rfl rfl (U_load1 rfl rfl rfl) rfl rfl ?_
  refine Dv rfl rfl rfl (U_move rfl) rfl rfl ?_
  refine Dv rfl rfl rfl (U_sub rfl rfl (w64 (by omega) (by omega))) rfl rfl ?_
  refine Dv rfl rfl rfl (U_rem rfl rfl (by omega) rfl) rfl rfl ?_
  refine Dv rfl rfl rfl (U_add rfl rfl (w64 (by omega) (by omega))) rfl rfl ?_
  refine Dv rfl rfl rfl (U_call rfl rfl (box_p ((x0 % H : Nat) : Int) (1 + ((x1 % H : Nat) : Int)) ((x2 % Z : Nat) : Int) (((x2 % Z + 1 : Nat) : Int) + (((x3 : Nat) : Int).tmod (((Z : Nat) : Int) - ((x2 % Z : Nat) : Int))))) rfl) rfl rfl ?_
  refine Dn_ rfl rfl rfl (U_storeAll rfl rfl rfl rfl rfl rfl) rfl rfl ?_
  refine Dr.nil rfl ?_
  refine thenQ_n ?_
  refine W_ret rfl ?_
  exact retL (rlA rfl rfl rfl rl0) (by first | rfl | (simp only [packA]; rw [he3]; simp only [boxW]; push_cast; rfl; first | done | rfl)) rfl
end Go.Proofs.Ythlolelbmhfdbaa
end

section
namespace Go.Proofs.Ythlolelbmhfdbaa
set_option maxRecDepth 20000
open Go.AE
abbrev atB (H : Nat) (b : Bx) (i : Nat) : Bool := inN b H (i / H) (i % H)
abbrev atL (H : Nat) (l : List Bx) (i : Nat) : Bool := inL' l H (i / H) (i % H)
theorem bitQ_1 {l : List Bx} {H i : Nat} : bitQ l H (i / H) (i % H) = if atL H l i = true then 1 else 0 := rfl
theorem sumS_zero {α : Type} {f : α → Nat} {l : List α} : (l.map f).sum = 0 ↔ ∀ x ∈ l, f x = 0 :=
  ⟨fun h x hx => by have := sum_pos (f := f) hx; omega, sumS_0⟩
theorem sumS_full {α : Type} {f : α → Nat} (h1 : ∀ x, f x ≤ 1) : ∀ {l : List α}, (l.map f).sum = l.length ↔ ∀ x ∈ l, f x = 1
  | [] => by simp
  | a :: l => by
    have h2 := sumS_full h1 (l := l); have h3 := h1 a
    have h4 := sum_le (f := f) (m := 1) (l := l) fun x _ => h1 x
    simp only [List.map_cons, List.sum_cons, List.length_cons, List.forall_mem_cons]
    rw [← h2]; omega
theorem inK_0 {Z H : Nat} {l : List Bx} {b : Bx} : inK H l b (Z * H) = 0 ↔ ∀ i, i < Z * H → atB H b i = true → atL H l i = false := by
  unfold inK
  rw [sumS_zero]
  simp only [bxN, List.mem_filter, List.mem_range, bitQ_1]
  constructor
  · intro h i hi hb
    have := h i ⟨hi, hb⟩
    by_cases e : atL H l i = true
    · rw [if_pos e] at this; omega
    · simpa using e
  · rintro h i ⟨hi, hb⟩
    rw [if_neg (by rw [h i hi hb]; simp)]
theorem inK_2 {Z H : Nat} {l : List Bx} {b : Bx} : inK H l b (Z * H) = (bxN H b (Z * H)).length ↔ ∀ i, i < Z * H → atB H b i = true → atL H l i = true := by
  unfold inK
  rw [sumS_full (fun i => bitQ_le)]
  simp only [bxN, List.mem_filter, List.mem_range, bitQ_1]
  constructor
  · intro h i hi hb
    have := h i ⟨hi, hb⟩
    by_cases e : atL H l i = true
    · exact e
    · rw [if_neg e] at this; omega
  · rintro h i ⟨hi, hb⟩
    rw [if_pos (h i hi hb)]
theorem kin_0 {Z H : Nat} {l : List Bx} {b : Bx} : kinQ Z H l b = 0 ↔ ∀ i, i < Z * H → atB H b i = true → atL H l i = false := by
  rw [← inK_0]; unfold kinQ
  by_cases h : inK H l b (Z * H) = 0
  · rw [if_pos h]; exact ⟨fun _ => h, fun _ => rfl⟩
  · rw [if_neg h]; split
    · exact ⟨fun e => by omega, fun e => absurd e h⟩
    · exact ⟨fun e => by omega, fun e => absurd e h⟩
theorem kin_2 {Z H : Nat} {l : List Bx} {b : Bx} (h0 : ∃ i, i < Z * H ∧ atB H b i = true) : kinQ Z H l b = 2 ↔ ∀ i, i < Z * H → atB H b i = true → atL H l i = true := by
  obtain ⟨i, hi, hb⟩ := h0
  by_cases h : inK H l b (Z * H) = 0
  · have e : kinQ Z H l b = 0 := if_pos h
    rw [e]
    constructor
    · intro h; omega
    · intro h2; have := inK_0.1 h i hi hb; have := h2 i hi hb; simp_all
  · rw [← inK_2]; unfold kinQ; rw [if_neg h]
    split <;> simp [*]
theorem kin_le {Z H : Nat} {l : List Bx} {b : Bx} : kinQ Z H l b ≤ 2 := by unfold kinQ; split <;> (try split) <;> omega
theorem div_at {H z h : Nat} (hh : h < H) : (z * H + h) / H = z ∧ (z * H + h) % H = h := by
  rw [Nat.mul_comm, Nat.mul_add_div (by omega), Nat.mul_add_mod, Nat.div_eq_of_lt hh, Nat.mod_eq_of_lt hh]; simp
theorem at_lt {Z H z h : Nat} (hz : z < Z) (hh : h < H) : z * H + h < Z * H := by
  have := Nat.mul_le_mul_right H (show z + 1 ≤ Z from hz)
  rw [Nat.add_mul] at this; omega
theorem bx_some {Z H : Nat} {b : Bx} (hb : isB b H Z = true) : ∃ i, i < Z * H ∧ atB H b i = true := by
  rw [isB_iff] at hb
  have hh : b.fr.toNat < H := by omega
  have hz : b.lo.toNat < Z := by omega
  refine ⟨b.lo.toNat * H + b.fr.toNat, at_lt hz hh, ?_⟩
  unfold atB
  rw [(div_at hh).1, (div_at hh).2]
  unfold inN
  simp only [Bool.and_eq_true, decide_eq_true_eq]
  refine ⟨⟨by omega, by omega⟩, ?_⟩
  rw [show ((b.fr.toNat : Nat) : Int) - b.fr + H = H by omega, Int.emod_self]; omega
def wthn (b c : Bx) (H d : Int) : Prop := c.fr = (b.fr + d) % H ∧ 0 ≤ d ∧ d + c.wd ≤ b.wd ∧ b.lo ≤ c.lo ∧ c.hi ≤ b.hi
theorem inN_sub {b c : Bx} {H z h : Nat} {d : Int} (hw : wthn b c H d) (hb : b.wd ≤ H) (hH : 1 ≤ H) (h2 : inN c H z h = true) : inN b H z h = true := by
  obtain ⟨h3, h4, h5, h6, h7⟩ := hw
  unfold inN at h2 ⊢
  simp only [Bool.and_eq_true, decide_eq_true_eq] at h2 ⊢
  refine ⟨⟨by omega, by omega⟩, ?_⟩
  have hv := Int.emod_nonneg ((h : Int) - c.fr + H) (show (H : Int) ≠ 0 by omega)
  have e : ((h : Int) - b.fr + H) % H = (((h : Int) - c.fr + H) % H + d) % H := by
    rw [Int.emod_add_emod, h3]
    apply Int.emod_eq_emod_iff_emod_sub_eq_zero.2
    rw [show (h : Int) - b.fr + H - (h - (b.fr + d) % H + H + d) = (b.fr + d) % H - (b.fr + d) by omega]
    apply Int.emod_eq_emod_iff_emod_sub_eq_zero.1
    exact Int.emod_emod_of_dvd _ (Int.dvd_refl _)
  rw [e, Int.emod_eq_of_lt (by omega) (by omega)]; omega
theorem kin_near {Z H : Nat} {l : List Bx} {b c : Bx} {d : Int} (hb : isB b H Z = true) (hc : isB c H Z = true) (hH : 1 ≤ H) (hw : wthn b c H d) (h : kinQ Z H l b ≠ 1) : kinQ Z H l c = kinQ Z H l b := by
  have hb' := isB_iff.1 hb
  have hk := kin_le (Z := Z) (H := H) (l := l) (b := b)
  have hs : ∀ i, i < Z * H → atB H c i = true → atB H b i = true := fun i hi h => inN_sub hw hb'.2.1.2 hH h
  by_cases e : kinQ Z H l b = 0
  · rw [e]; exact kin_0.2 fun i hi h => kin_0.1 e i hi (hs i hi h)
  · have e2 : kinQ Z H l b = 2 := by omega
    rw [e2]; exact (kin_2 (bx_some hc)).2 fun i hi h => (kin_2 (bx_some hb)).1 e2 i hi (hs i hi h)
def kcK (Z H : Nat) (ls : List (List Bx)) (b : Bx) (v k : Nat) : Nat := ((ls.take k).filter fun l => kinQ Z H l b == v).length
theorem kcK_t {Z H v k : Nat} {ls : List (List Bx)} {b : Bx} (hk : k < ls.length) (h : kinQ Z H ls[k] b = v) : kcK Z H ls b v (k + 1) = kcK Z H ls b v k + 1 := by
  unfold kcK; rw [List.take_succ_eq_append_getElem hk, List.filter_append, List.length_append, List.filter_cons_of_pos (by simpa using h)]; rfl
theorem kcK_f {Z H v k : Nat} {ls : List (List Bx)} {b : Bx} (hk : k < ls.length) (h : kinQ Z H ls[k] b ≠ v) : kcK Z H ls b v (k + 1) = kcK Z H ls b v k := by
  unfold kcK; rw [List.take_succ_eq_append_getElem hk, List.filter_append, List.length_append, List.filter_cons_of_neg (by simpa using h)]; rfl
theorem kcK_le {Z H v k : Nat} {ls : List (List Bx)} {b : Bx} : kcK Z H ls b v k ≤ k := by
  unfold kcK
  have := List.length_filter_le (fun l => kinQ Z H l b == v) (ls.take k)
  simp at this ⊢; omega
theorem filt_two {α : Type} {p : α → Bool} : ∀ {l : List α} {i k : Nat} (hi : i < l.length) (hk : k < l.length), i < k → p l[i] = true → p l[k] = true → 2 ≤ (l.filter p).length
  | a :: l, 0, k + 1, _, hk, _, h1, h2 => by
    simp only [List.getElem_cons_zero, List.getElem_cons_succ] at h1 h2
    rw [List.filter_cons_of_pos h1, List.length_cons]
    have : 0 < (l.filter p).length := List.length_pos_iff.2 (List.ne_nil_of_mem (List.mem_filter.2 ⟨List.getElem_mem (by simpa using hk), h2⟩))
    omega
  | a :: l, i + 1, k + 1, hi, hk, h, h1, h2 => by
    simp only [List.getElem_cons_succ] at h1 h2
    have := filt_two (l := l) (i := i) (k := k) (by simpa using hi) (by simpa using hk) (by omega) h1 h2
    rw [List.filter_cons]; split <;> simp <;> omega
theorem filt_one {α : Type} {p : α → Bool} : ∀ {l : List α} {i : Nat} (hi : i < l.length), p l[i] = true → (∀ k (hk : k < l.length), k ≠ i → p l[k] = false) → (l.filter p).length = 1
  | a :: l, 0, _, h1, h2 => by
    simp only [List.getElem_cons_zero] at h1
    rw [List.filter_cons_of_pos h1, List.length_cons]
    have : l.filter p = [] := List.filter_eq_nil_iff.2 fun x hx => by
      obtain ⟨k, hk, rfl⟩ := List.getElem_of_mem hx
      have := h2 (k + 1) (by simpa using hk) (by omega)
      simpa using this
    rw [this]; rfl
  | a :: l, i + 1, hi, h1, h2 => by
    simp only [List.getElem_cons_succ] at h1
    have h3 := h2 0 (by simp) (by omega)
    simp only [List.getElem_cons_zero] at h3
    rw [List.filter_cons_of_neg (by rw [h3]; simp)]
    exact filt_one (l := l) (i := i) (by simpa using hi) h1 fun k hk hn => by
      have := h2 (k + 1) (by simpa using hk) (by omega); simpa using this
theorem filt_zero {α : Type} {p : α → Bool} {l : List α} (h : ∀ k (hk : k < l.length), p l[k] = false) : (l.filter p).length = 0 := by
  rw [List.length_eq_zero_iff, List.filter_eq_nil_iff]
  intro x hx; obtain ⟨k, hk, rfl⟩ := List.getElem_of_mem hx; rw [h k hk]; simp
theorem cnt_one {ls : List (List Bx)} {H i : Nat} (h : cntQ ls H (i / H, i % H) = 1) : ∃ (a : Nat) (ha : a < ls.length), atL H ls[a] i = true ∧ ∀ k (hk : k < ls.length), k ≠ a → atL H ls[k] i = false := by
  rw [cntQ_sum] at h
  have h1 : (ls.filter fun l => atL H l i).length = 1 := by
    rw [← h]
    clear h
    induction ls with
    | nil => rfl
    | cons a l ih =>
      rw [List.map_cons, List.sum_cons, ← ih, List.filter_cons]
      show _ = (if atL H a i = true then 1 else 0) + _
      split <;> simp <;> omega
  obtain ⟨a, ha, hp⟩ : ∃ (a : Nat) (ha : a < ls.length), atL H ls[a] i = true := by
    have : (ls.filter fun l => atL H l i) ≠ [] := fun e => by rw [e] at h1; cases h1
    obtain ⟨x, hx⟩ := List.exists_mem_of_ne_nil _ this
    obtain ⟨hx, hp⟩ := List.mem_filter.1 hx
    obtain ⟨k, hk, rfl⟩ := List.getElem_of_mem hx
    exact ⟨k, hk, hp⟩
  refine ⟨a, ha, hp, fun k hk hn => ?_⟩
  cases e : atL H ls[k] i with
  | false => rfl
  | true =>
    rcases Nat.lt_or_gt_of_ne hn with h2 | h2
    · have := filt_two (p := fun l => atL H l i) hk ha h2 e hp; omega
    · have := filt_two (p := fun l => atL H l i) ha hk h2 hp e; omega
theorem once_at {Z H i : Nat} {ls : List (List Bx)} (h : fltQ Z H ls = none) (hi : i < Z * H) : cntQ ls H (i / H, i % H) = 1 := by
  have hH : 0 < H := by rcases Nat.eq_zero_or_pos H with e | e; subst e; omega; exact e
  have := List.find?_eq_none.1 h (i / H, i % H) (plcQ_mem.2 ⟨Nat.div_lt_of_lt_mul (by rw [Nat.mul_comm]; exact hi), Nat.mod_lt _ hH⟩)
  simpa using this
theorem near_once {Z H : Nat} {ls : List (List Bx)} {b : Bx} (hb : isB b H Z = true) (h : fltQ Z H ls = none) : kcK Z H ls b 2 ls.length = 1 ∧ kcK Z H ls b 1 ls.length = 0 ∨ kcK Z H ls b 2 ls.length = 0 ∧ 2 ≤ kcK Z H ls b 1 ls.length := by
  unfold kcK; rw [List.take_length]
  have h0 := bx_some hb
  by_cases e : ∃ (a : Nat) (ha : a < ls.length), kinQ Z H ls[a] b = 2
  · obtain ⟨a, ha, hk⟩ := e
    have hz : ∀ k (hk : k < ls.length), k ≠ a → kinQ Z H ls[k] b = 0 := fun k hk' hn => kin_0.2 fun i hi hbi => by
      obtain ⟨a', ha', h1, h2⟩ := cnt_one (once_at h hi)
      have h3 := (kin_2 h0).1 hk i hi hbi
      have : a = a' := by
        by_cases e : a = a'
        · exact e
        · have := h2 a ha e; rw [this] at h3; cases h3
      exact h2 k hk' (by omega)
    left
    exact ⟨filt_one ha (by simpa using hk) fun k hk hn => by rw [hz k hk hn]; rfl, filt_zero fun k hk' => by
      by_cases e : k = a
      · subst e; rw [hk]; rfl
      · rw [hz k hk' e]; rfl⟩
  · right
    have h2 : ∀ k (hk : k < ls.length), kinQ Z H ls[k] b ≠ 2 := fun k hk h => e ⟨k, hk, h⟩
    refine ⟨filt_zero fun k hk => by simpa using h2 k hk, ?_⟩
    obtain ⟨i, hi, hbi⟩ := h0
    obtain ⟨a, ha, h3, -⟩ := cnt_one (once_at h hi)
    have ea : kinQ Z H ls[a] b = 1 := by
      have := kin_le (Z := Z) (H := H) (l := ls[a]) (b := b)
      have h4 : kinQ Z H ls[a] b ≠ 0 := fun h4 => by have := kin_0.1 h4 i hi hbi; rw [this] at h3; cases h3
      have := h2 a ha; omega
    have h5 : ¬ ∀ i, i < Z * H → atB H b i = true → atL H ls[a] i = true := fun h6 => h2 a ha ((kin_2 ⟨i, hi, hbi⟩).2 h6)
    obtain ⟨j, hj⟩ := Classical.not_forall.1 h5
    obtain ⟨hj1, hj⟩ := Classical.not_imp.1 hj
    obtain ⟨hj2, hj3⟩ := Classical.not_imp.1 hj
    obtain ⟨k, hk, h6, -⟩ := cnt_one (once_at h hj1)
    have hka : k ≠ a := fun e => by subst e; exact hj3 h6
    have ek : kinQ Z H ls[k] b = 1 := by
      have := kin_le (Z := Z) (H := H) (l := ls[k]) (b := b)
      have h4 : kinQ Z H ls[k] b ≠ 0 := fun h4 => by have := kin_0.1 h4 j hj1 hj2; rw [this] at h6; cases h6
      have := h2 k hk; omega
    rcases Nat.lt_or_gt_of_ne hka with h7 | h7
    · exact filt_two (p := fun l => kinQ Z H l b == 1) hk ha h7 (by simpa using ek) (by simpa using ea)
    · exact filt_two (p := fun l => kinQ Z H l b == 1) ha hk h7 (by simpa using ea) (by simpa using ek)
end Go.Proofs.Ythlolelbmhfdbaa
end

section
namespace Go.Proofs.Ythlolelbmhfdbaa
set_option maxRecDepth 20000
open Go.AE
theorem tmod_in {a b : Int} (ha : 0 ≤ a) (hb : 0 < b) : 0 ≤ a.tmod b ∧ a.tmod b < b := by
  rw [Int.tmod_eq_emod_of_nonneg ha]; exact ⟨Int.emod_nonneg _ (by omega), Int.emod_lt_of_pos _ hb⟩
theorem near_fin {m n : Nat} (h : m = 1 ∧ n = 0 ∨ m = 0 ∧ 2 ≤ n) : (bif decide ((m : Int) = 1) then decide ((n : Int) = 0) || decide ((m : Int) = 0) && decide (2 ≤ (n : Int)) else decide ((m : Int) = 0) && decide (2 ≤ (n : Int))) = true := by
  rcases h with ⟨rfl, rfl⟩ | ⟨rfl, h⟩
  · rfl
  · have : (2 : Int) ≤ n := by omega
    simp [this]
theorem boxV_p (H Z : Nat) (ls : List (List Bx)) (c : Option Nat) (hv : VS ⟨H, Z, ls⟩ H Z) (x0 x1 x2 x3 : Nat) (hx0 : x0 < 256) (hx1 : x1 < 256) (hx2 : x2 < 256) (hx3 : x3 < 256) (f w l g : Nat) (hb : boxW Z H x0 x1 x2 x3 = ⟨f, w, l, g⟩) : Pure Try.prog 51 [.agg [i64 (H : Nat), i64 (Z : Nat), landsA ls c], .agg [.int .u8 (x0 : Nat), .int .u8 (x1 : Nat), .int .u8 (x2 : Nat), .int .u8 (x3 : Nat)]] (.agg [i64 (f : Nat), i64 (w : Nat), i64 (l : Nat), i64 (g : Nat)]) := by
  have := boxW_p H Z ls c hv x0 x1 x2 x3 hx0 hx1 hx2 hx3; rwa [hb] at this
theorem borderNearer1_p (H Z : Nat) (ls : List (List Bx)) (c : Option Nat) (hc : chkS ⟨H, Z, ls⟩ = 0) (hv : VS ⟨H, Z, ls⟩ H Z) (hg : grt ⟨H, Z, ls⟩ = false) (x0 x1 x2 x3 : Nat) (hx0 : x0 < 256) (hx1 : x1 < 256) (hx2 : x2 < 256) (hx3 : x3 < 256) (y0 y1 y2 y3 : Nat) (hy0 : y0 < 256) (hy1 : y1 < 256) (hy2 : y2 < 256) (hy3 : y3 < 256) (f w l g : Nat) (hbw : boxW Z H x0 x1 x2 x3 = ⟨f, w, l, g⟩) (hb : isB ⟨f, w, l, g⟩ H Z = true) (hn : fltQ Z H ls = none) : Pure Try.prog 12 [.agg [i64 (H : Nat), i64 (Z : Nat), landsA ls c], .agg [.int .u8 (x0 : Nat), .int .u8 (x1 : Nat), .int .u8 (x2 : Nat), .int .u8 (x3 : Nat)], .agg [.int .u8 (y0 : Nat), .int .u8 (y1 : Nat), .int .u8 (y2 : Nat), .int .u8 (y3 : Nat)]] (.bool true) := by
  have hv' := hv
  obtain ⟨_, _, hH, hZ1, hln, hlb, hbx⟩ := hv'
  simp only at hln hlb hbx
  have hZ := hZ1.2
  have hHZ : Z * H ≤ 1152 := Nat.mul_le_mul hZ hH.2
  have hHZc : H * Z = Z * H := Nat.mul_comm _ _
  have hbi := isB_iff.1 hb
  simp only at hbi
  have m1 := Nat.mod_lt y1 (show w > 0 by omega)
  have t2 := tmod_in (a := (y2 : Nat)) (b := ((g : Nat) : Int) - ((l : Nat) : Int)) (by omega) (by omega)
  have t0 := tmod_in (a := (y0 : Nat)) (b := (((w : Nat) : Int) - (1 + ((y1 % w : Nat) : Int))) + 1) (by omega) (by omega)
  have t3 := tmod_in (a := (y3 : Nat)) (b := ((g : Nat) : Int) - (((l : Nat) : Int) + (((y2 : Nat) : Int).tmod (((g : Nat) : Int) - ((l : Nat) : Int))))) (by omega) (by omega)
  have tf := tmod_in (a := ((f : Nat) : Int) + (((y0 : Nat) : Int).tmod ((((w : Nat) : Int) - (1 + ((y1 % w : Nat) : Int))) + 1))) (b := (H : Nat)) (by omega) (by omega)
  have hC : isB (⟨((((f : Nat) : Int) + (((y0 : Nat) : Int).tmod ((((w : Nat) : Int) - (1 + ((y1 % w : Nat) : Int))) + 1))).tmod ((H : Nat) : Int)), (1 + ((y1 % w : Nat) : Int)), (((l : Nat) : Int) + (((y2 : Nat) : Int).tmod (((g : Nat) : Int) - ((l : Nat) : Int)))), (((((l : Nat) : Int) + (((y2 : Nat) : Int).tmod (((g : Nat) : Int) - ((l : Nat) : Int)))) + 1) + (((y3 : Nat) : Int).tmod (((g : Nat) : Int) - (((l : Nat) : Int) + (((y2 : Nat) : Int).tmod (((g : Nat) : Int) - ((l : Nat) : Int)))))))⟩ : Bx) H Z = true := by
    rw [isB_iff]; simp only; omega
  have hwt : wthn (⟨f, w, l, g⟩ : Bx) (⟨((((f : Nat) : Int) + (((y0 : Nat) : Int).tmod ((((w : Nat) : Int) - (1 + ((y1 % w : Nat) : Int))) + 1))).tmod ((H : Nat) : Int)), (1 + ((y1 % w : Nat) : Int)), (((l : Nat) : Int) + (((y2 : Nat) : Int).tmod (((g : Nat) : Int) - ((l : Nat) : Int)))), (((((l : Nat) : Int) + (((y2 : Nat) : Int).tmod (((g : Nat) : Int) - ((l : Nat) : Int)))) + 1) + (((y3 : Nat) : Int).tmod (((g : Nat) : Int) - (((l : Nat) : Int) + (((y2 : Nat) : Int).tmod (((g : Nat) : Int) - ((l : Nat) : Int)))))))⟩ : Bx) H (((y0 : Nat) : Int).tmod ((((w : Nat) : Int) - (1 + ((y1 % w : Nat) : Int))) + 1)) := ⟨tmodP (by omega), t0.1, by simp only; omega, by simp only; omega, by simp only; omega⟩
  have hkn : ∀ L, kinQ Z H L (⟨f, w, l, g⟩ : Bx) = 1 ∨ kinQ Z H L (⟨((((f : Nat) : Int) + (((y0 : Nat) : Int).tmod ((((w : Nat) : Int) - (1 + ((y1 % w : Nat) : Int))) + 1))).tmod ((H : Nat) : Int)), (1 + ((y1 % w : Nat) : Int)), (((l : Nat) : Int) + (((y2 : Nat) : Int).tmod (((g : Nat) : Int) - ((l : Nat) : Int)))), (((((l : Nat) : Int) + (((y2 : Nat) : Int).tmod (((g : Nat) : Int) - ((l : Nat) : Int)))) + 1) + (((y3 : Nat) : Int).tmod (((g : Nat) : Int) - (((l : Nat) : Int) + (((y2 : Nat) : Int).tmod (((g : Nat) : Int) - ((l : Nat) : Int)))))))⟩ : Bx) = kinQ Z H L (⟨f, w, l, g⟩ : Bx) := fun L => by
    by_cases h : kinQ Z H L (⟨f, w, l, g⟩ : Bx) = 1
    · exact .inl h
    · exact .inr (kin_near hb hC hH.1 hwt h)
  have hno := near_once hb hn
  refine pure_of_body Try.func12 (c := body Try.f12) rfl (by simp [Try.ntmps12]) fun w0 Φ0 => ?_
  refine W_seq rfl ?_
  refine W_reg rfl ?_
  refine Rv rfl rfl rfl (U_boxF rfl rfl rfl) rfl rfl ?_
  refine Rv rfl rfl rfl (U_boxF rfl rfl rfl) rfl rfl ?_
  refine Rv rfl rfl rfl (U_boxF rfl rfl rfl) rfl rfl ?_
  refine Rv rfl rfl rfl (U_assign rfl) rfl rfl ?_
  refine Re rfl ?_
  refine thenQ_n ?_
  refine W_seq rfl ?_
  refine W_seq rfl ?_
  refine W_reg rfl ?_
  refine Rv rfl rfl rfl (U_load3 rfl rfl rfl rfl rfl) rfl rfl ?_
  refine Rv rfl rfl rfl (U_call rfl rfl (fineT_p H Z ls c hg hc) rfl) rfl rfl ?_
  refine Rv rfl rfl rfl (U_not rfl) rfl rfl ?_
  refine Re rfl ?_
  refine thenQ_n ?_
  refine Wcond rfl rfl (fun h => nomatch h) (fun _ => ?_)
  refine W_skip rfl ?_
  refine thenQ_n ?_
  refine W_seq rfl ?_
  refine W_reg rfl ?_
  refine Rv rfl rfl rfl (U_load3 rfl rfl rfl rfl rfl) rfl rfl ?_
  refine Rv rfl rfl rfl (U_load4 rfl rfl rfl rfl rfl rfl) rfl rfl ?_
  refine Rv rfl rfl rfl (U_call rfl rfl (boxV_p H Z ls c hv x0 x1 x2 x3 hx0 hx1 hx2 hx3 f w l g hbw) rfl) rfl rfl ?_
  refine Ra rfl rfl rfl (U_alloc) rfl rfl rfl ?_
  refine Rn rfl rfl rfl (U_storeAll rfl rfl rfl rfl rfl rfl) rfl ?_
  refine Re rfl ?_
  refine thenQ_n ?_
  refine WfrN 0 rfl rfl (T' := [(3, .rop [i64 ((H : Nat) : Int), i64 ((Z : Nat) : Int), .ros (ls.map boxesL) ls.length c] 0), (5, .rop [.int .u8 ((y0 : Nat) : Int), .int .u8 ((y1 : Nat) : Int), .int .u8 ((y2 : Nat) : Int), .int .u8 ((y3 : Nat) : Int)] 0), (7, .rop [i64 ((f : Nat) : Int), i64 ((w : Nat) : Int), i64 ((l : Nat) : Int), i64 ((g : Nat) : Int)] 0)]) (H' := []) ⟨⟨_, rfl, rfl⟩, ⟨_, rfl, rfl⟩, ⟨_, rfl, rfl⟩, trivial⟩ trivial ?_
  refine W_seq rfl ?_
  refine Wdraw rfl (by kernel_rfl) (by kernel_rfl) ?_
  refine Dv rfl rfl rfl (U_indexAR (j := 1) rfl rfl rfl (by decide)) rfl rfl ?_
  refine Dv rfl rfl rfl (U_load1 rfl rfl rfl) rfl rfl ?_
  refine Dv rfl rfl rfl (U_convInt (by rfl) rfl (wr_i64 (by omega) (by omega))) rfl rfl ?_
  refine Dv rfl rfl rfl (U_fieldAddrR rfl) rfl rfl ?_
  refine Dv rfl rfl rfl (U_load1 rfl rfl rfl) rfl rfl ?_
  refine Dv rfl rfl rfl (U_rem (c := ((y1 % w : Nat) : Int)) rfl rfl (by omega) (tmodN _ _)) rfl rfl ?_
  refine Dv rfl rfl rfl (U_add rfl rfl (w64 (by omega) (by omega))) rfl rfl ?_
  refine Dv rfl rfl rfl (U_fieldAddrR rfl) rfl rfl ?_
  refine Dv rfl rfl rfl (U_load1 rfl rfl rfl) rfl rfl ?_
  refine Dv rfl rfl rfl (U_indexAR (j := 2) rfl rfl rfl (by decide)) rfl rfl ?_
  refine Dv rfl rfl rfl (U_load1 rfl rfl rfl) rfl rfl ?_
  refine Dv rfl rfl rfl (U_convInt (by rfl) rfl (wr_i64 (by omega) (by omega))) rfl rfl ?_
  refine Dv rfl rfl rfl (U_fieldAddrR rfl) rfl rfl ?_
  refine Dv rfl rfl rfl (U_load1 rfl rfl rfl) rfl rfl ?_
  refine Dv rfl rfl rfl (U_fieldAddrR rfl) rfl rfl ?_
  refine Dv rfl rfl rfl (U_load1 rfl rfl rfl) rfl rfl ?_
  refine Dv rfl rfl rfl (U_sub rfl rfl (w64 (by omega) (by omega))) rfl rfl ?_
  refine Dv rfl rfl rfl (U_rem rfl rfl (by omega) rfl) rfl rfl ?_
  refine Dv rfl rfl rfl (U_add rfl rfl (w64 (by omega) (by omega))) rfl rfl ?_
  refine Dv rfl rfl rfl (U_build rfl rfl) rfl rfl ?_
  refine Da rfl rfl rfl (U_alloc) rfl rfl rfl rfl ?_
  refine Dn_ rfl rfl rfl (U_storeAll rfl rfl rfl rfl rfl rfl) rfl rfl ?_
  refine Dr.nil rfl ?_
  refine thenQ_n ?_
  refine W_seq rfl ?_
  refine Wdraw rfl (by kernel_rfl) (by kernel_rfl) ?_
  refine Dv rfl rfl rfl (U_fieldAddrR rfl) rfl rfl ?_
  refine Dv rfl rfl rfl (U_load1 rfl rfl rfl) rfl rfl ?_
  refine Dv rfl rfl rfl (U_indexAR (j := 0) rfl rfl rfl (by decide)) rfl rfl ?_
  refine Dv rfl rfl rfl (U_load1 rfl rfl rfl) rfl rfl ?_
  refine Dv rfl rfl rfl (U_convInt (by rfl) rfl (wr_i64 (by omega) (by omega))) rfl rfl ?_
  refine Dv rfl rfl rfl (U_fieldAddrR rfl) rfl rfl ?_
  refine Dv rfl rfl rfl (U_load1 rfl rfl rfl) rfl rfl ?_
  refine Dv rfl rfl rfl (U_fieldAddr rfl) rfl rfl ?_
  refine Dv rfl rfl rfl (U_load1 rfl rfl rfl) rfl rfl ?_
  refine Dv rfl rfl rfl (U_sub rfl rfl (w64 (by omega) (by omega))) rfl rfl ?_
  refine Dv rfl rfl rfl (U_add rfl rfl (w64 (by omega) (by omega))) rfl rfl ?_
  refine Dv rfl rfl rfl (U_rem rfl rfl (by omega) rfl) rfl rfl ?_
  refine Dv rfl rfl rfl (U_add rfl rfl (w64 (by omega) (by omega))) rfl rfl ?_
  refine Dv rfl rfl rfl (U_fieldAddrR rfl) rfl rfl ?_
  refine Dv rfl rfl rfl (U_load1 rfl rfl rfl) rfl rfl ?_
  refine Dv rfl rfl rfl (U_rem rfl rfl (by omega) rfl) rfl rfl ?_
  refine Dv rfl rfl rfl (U_fieldAddr rfl) rfl rfl ?_
  refine Dn_ rfl rfl rfl (U_store rfl rfl rfl rfl rfl (Nat.le_of_ble_eq_true rfl) rfl rfl) rfl rfl ?_
  refine Dr.nil rfl ?_
  refine thenQ_n ?_
  refine W_seq rfl ?_
  refine Wdraw rfl (by kernel_rfl) (by kernel_rfl) ?_
  refine Dv rfl rfl rfl (U_fieldAddr rfl) rfl rfl ?_
  refine Dv rfl rfl rfl (U_load1 rfl rfl rfl) rfl rfl ?_
  refine Dv rfl rfl rfl (U_add rfl rfl (w64 (by omega) (by omega))) rfl rfl ?_
  refine Dv rfl rfl rfl (U_indexAR (j := 3) rfl rfl rfl (by decide)) rfl rfl ?_
  refine Dv rfl rfl rfl (U_load1 rfl rfl rfl) rfl rfl ?_
  refine Dv rfl rfl rfl (U_convInt (by rfl) rfl (wr_i64 (by omega) (by omega))) rfl rfl ?_
  refine Dv rfl rfl rfl (U_fieldAddrR rfl) rfl rfl ?_
  refine Dv rfl rfl rfl (U_load1 rfl rfl rfl) rfl rfl ?_
  refine Dv rfl rfl rfl (U_fieldAddr rfl) rfl rfl ?_
  refine Dv rfl rfl rfl (U_load1 rfl rfl rfl) rfl rfl ?_
  refine Dv rfl rfl rfl (U_sub rfl rfl (w64 (by omega) (by omega))) rfl rfl ?_
  refine Dv rfl rfl rfl (U_rem rfl rfl (by omega) rfl) rfl rfl ?_
  refine Dv rfl rfl rfl (U_add rfl rfl (w64 (by omega) (by omega))) rfl rfl ?_
  refine Dv rfl rfl rfl (U_fieldAddr rfl) rfl rfl ?_
  refine Dn_ rfl rfl rfl (U_store rfl rfl rfl rfl rfl (Nat.le_of_ble_eq_true rfl) rfl rfl) rfl rfl ?_
  refine Dr.nil rfl ?_
  refine thenQ_n ?_
  refine W_seq rfl ?_
  refine W_reg rfl ?_
  refine Rv rfl rfl rfl (U_assign rfl) rfl rfl ?_
  refine Rv rfl rfl rfl (U_assign rfl) rfl rfl ?_
  refine Re rfl ?_
  refine thenQ_n ?_
  refine W_seq rfl ?_
  refine W_seq rfl ?_
  refine W_reg rfl ?_
  refine Rv rfl rfl rfl (U_assign rfl) rfl rfl ?_
  refine Re rfl ?_
  refine thenQ_n ?_
  refine W_block rfl ?_
  refine LoopTo (T' := [(3, .rop [i64 ((H : Nat) : Int), i64 ((Z : Nat) : Int), .ros (ls.map boxesL) ls.length c] 0), (7, .rop [i64 ((f : Nat) : Int), i64 ((w : Nat) : Int), i64 ((l : Nat) : Int), i64 ((g : Nat) : Int)] 0), (8, .ptr 1 0), (9, i64 ((0 : Nat) : Int)), (10, i64 ((0 : Nat) : Int)), (11, i64 ((0 : Nat) : Int))]) (H' := [(1, some (.cells [i64 ((((f : Nat) : Int) + (((y0 : Nat) : Int).tmod ((((w : Nat) : Int) - (1 + ((y1 % w : Nat) : Int))) + 1))).tmod ((H : Nat) : Int)), i64 (1 + ((y1 % w : Nat) : Int)), i64 (((l : Nat) : Int) + (((y2 : Nat) : Int).tmod (((g : Nat) : Int) - ((l : Nat) : Int)))), i64 (((((l : Nat) : Int) + (((y2 : Nat) : Int).tmod (((g : Nat) : Int) - ((l : Nat) : Int)))) + 1) + (((y3 : Nat) : Int).tmod (((g : Nat) : Int) - (((l : Nat) : Int) + (((y2 : Nat) : Int).tmod (((g : Nat) : Int) - ((l : Nat) : Int)))))))] 44))]) (n := 2) rfl (fun mz_ qz_ => ∃ (i : Nat) (m : Nat) (n : Nat), i ≤ ls.length ∧ m = kcK Z H ls ⟨f, w, l, g⟩ 2 i ∧ n = kcK Z H ls ⟨f, w, l, g⟩ 1 i ∧ mz_ = ls.length - i ∧ qz_ = ⟨[(3, .rop [i64 ((H : Nat) : Int), i64 ((Z : Nat) : Int), .ros (ls.map boxesL) ls.length c] 0), (7, .rop [i64 ((f : Nat) : Int), i64 ((w : Nat) : Int), i64 ((l : Nat) : Int), i64 ((g : Nat) : Int)] 0), (8, .ptr 1 0), (9, i64 ((m : Nat) : Int)), (10, i64 ((n : Nat) : Int)), (11, i64 ((i : Nat) : Int))], [(1, some (.cells [i64 ((((f : Nat) : Int) + (((y0 : Nat) : Int).tmod ((((w : Nat) : Int) - (1 + ((y1 % w : Nat) : Int))) + 1))).tmod ((H : Nat) : Int)), i64 (1 + ((y1 % w : Nat) : Int)), i64 (((l : Nat) : Int) + (((y2 : Nat) : Int).tmod (((g : Nat) : Int) - ((l : Nat) : Int)))), i64 (((((l : Nat) : Int) + (((y2 : Nat) : Int).tmod (((g : Nat) : Int) - ((l : Nat) : Int)))) + 1) + (((y3 : Nat) : Int).tmod (((g : Nat) : Int) - (((l : Nat) : Int) + (((y2 : Nat) : Int).tmod (((g : Nat) : Int) - ((l : Nat) : Int)))))))] 44))], 2, []⟩) ⟨0, 0, 0, (by omega), rfl, rfl, rfl, rfl⟩ id ⟨eD rfl rfl, eD rfl rfl, e_ rfl rfl, eD rfl rfl, eD rfl rfl, eD rfl rfl, trivial⟩ ⟨rD rfl rfl rfl, trivial⟩ rfl rfl rfl rfl (fun _ _ => rfl) ?_
  rintro _ _ ⟨i, m, n, hi0_0, hi0_1, hi0_2, rfl, rfl⟩
  have hck1 := kcK_le (Z := Z) (H := H) (ls := ls) (b := ⟨f, w, l, g⟩) (v := 2) (k := i)
  have hck2 := kcK_le (Z := Z) (H := H) (ls := ls) (b := ⟨f, w, l, g⟩) (v := 1) (k := i)
  refine W_seq rfl ?_
  refine W_seq rfl ?_
  refine W_reg rfl ?_
  refine Rv rfl rfl rfl (U_move rfl) rfl rfl ?_
  refine Rv rfl rfl rfl (U_fieldAddrR rfl) rfl rfl ?_
  refine Rv rfl rfl rfl (U_load1 rfl rfl rfl) rfl rfl ?_
  refine Rv rfl rfl rfl (U_lenOf rfl len_ros) rfl rfl ?_
  refine Rv rfl rfl rfl (U_lss rfl rfl) rfl rfl ?_
  refine Re rfl ?_
  refine thenQ_n ?_
  refine WcondP rfl rfl (fun hc1 => ?_) (fun hc1 => ?_)
  · have hk1 := hkn ls[i]
    have hk2 := kin_le (Z := Z) (H := H) (l := ls[i]) (b := (⟨f, w, l, g⟩ : Bx))
    have hk3 := kin_le (Z := Z) (H := H) (l := ls[i]) (b := (⟨((((f : Nat) : Int) + (((y0 : Nat) : Int).tmod ((((w : Nat) : Int) - (1 + ((y1 % w : Nat) : Int))) + 1))).tmod ((H : Nat) : Int)), (1 + ((y1 % w : Nat) : Int)), (((l : Nat) : Int) + (((y2 : Nat) : Int).tmod (((g : Nat) : Int) - ((l : Nat) : Int)))), (((((l : Nat) : Int) + (((y2 : Nat) : Int).tmod (((g : Nat) : Int) - ((l : Nat) : Int)))) + 1) + (((y3 : Nat) : Int).tmod (((g : Nat) : Int) - (((l : Nat) : Int) + (((y2 : Nat) : Int).tmod (((g : Nat) : Int) - ((l : Nat) : Int)))))))⟩ : Bx))
    refine W_skip rfl ?_
    refine thenQ_n ?_
    refine W_seq rfl ?_
    refine W_block rfl ?_
    refine W_seq rfl ?_
    refine W_reg rfl ?_
    refine Rv rfl rfl rfl (U_load3 rfl rfl rfl rfl rfl) rfl rfl ?_
    refine Rv rfl rfl rfl (U_move rfl) rfl rfl ?_
    refine Rv rfl rfl rfl (U_load4 rfl rfl rfl rfl rfl rfl) rfl rfl ?_
    refine Rv rfl rfl rfl (U_call rfl rfl (kin_g H Z ls c hc hv i (by omega) (⟨((f : Nat) : Int), ((w : Nat) : Int), ((l : Nat) : Int), ((g : Nat) : Int)⟩ : Bx) (by assumption)) rfl) rfl rfl ?_
    refine Rv rfl rfl rfl (U_move rfl) rfl rfl ?_
    refine Rv rfl rfl rfl (U_extract rfl rfl) rfl rfl ?_
    refine Rv rfl rfl rfl (U_extract rfl rfl) rfl rfl ?_
    refine Rv rfl rfl rfl (U_assign rfl) rfl rfl ?_
    refine Rv rfl rfl rfl (U_assign rfl) rfl rfl ?_
    refine Re rfl ?_
    refine thenQ_n ?_
    refine W_seq rfl ?_
    refine W_reg rfl ?_
    refine Rv rfl rfl rfl (U_load3 rfl rfl rfl rfl rfl) rfl rfl ?_
    refine Rv rfl rfl rfl (U_move rfl) rfl rfl ?_
    refine Rv rfl rfl rfl (U_load4 rfl rfl rfl rfl rfl rfl) rfl rfl ?_
    refine Rv rfl rfl rfl (U_call rfl rfl (kin_g H Z ls c hc hv i (by omega) (⟨((((f : Nat) : Int) + (((y0 : Nat) : Int).tmod ((((w : Nat) : Int) - (1 + ((y1 % w : Nat) : Int))) + 1))).tmod ((H : Nat) : Int)), (1 + ((y1 % w : Nat) : Int)), (((l : Nat) : Int) + (((y2 : Nat) : Int).tmod (((g : Nat) : Int) - ((l : Nat) : Int)))), (((((l : Nat) : Int) + (((y2 : Nat) : Int).tmod (((g : Nat) : Int) - ((l : Nat) : Int)))) + 1) + (((y3 : Nat) : Int).tmod (((g : Nat) : Int) - (((l : Nat) : Int) + (((y2 : Nat) : Int).tmod (((g : Nat) : Int) - ((l : Nat) : Int)))))))⟩ : Bx) (by assumption)) rfl) rfl rfl ?_
    refine Rv rfl rfl rfl (U_move rfl) rfl rfl ?_
    refine Rv rfl rfl rfl (U_extract rfl rfl) rfl rfl ?_
    refine Rv rfl rfl rfl (U_extract rfl rfl) rfl rfl ?_
    refine Rv rfl rfl rfl (U_assign rfl) rfl rfl ?_
    refine Rv rfl rfl rfl (U_assign rfl) rfl rfl ?_
    refine Re rfl ?_
    refine thenQ_n ?_
    refine W_seq rfl ?_
    refine W_seq rfl ?_
    refine W_reg rfl ?_
    refine Rv rfl rfl rfl (U_move rfl) rfl rfl ?_
    refine Rv rfl rfl rfl (U_neq rfl rfl) rfl rfl ?_
    refine Rv rfl rfl rfl (U_move rfl) rfl rfl ?_
    refine Rv rfl rfl rfl (U_move rfl) rfl rfl ?_
    refine Rv rfl rfl rfl (U_neq rfl rfl) rfl rfl ?_
    refine Rv rfl rfl rfl (U_pick_f rfl rfl) rfl rfl ?_
    refine Rv rfl rfl rfl (U_move rfl) rfl rfl ?_
    refine Rv rfl rfl rfl (U_move rfl) rfl rfl ?_
    refine Rv rfl rfl rfl (U_neq rfl rfl) rfl rfl ?_
    refine Rv rfl rfl rfl (U_move rfl) rfl rfl ?_
    refine Rsplit (t := 104) rfl (fun hg1 => ?_) (fun hg1 => ?_)
    · rw [hg1]
      have hg1' : ((kinQ Z H ls[i] (⟨((f : Nat) : Int), ((w : Nat) : Int), ((l : Nat) : Int), ((g : Nat) : Int)⟩ : Bx) : Nat) : Int) ≠ 0 := of_decide_eq_true hg1
      refine Rv rfl rfl rfl (U_move rfl) rfl rfl ?_
      refine Rv rfl rfl rfl (U_neq rfl rfl) rfl rfl ?_
      refine Rv rfl rfl rfl (U_pick_t rfl rfl) rfl rfl ?_
      refine Rv rfl rfl rfl (U_move rfl) rfl rfl ?_
      refine Rsplit (t := 108) rfl (fun hg2 => ?_) (fun hg2 => ?_)
      · rw [hg2]
        have hg2' : ((kinQ Z H ls[i] (⟨((f : Nat) : Int), ((w : Nat) : Int), ((l : Nat) : Int), ((g : Nat) : Int)⟩ : Bx) : Nat) : Int) ≠ 1 := of_decide_eq_true hg2
        refine Rv rfl rfl rfl (U_move rfl) rfl rfl ?_
        refine Rv rfl rfl rfl (U_neq rfl rfl) rfl rfl ?_
        refine Rv rfl rfl rfl (U_pick_t rfl rfl) rfl rfl ?_
        refine Rv rfl rfl rfl (U_pick_f rfl rfl) rfl rfl ?_
        refine Rv rfl rfl rfl (U_move rfl) rfl rfl ?_
        refine Rsplit (t := 113) rfl (fun hg3 => ?_) (fun hg3 => ?_)
        · rw [hg3]
          have hg3' : ((kinQ Z H ls[i] (⟨((f : Nat) : Int), ((w : Nat) : Int), ((l : Nat) : Int), ((g : Nat) : Int)⟩ : Bx) : Nat) : Int) ≠ 2 := of_decide_eq_true hg3
          refine Rs rfl rfl rfl rfl rfl ?_
          refine Rs rfl rfl rfl rfl rfl ?_
          refine Rs rfl rfl rfl rfl rfl ?_
          refine Rs rfl rfl rfl rfl rfl ?_
          refine Rs rfl rfl rfl rfl rfl ?_
          refine Rs rfl rfl rfl rfl rfl ?_
          refine Rs rfl rfl rfl rfl rfl ?_
          refine Rv rfl rfl rfl (U_pick_t rfl rfl) rfl rfl ?_
          refine Re rfl ?_
          refine thenQ_n ?_
          refine Wcond rfl rfl (fun _ => ?_) (fun h => nomatch h)
          refine W_seq rfl ?_
          refine W_reg rfl ?_
          refine Rv rfl rfl rfl (U_assign rfl) rfl rfl ?_
          refine Re rfl ?_
          refine thenQ_n ?_
          refine W_ret rfl ?_
          refine thenQ_r ?_
          refine blkQ_r ?_
          refine thenQ_r ?_
          refine thenQ_r ?_
          refine blkQ_r ?_
          refine thenQ_r ?_
          exact retL (rlT rfl rl0) (by first | rfl | (first | (exfalso; omega) | exact congrArg AV.bool (near_fin (by rw [hi0_1, hi0_2]; exact hno)); done)) rfl
        · rw [hg3]
          have hg3' : ¬ (((kinQ Z H ls[i] (⟨((f : Nat) : Int), ((w : Nat) : Int), ((l : Nat) : Int), ((g : Nat) : Int)⟩ : Bx) : Nat) : Int) ≠ 2) := of_decide_eq_false hg3
          refine Rv rfl rfl rfl (U_move rfl) rfl rfl ?_
          refine Rv rfl rfl rfl (U_neq rfl rfl) rfl rfl ?_
          refine Rv rfl rfl rfl (U_move rfl) rfl rfl ?_
          refine Rsplit (t := 116) rfl (fun hg4 => ?_) (fun hg4 => ?_)
          · rw [hg4]
            have hg4' : ((kinQ Z H ls[i] (⟨((f : Nat) : Int), ((w : Nat) : Int), ((l : Nat) : Int), ((g : Nat) : Int)⟩ : Bx) : Nat) : Int) ≠ 1 := of_decide_eq_true hg4
            refine Rv rfl rfl rfl (U_move rfl) rfl rfl ?_
            refine Rv rfl rfl rfl (U_move rfl) rfl rfl ?_
            refine Rv rfl rfl rfl (U_neq rfl rfl) rfl rfl ?_
            refine Rv rfl rfl rfl (U_pick_t rfl rfl) rfl rfl ?_
            refine Rv rfl rfl rfl (U_pick_f rfl rfl) rfl rfl ?_
            refine Re rfl ?_
            refine thenQ_n ?_
            refine WcondP rfl rfl (fun hc2 => absurd hc2 (by simp; omega)) (fun hc2 => ?_)
            refine W_skip rfl ?_
            refine thenQ_n ?_
            refine W_seq rfl ?_
            refine W_seq rfl ?_
            refine W_reg rfl ?_
            refine Rv rfl rfl rfl (U_move rfl) rfl rfl ?_
            refine Rv rfl rfl rfl (U_eql rfl rfl) rfl rfl ?_
            refine Re rfl ?_
            refine thenQ_n ?_
            refine WcondP rfl rfl (fun hc3 => ?_) (fun hc3 => ?_)
            · refine W_reg rfl ?_
              refine Rv rfl rfl rfl (U_move rfl) rfl rfl ?_
              refine Rv rfl rfl rfl (U_add rfl rfl (w64e (m := ((m + 1 : Nat) : Int)) (by omega) (by omega) (by omega))) rfl rfl ?_
              refine Rv rfl rfl rfl (U_assign rfl) rfl rfl ?_
              refine Re rfl ?_
              refine thenQ_n ?_
              refine W_seq rfl ?_
              refine W_reg rfl ?_
              refine Rv rfl rfl rfl (U_move rfl) rfl rfl ?_
              refine Rv rfl rfl rfl (U_eql rfl rfl) rfl rfl ?_
              refine Re rfl ?_
              refine thenQ_n ?_
              refine WcondP rfl rfl (fun hc4 => ?_) (fun hc4 => ?_)
              · refine W_reg rfl ?_
                refine Rv rfl rfl rfl (U_move rfl) rfl rfl ?_
                refine Rv rfl rfl rfl (U_add rfl rfl (w64e (m := ((n + 1 : Nat) : Int)) (by omega) (by omega) (by omega))) rfl rfl ?_
                refine Rv rfl rfl rfl (U_assign rfl) rfl rfl ?_
                refine Re rfl ?_
                refine blkQ_n ?_
                refine thenQ_n ?_
                refine W_reg rfl ?_
                refine Rv rfl rfl rfl (U_move rfl) rfl rfl ?_
                refine Rv rfl rfl rfl (U_add rfl rfl (w64e (m := ((i + 1 : Nat) : Int)) (by omega) (by omega) (by omega))) rfl rfl ?_
                refine Rv rfl rfl rfl (U_assign rfl) rfl rfl ?_
                refine Re rfl ?_
                refine thenQ_n ?_
                exact againTo (T' := [(3, .rop [i64 ((H : Nat) : Int), i64 ((Z : Nat) : Int), .ros (ls.map boxesL) ls.length c] 0), (7, .rop [i64 ((f : Nat) : Int), i64 ((w : Nat) : Int), i64 ((l : Nat) : Int), i64 ((g : Nat) : Int)] 0), (8, .ptr 1 0), (9, i64 (((m + 1) : Nat) : Int)), (10, i64 (((n + 1) : Nat) : Int)), (11, i64 (((i + 1) : Nat) : Int))]) (H' := [(1, some (.cells [i64 ((((f : Nat) : Int) + (((y0 : Nat) : Int).tmod ((((w : Nat) : Int) - (1 + ((y1 % w : Nat) : Int))) + 1))).tmod ((H : Nat) : Int)), i64 (1 + ((y1 % w : Nat) : Int)), i64 (((l : Nat) : Int) + (((y2 : Nat) : Int).tmod (((g : Nat) : Int) - ((l : Nat) : Int)))), i64 (((((l : Nat) : Int) + (((y2 : Nat) : Int).tmod (((g : Nat) : Int) - ((l : Nat) : Int)))) + 1) + (((y3 : Nat) : Int).tmod (((g : Nat) : Int) - (((l : Nat) : Int) + (((y2 : Nat) : Int).tmod (((g : Nat) : Int) - ((l : Nat) : Int)))))))] 44))]) (n := 2) (ls.length - (i + 1)) ⟨i + 1, m + 1, n + 1, (by omega), (by first | (rw [kcK_t (by omega) (by omega), ← hi0_1]; done) | (rw [kcK_f (by omega) (by omega)]; exact hi0_1) | (exfalso; omega)), (by first | (rw [kcK_t (by omega) (by omega), ← hi0_2]; done) | (rw [kcK_f (by omega) (by omega)]; exact hi0_2) | (exfalso; omega)), rfl, rfl⟩ (by omega) id ⟨eD rfl rfl, eD rfl rfl, e_ rfl rfl, eD rfl rfl, eD rfl rfl, eD rfl rfl, trivial⟩ ⟨rD rfl rfl rfl, trivial⟩ rfl rfl rfl rfl (fun _ _ => rfl)
              · refine W_skip rfl ?_
                refine blkQ_n ?_
                refine thenQ_n ?_
                refine W_reg rfl ?_
                refine Rv rfl rfl rfl (U_move rfl) rfl rfl ?_
                refine Rv rfl rfl rfl (U_add rfl rfl (w64e (m := ((i + 1 : Nat) : Int)) (by omega) (by omega) (by omega))) rfl rfl ?_
                refine Rv rfl rfl rfl (U_assign rfl) rfl rfl ?_
                refine Re rfl ?_
                refine thenQ_n ?_
                exact againTo (T' := [(3, .rop [i64 ((H : Nat) : Int), i64 ((Z : Nat) : Int), .ros (ls.map boxesL) ls.length c] 0), (7, .rop [i64 ((f : Nat) : Int), i64 ((w : Nat) : Int), i64 ((l : Nat) : Int), i64 ((g : Nat) : Int)] 0), (8, .ptr 1 0), (9, i64 (((m + 1) : Nat) : Int)), (10, i64 ((n : Nat) : Int)), (11, i64 (((i + 1) : Nat) : Int))]) (H' := [(1, some (.cells [i64 ((((f : Nat) : Int) + (((y0 : Nat) : Int).tmod ((((w : Nat) : Int) - (1 + ((y1 % w : Nat) : Int))) + 1))).tmod ((H : Nat) : Int)), i64 (1 + ((y1 % w : Nat) : Int)), i64 (((l : Nat) : Int) + (((y2 : Nat) : Int).tmod (((g : Nat) : Int) - ((l : Nat) : Int)))), i64 (((((l : Nat) : Int) + (((y2 : Nat) : Int).tmod (((g : Nat) : Int) - ((l : Nat) : Int)))) + 1) + (((y3 : Nat) : Int).tmod (((g : Nat) : Int) - (((l : Nat) : Int) + (((y2 : Nat) : Int).tmod (((g : Nat) : Int) - ((l : Nat) : Int)))))))] 44))]) (n := 2) (ls.length - (i + 1)) ⟨i + 1, m + 1, n, (by omega), (by first | (rw [kcK_t (by omega) (by omega), ← hi0_1]; done) | (rw [kcK_f (by omega) (by omega)]; exact hi0_1) | (exfalso; omega)), (by first | (rw [kcK_t (by omega) (by omega), ← hi0_2]; done) | (rw [kcK_f (by omega) (by omega)]; exact hi0_2) | (exfalso; omega)), rfl, rfl⟩ (by omega) id ⟨eD rfl rfl, eD rfl rfl, e_ rfl rfl, eD rfl rfl, eD rfl rfl, eD rfl rfl, trivial⟩ ⟨rD rfl rfl rfl, trivial⟩ rfl rfl rfl rfl (fun _ _ => rfl)
            · refine W_skip rfl ?_
              refine thenQ_n ?_
              refine W_seq rfl ?_
              refine W_reg rfl ?_
              refine Rv rfl rfl rfl (U_move rfl) rfl rfl ?_
              refine Rv rfl rfl rfl (U_eql rfl rfl) rfl rfl ?_
              refine Re rfl ?_
              refine thenQ_n ?_
              refine WcondP rfl rfl (fun hc4 => ?_) (fun hc4 => ?_)
              · refine W_reg rfl ?_
                refine Rv rfl rfl rfl (U_move rfl) rfl rfl ?_
                refine Rv rfl rfl rfl (U_add rfl rfl (w64e (m := ((n + 1 : Nat) : Int)) (by omega) (by omega) (by omega))) rfl rfl ?_
                refine Rv rfl rfl rfl (U_assign rfl) rfl rfl ?_
                refine Re rfl ?_
                refine blkQ_n ?_
                refine thenQ_n ?_
                refine W_reg rfl ?_
                refine Rv rfl rfl rfl (U_move rfl) rfl rfl ?_
                refine Rv rfl rfl rfl (U_add rfl rfl (w64e (m := ((i + 1 : Nat) : Int)) (by omega) (by omega) (by omega))) rfl rfl ?_
                refine Rv rfl rfl rfl (U_assign rfl) rfl rfl ?_
                refine Re rfl ?_
                refine thenQ_n ?_
                exact againTo (T' := [(3, .rop [i64 ((H : Nat) : Int), i64 ((Z : Nat) : Int), .ros (ls.map boxesL) ls.length c] 0), (7, .rop [i64 ((f : Nat) : Int), i64 ((w : Nat) : Int), i64 ((l : Nat) : Int), i64 ((g : Nat) : Int)] 0), (8, .ptr 1 0), (9, i64 ((m : Nat) : Int)), (10, i64 (((n + 1) : Nat) : Int)), (11, i64 (((i + 1) : Nat) : Int))]) (H' := [(1, some (.cells [i64 ((((f : Nat) : Int) + (((y0 : Nat) : Int).tmod ((((w : Nat) : Int) - (1 + ((y1 % w : Nat) : Int))) + 1))).tmod ((H : Nat) : Int)), i64 (1 + ((y1 % w : Nat) : Int)), i64 (((l : Nat) : Int) + (((y2 : Nat) : Int).tmod (((g : Nat) : Int) - ((l : Nat) : Int)))), i64 (((((l : Nat) : Int) + (((y2 : Nat) : Int).tmod (((g : Nat) : Int) - ((l : Nat) : Int)))) + 1) + (((y3 : Nat) : Int).tmod (((g : Nat) : Int) - (((l : Nat) : Int) + (((y2 : Nat) : Int).tmod (((g : Nat) : Int) - ((l : Nat) : Int)))))))] 44))]) (n := 2) (ls.length - (i + 1)) ⟨i + 1, m, n + 1, (by omega), (by first | (rw [kcK_t (by omega) (by omega), ← hi0_1]; done) | (rw [kcK_f (by omega) (by omega)]; exact hi0_1) | (exfalso; omega)), (by first | (rw [kcK_t (by omega) (by omega), ← hi0_2]; done) | (rw [kcK_f (by omega) (by omega)]; exact hi0_2) | (exfalso; omega)), rfl, rfl⟩ (by omega) id ⟨eD rfl rfl, eD rfl rfl, e_ rfl rfl, eD rfl rfl, eD rfl rfl, eD rfl rfl, trivial⟩ ⟨rD rfl rfl rfl, trivial⟩ rfl rfl rfl rfl (fun _ _ => rfl)
              · refine W_skip rfl ?_
                refine blkQ_n ?_
                refine thenQ_n ?_
                refine W_reg rfl ?_
                refine Rv rfl rfl rfl (U_move rfl) rfl rfl ?_
                refine Rv rfl rfl rfl (U_add rfl rfl (w64e (m := ((i + 1 : Nat) : Int)) (by omega) (by omega) (by omega))) rfl rfl ?_
                refine Rv rfl rfl rfl (U_assign rfl) rfl rfl ?_
                refine Re rfl ?_
                refine thenQ_n ?_
                exact againTo (T' := [(3, .rop [i64 ((H : Nat) : Int), i64 ((Z : Nat) : Int), .ros (ls.map boxesL) ls.length c] 0), (7, .rop [i64 ((f : Nat) : Int), i64 ((w : Nat) : Int), i64 ((l : Nat) : Int), i64 ((g : Nat) : Int)] 0), (8, .ptr 1 0), (9, i64 ((m : Nat) : Int)), (10, i64 ((n : Nat) : Int)), (11, i64 (((i + 1) : Nat) : Int))]) (H' := [(1, some (.cells [i64 ((((f : Nat) : Int) + (((y0 : Nat) : Int).tmod ((((w : Nat) : Int) - (1 + ((y1 % w : Nat) : Int))) + 1))).tmod ((H : Nat) : Int)), i64 (1 + ((y1 % w : Nat) : Int)), i64 (((l : Nat) : Int) + (((y2 : Nat) : Int).tmod (((g : Nat) : Int) - ((l : Nat) : Int)))), i64 (((((l : Nat) : Int) + (((y2 : Nat) : Int).tmod (((g : Nat) : Int) - ((l : Nat) : Int)))) + 1) + (((y3 : Nat) : Int).tmod (((g : Nat) : Int) - (((l : Nat) : Int) + (((y2 : Nat) : Int).tmod (((g : Nat) : Int) - ((l : Nat) : Int)))))))] 44))]) (n := 2) (ls.length - (i + 1)) ⟨i + 1, m, n, (by omega), (by first | (rw [kcK_t (by omega) (by omega), ← hi0_1]; done) | (rw [kcK_f (by omega) (by omega)]; exact hi0_1) | (exfalso; omega)), (by first | (rw [kcK_t (by omega) (by omega), ← hi0_2]; done) | (rw [kcK_f (by omega) (by omega)]; exact hi0_2) | (exfalso; omega)), rfl, rfl⟩ (by omega) id ⟨eD rfl rfl, eD rfl rfl, e_ rfl rfl, eD rfl rfl, eD rfl rfl, eD rfl rfl, trivial⟩ ⟨rD rfl rfl rfl, trivial⟩ rfl rfl rfl rfl (fun _ _ => rfl)
          · rw [hg4]
            have hg4' : ¬ (((kinQ Z H ls[i] (⟨((f : Nat) : Int), ((w : Nat) : Int), ((l : Nat) : Int), ((g : Nat) : Int)⟩ : Bx) : Nat) : Int) ≠ 1) := of_decide_eq_false hg4
            refine Rs rfl rfl rfl rfl rfl ?_
            refine Rs rfl rfl rfl rfl rfl ?_
            refine Rs rfl rfl rfl rfl rfl ?_
            refine Rv rfl rfl rfl (U_pick_f rfl rfl) rfl rfl ?_
            refine Rv rfl rfl rfl (U_pick_f rfl rfl) rfl rfl ?_
            refine Re rfl ?_
            refine thenQ_n ?_
            refine Wcond rfl rfl (fun h => nomatch h) (fun _ => ?_)
            refine W_skip rfl ?_
            refine thenQ_n ?_
            refine W_seq rfl ?_
            refine W_seq rfl ?_
            refine W_reg rfl ?_
            refine Rv rfl rfl rfl (U_move rfl) rfl rfl ?_
            refine Rv rfl rfl rfl (U_eql rfl rfl) rfl rfl ?_
            refine Re rfl ?_
            refine thenQ_n ?_
            refine WcondP rfl rfl (fun hc3 => ?_) (fun hc3 => ?_)
            · refine W_reg rfl ?_
              refine Rv rfl rfl rfl (U_move rfl) rfl rfl ?_
              refine Rv rfl rfl rfl (U_add rfl rfl (w64e (m := ((m + 1 : Nat) : Int)) (by omega) (by omega) (by omega))) rfl rfl ?_
              refine Rv rfl rfl rfl (U_assign rfl) rfl rfl ?_
              refine Re rfl ?_
              refine thenQ_n ?_
              refine W_seq rfl ?_
              refine W_reg rfl ?_
              refine Rv rfl rfl rfl (U_move rfl) rfl rfl ?_
              refine Rv rfl rfl rfl (U_eql rfl rfl) rfl rfl ?_
              refine Re rfl ?_
              refine thenQ_n ?_
              refine WcondP rfl rfl (fun hc4 => ?_) (fun hc4 => ?_)
              · refine W_reg rfl ?_
                refine Rv rfl rfl rfl (U_move rfl) rfl rfl ?_
                refine Rv rfl rfl rfl (U_add rfl rfl (w64e (m := ((n + 1 : Nat) : Int)) (by omega) (by omega) (by omega))) rfl rfl ?_
                refine Rv rfl rfl rfl (U_assign rfl) rfl rfl ?_
                refine Re rfl ?_
                refine blkQ_n ?_
                refine thenQ_n ?_
                refine W_reg rfl ?_
                refine Rv rfl rfl rfl (U_move rfl) rfl rfl ?_
                refine Rv rfl rfl rfl (U_add rfl rfl (w64e (m := ((i + 1 : Nat) : Int)) (by omega) (by omega) (by omega))) rfl rfl ?_
                refine Rv rfl rfl rfl (U_assign rfl) rfl rfl ?_
                refine Re rfl ?_
                refine thenQ_n ?_
                exact againTo (T' := [(3, .rop [i64 ((H : Nat) : Int), i64 ((Z : Nat) : Int), .ros (ls.map boxesL) ls.length c] 0), (7, .rop [i64 ((f : Nat) : Int), i64 ((w : Nat) : Int), i64 ((l : Nat) : Int), i64 ((g : Nat) : Int)] 0), (8, .ptr 1 0), (9, i64 (((m + 1) : Nat) : Int)), (10, i64 (((n + 1) : Nat) : Int)), (11, i64 (((i + 1) : Nat) : Int))]) (H' := [(1, some (.cells [i64 ((((f : Nat) : Int) + (((y0 : Nat) : Int).tmod ((((w : Nat) : Int) - (1 + ((y1 % w : Nat) : Int))) + 1))).tmod ((H : Nat) : Int)), i64 (1 + ((y1 % w : Nat) : Int)), i64 (((l : Nat) : Int) + (((y2 : Nat) : Int).tmod (((g : Nat) : Int) - ((l : Nat) : Int)))), i64 (((((l : Nat) : Int) + (((y2 : Nat) : Int).tmod (((g : Nat) : Int) - ((l : Nat) : Int)))) + 1) + (((y3 : Nat) : Int).tmod (((g : Nat) : Int) - (((l : Nat) : Int) + (((y2 : Nat) : Int).tmod (((g : Nat) : Int) - ((l : Nat) : Int)))))))] 44))]) (n := 2) (ls.length - (i + 1)) ⟨i + 1, m + 1, n + 1, (by omega), (by first | (rw [kcK_t (by omega) (by omega), ← hi0_1]; done) | (rw [kcK_f (by omega) (by omega)]; exact hi0_1) | (exfalso; omega)), (by first | (rw [kcK_t (by omega) (by omega), ← hi0_2]; done) | (rw [kcK_f (by omega) (by omega)]; exact hi0_2) | (exfalso; omega)), rfl, rfl⟩ (by omega) id ⟨eD rfl rfl, eD rfl rfl, e_ rfl rfl, eD rfl rfl, eD rfl rfl, eD rfl rfl, trivial⟩ ⟨rD rfl rfl rfl, trivial⟩ rfl rfl rfl rfl (fun _ _ => rfl)
              · refine W_skip rfl ?_
                refine blkQ_n ?_
                refine thenQ_n ?_
                refine W_reg rfl ?_
                refine Rv rfl rfl rfl (U_move rfl) rfl rfl ?_
                refine Rv rfl rfl rfl (U_add rfl rfl (w64e (m := ((i + 1 : Nat) : Int)) (by omega) (by omega) (by omega))) rfl rfl ?_
                refine Rv rfl rfl rfl (U_assign rfl) rfl rfl ?_
                refine Re rfl ?_
                refine thenQ_n ?_
                exact againTo (T' := [(3, .rop [i64 ((H : Nat) : Int), i64 ((Z : Nat) : Int), .ros (ls.map boxesL) ls.length c] 0), (7, .rop [i64 ((f : Nat) : Int), i64 ((w : Nat) : Int), i64 ((l : Nat) : Int), i64 ((g : Nat) : Int)] 0), (8, .ptr 1 0), (9, i64 (((m + 1) : Nat) : Int)), (10, i64 ((n : Nat) : Int)), (11, i64 (((i + 1) : Nat) : Int))]) (H' := [(1, some (.cells [i64 ((((f : Nat) : Int) + (((y0 : Nat) : Int).tmod ((((w : Nat) : Int) - (1 + ((y1 % w : Nat) : Int))) + 1))).tmod ((H : Nat) : Int)), i64 (1 + ((y1 % w : Nat) : Int)), i64 (((l : Nat) : Int) + (((y2 : Nat) : Int).tmod (((g : Nat) : Int) - ((l : Nat) : Int)))), i64 (((((l : Nat) : Int) + (((y2 : Nat) : Int).tmod (((g : Nat) : Int) - ((l : Nat) : Int)))) + 1) + (((y3 : Nat) : Int).tmod (((g : Nat) : Int) - (((l : Nat) : Int) + (((y2 : Nat) : Int).tmod (((g : Nat) : Int) - ((l : Nat) : Int)))))))] 44))]) (n := 2) (ls.length - (i + 1)) ⟨i + 1, m + 1, n, (by omega), (by first | (rw [kcK_t (by omega) (by omega), ← hi0_1]; done) | (rw [kcK_f (by omega) (by omega)]; exact hi0_1) | (exfalso; omega)), (by first | (rw [kcK_t (by omega) (by omega), ← hi0_2]; done) | (rw [kcK_f (by omega) (by omega)]; exact hi0_2) | (exfalso; omega)), rfl, rfl⟩ (by omega) id ⟨eD rfl rfl, eD rfl rfl, e_ rfl rfl, eD rfl rfl, eD rfl rfl, eD rfl rfl, trivial⟩ ⟨rD rfl rfl rfl, trivial⟩ rfl rfl rfl rfl (fun _ _ => rfl)
            · refine W_skip rfl ?_
              refine thenQ_n ?_
              refine W_seq rfl ?_
              refine W_reg rfl ?_
              refine Rv rfl rfl rfl (U_move rfl) rfl rfl ?_
              refine Rv rfl rfl rfl (U_eql rfl rfl) rfl rfl ?_
              refine Re rfl ?_
              refine thenQ_n ?_
              refine WcondP rfl rfl (fun hc4 => ?_) (fun hc4 => ?_)
              · refine W_reg rfl ?_
                refine Rv rfl rfl rfl (U_move rfl) rfl rfl ?_
                refine Rv rfl rfl rfl (U_add rfl rfl (w64e (m := ((n + 1 : Nat) : Int)) (by omega) (by omega) (by omega))) rfl rfl ?_
                refine Rv rfl rfl rfl (U_assign rfl) rfl rfl ?_
                refine Re rfl ?_
                refine blkQ_n ?_
                refine thenQ_n ?_
                refine W_reg rfl ?_
                refine Rv rfl rfl rfl (U_move rfl) rfl rfl ?_
                refine Rv rfl rfl rfl (U_add rfl rfl (w64e (m := ((i + 1 : Nat) : Int)) (by omega) (by omega) (by omega))) rfl rfl ?_
                refine Rv rfl rfl rfl (U_assign rfl) rfl rfl ?_
                refine Re rfl ?_
                refine thenQ_n ?_
                exact againTo (T' := [(3, .rop [i64 ((H : Nat) : Int), i64 ((Z : Nat) : Int), .ros (ls.map boxesL) ls.length c] 0), (7, .rop [i64 ((f : Nat) : Int), i64 ((w : Nat) : Int), i64 ((l : Nat) : Int), i64 ((g : Nat) : Int)] 0), (8, .ptr 1 0), (9, i64 ((m : Nat) : Int)), (10, i64 (((n + 1) : Nat) : Int)), (11, i64 (((i + 1) : Nat) : Int))]) (H' := [(1, some (.cells [i64 ((((f : Nat) : Int) + (((y0 : Nat) : Int).tmod ((((w : Nat) : Int) - (1 + ((y1 % w : Nat) : Int))) + 1))).tmod ((H : Nat) : Int)), i64 (1 + ((y1 % w : Nat) : Int)), i64 (((l : Nat) : Int) + (((y2 : Nat) : Int).tmod (((g : Nat) : Int) - ((l : Nat) : Int)))), i64 (((((l : Nat) : Int) + (((y2 : Nat) : Int).tmod (((g : Nat) : Int) - ((l : Nat) : Int)))) + 1) + (((y3 : Nat) : Int).tmod (((g : Nat) : Int) - (((l : Nat) : Int) + (((y2 : Nat) : Int).tmod (((g : Nat) : Int) - ((l : Nat) : Int)))))))] 44))]) (n := 2) (ls.length - (i + 1)) ⟨i + 1, m, n + 1, (by omega), (by first | (rw [kcK_t (by omega) (by omega), ← hi0_1]; done) | (rw [kcK_f (by omega) (by omega)]; exact hi0_1) | (exfalso; omega)), (by first | (rw [kcK_t (by omega) (by omega), ← hi0_2]; done) | (rw [kcK_f (by omega) (by omega)]; exact hi0_2) | (exfalso; omega)), rfl, rfl⟩ (by omega) id ⟨eD rfl rfl, eD rfl rfl, e_ rfl rfl, eD rfl rfl, eD rfl rfl, eD rfl rfl, trivial⟩ ⟨rD rfl rfl rfl, trivial⟩ rfl rfl rfl rfl (fun _ _ => rfl)
              · refine W_skip rfl ?_
                refine blkQ_n ?_
                refine thenQ_n ?_
                refine W_reg rfl ?_
                refine Rv rfl rfl rfl (U_move rfl) rfl rfl ?_
                refine Rv rfl rfl rfl (U_add rfl rfl (w64e (m := ((i + 1 : Nat) : Int)) (by omega) (by omega) (by omega))) rfl rfl ?_
                refine Rv rfl rfl rfl (U_assign rfl) rfl rfl ?_
                refine Re rfl ?_
                refine thenQ_n ?_
                exact againTo (T' := [(3, .rop [i64 ((H : Nat) : Int), i64 ((Z : Nat) : Int), .ros (ls.map boxesL) ls.length c] 0), (7, .rop [i64 ((f : Nat) : Int), i64 ((w : Nat) : Int), i64 ((l : Nat) : Int), i64 ((g : Nat) : Int)] 0), (8, .ptr 1 0), (9, i64 ((m : Nat) : Int)), (10, i64 ((n : Nat) : Int)), (11, i64 (((i + 1) : Nat) : Int))]) (H' := [(1, some (.cells [i64 ((((f : Nat) : Int) + (((y0 : Nat) : Int).tmod ((((w : Nat) : Int) - (1 + ((y1 % w : Nat) : Int))) + 1))).tmod ((H : Nat) : Int)), i64 (1 + ((y1 % w : Nat) : Int)), i64 (((l : Nat) : Int) + (((y2 : Nat) : Int).tmod (((g : Nat) : Int) - ((l : Nat) : Int)))), i64 (((((l : Nat) : Int) + (((y2 : Nat) : Int).tmod (((g : Nat) : Int) - ((l : Nat) : Int)))) + 1) + (((y3 : Nat) : Int).tmod (((g : Nat) : Int) - (((l : Nat) : Int) + (((y2 : Nat) : Int).tmod (((g : Nat) : Int) - ((l : Nat) : Int)))))))] 44))]) (n := 2) (ls.length - (i + 1)) ⟨i + 1, m, n, (by omega), (by first | (rw [kcK_t (by omega) (by omega), ← hi0_1]; done) | (rw [kcK_f (by omega) (by omega)]; exact hi0_1) | (exfalso; omega)), (by first | (rw [kcK_t (by omega) (by omega), ← hi0_2]; done) | (rw [kcK_f (by omega) (by omega)]; exact hi0_2) | (exfalso; omega)), rfl, rfl⟩ (by omega) id ⟨eD rfl rfl, eD rfl rfl, e_ rfl rfl, eD rfl rfl, eD rfl rfl, eD rfl rfl, trivial⟩ ⟨rD rfl rfl rfl, trivial⟩ rfl rfl rfl rfl (fun _ _ => rfl)
      · rw [hg2]
        have hg2' : ¬ (((kinQ Z H ls[i] (⟨((f : Nat) : Int), ((w : Nat) : Int), ((l : Nat) : Int), ((g : Nat) : Int)⟩ : Bx) : Nat) : Int) ≠ 1) := of_decide_eq_false hg2
        refine Rs rfl rfl rfl rfl rfl ?_
        refine Rs rfl rfl rfl rfl rfl ?_
        refine Rv rfl rfl rfl (U_pick_f rfl rfl) rfl rfl ?_
        refine Rv rfl rfl rfl (U_pick_f rfl rfl) rfl rfl ?_
        refine Rv rfl rfl rfl (U_move rfl) rfl rfl ?_
        refine Rv rfl rfl rfl (U_move rfl) rfl rfl ?_
        refine Rv rfl rfl rfl (U_neq rfl rfl) rfl rfl ?_
        refine Rv rfl rfl rfl (U_move rfl) rfl rfl ?_
        refine Rsplit (t := 116) rfl (fun hg5 => ?_) (fun hg5 => ?_)
        · rw [hg5]
          have hg5' : ((kinQ Z H ls[i] (⟨((f : Nat) : Int), ((w : Nat) : Int), ((l : Nat) : Int), ((g : Nat) : Int)⟩ : Bx) : Nat) : Int) ≠ 1 := of_decide_eq_true hg5
          refine Rv rfl rfl rfl (U_move rfl) rfl rfl ?_
          refine Rv rfl rfl rfl (U_move rfl) rfl rfl ?_
          refine Rv rfl rfl rfl (U_neq rfl rfl) rfl rfl ?_
          refine Rv rfl rfl rfl (U_pick_t rfl rfl) rfl rfl ?_
          refine Rv rfl rfl rfl (U_pick_f rfl rfl) rfl rfl ?_
          refine Re rfl ?_
          refine thenQ_n ?_
          refine WcondP rfl rfl (fun hc2 => absurd hc2 (by simp; omega)) (fun hc2 => ?_)
          refine W_skip rfl ?_
          refine thenQ_n ?_
          refine W_seq rfl ?_
          refine W_seq rfl ?_
          refine W_reg rfl ?_
          refine Rv rfl rfl rfl (U_move rfl) rfl rfl ?_
          refine Rv rfl rfl rfl (U_eql rfl rfl) rfl rfl ?_
          refine Re rfl ?_
          refine thenQ_n ?_
          refine WcondP rfl rfl (fun hc3 => ?_) (fun hc3 => ?_)
          · refine W_reg rfl ?_
            refine Rv rfl rfl rfl (U_move rfl) rfl rfl ?_
            refine Rv rfl rfl rfl (U_add rfl rfl (w64e (m := ((m + 1 : Nat) : Int)) (by omega) (by omega) (by omega))) rfl rfl ?_
            refine Rv rfl rfl rfl (U_assign rfl) rfl rfl ?_
            refine Re rfl ?_
            refine thenQ_n ?_
            refine W_seq rfl ?_
            refine W_reg rfl ?_
            refine Rv rfl rfl rfl (U_move rfl) rfl rfl ?_
            refine Rv rfl rfl rfl (U_eql rfl rfl) rfl rfl ?_
            refine Re rfl ?_
            refine thenQ_n ?_
            refine WcondP rfl rfl (fun hc4 => ?_) (fun hc4 => ?_)
            · refine W_reg rfl ?_
              refine Rv rfl rfl rfl (U_move rfl) rfl rfl ?_
              refine Rv rfl rfl rfl (U_add rfl rfl (w64e (m := ((n + 1 : Nat) : Int)) (by omega) (by omega) (by omega))) rfl rfl ?_
              refine Rv rfl rfl rfl (U_assign rfl) rfl rfl ?_
              refine Re rfl ?_
              refine blkQ_n ?_
              refine thenQ_n ?_
              refine W_reg rfl ?_
              refine Rv rfl rfl rfl (U_move rfl) rfl rfl ?_
              refine Rv rfl rfl rfl (U_add rfl rfl (w64e (m := ((i + 1 : Nat) : Int)) (by omega) (by omega) (by omega))) rfl rfl ?_
              refine Rv rfl rfl rfl (U_assign rfl) rfl rfl ?_
              refine Re rfl ?_
              refine thenQ_n ?_
              exact againTo (T' := [(3, .rop [i64 ((H : Nat) : Int), i64 ((Z : Nat) : Int), .ros (ls.map boxesL) ls.length c] 0), (7, .rop [i64 ((f : Nat) : Int), i64 ((w : Nat) : Int), i64 ((l : Nat) : Int), i64 ((g : Nat) : Int)] 0), (8, .ptr 1 0), (9, i64 (((m + 1) : Nat) : Int)), (10, i64 (((n + 1) : Nat) : Int)), (11, i64 (((i + 1) : Nat) : Int))]) (H' := [(1, some (.cells [i64 ((((f : Nat) : Int) + (((y0 : Nat) : Int).tmod ((((w : Nat) : Int) - (1 + ((y1 % w : Nat) : Int))) + 1))).tmod ((H : Nat) : Int)), i64 (1 + ((y1 % w : Nat) : Int)), i64 (((l : Nat) : Int) + (((y2 : Nat) : Int).tmod (((g : Nat) : Int) - ((l : Nat) : Int)))), i64 (((((l : Nat) : Int) + (((y2 : Nat) : Int).tmod (((g : Nat) : Int) - ((l : Nat) : Int)))) + 1) + (((y3 : Nat) : Int).tmod (((g : Nat) : Int) - (((l : Nat) : Int) + (((y2 : Nat) : Int).tmod (((g : Nat) : Int) - ((l : Nat) : Int)))))))] 44))]) (n := 2) (ls.length - (i + 1)) ⟨i + 1, m + 1, n + 1, (by omega), (by first | (rw [kcK_t (by omega) (by omega), ← hi0_1]; done) | (rw [kcK_f (by omega) (by omega)]; exact hi0_1) | (exfalso; omega)), (by first | (rw [kcK_t (by omega) (by omega), ← hi0_2]; done) | (rw [kcK_f (by omega) (by omega)]; exact hi0_2) | (exfalso; omega)), rfl, rfl⟩ (by omega) id ⟨eD rfl rfl, eD rfl rfl, e_ rfl rfl, eD rfl rfl, eD rfl rfl, eD rfl rfl, trivial⟩ ⟨rD rfl rfl rfl, trivial⟩ rfl rfl rfl rfl (fun _ _ => rfl)
            · refine W_skip rfl ?_
              refine blkQ_n ?_
              refine thenQ_n ?_
              refine W_reg rfl ?_
              refine Rv rfl rfl rfl (U_move rfl) rfl rfl ?_
              refine Rv rfl rfl rfl (U_add rfl rfl (w64e (m := ((i + 1 : Nat) : Int)) (by omega) (by omega) (by omega))) rfl rfl ?_
              refine Rv rfl rfl rfl (U_assign rfl) rfl rfl ?_
              refine Re rfl ?_
              refine thenQ_n ?_
              exact againTo (T' := [(3, .rop [i64 ((H : Nat) : Int), i64 ((Z : Nat) : Int), .ros (ls.map boxesL) ls.length c] 0), (7, .rop [i64 ((f : Nat) : Int), i64 ((w : Nat) : Int), i64 ((l : Nat) : Int), i64 ((g : Nat) : Int)] 0), (8, .ptr 1 0), (9, i64 (((m + 1) : Nat) : Int)), (10, i64 ((n : Nat) : Int)), (11, i64 (((i + 1) : Nat) : Int))]) (H' := [(1, some (.cells [i64 ((((f : Nat) : Int) + (((y0 : Nat) : Int).tmod ((((w : Nat) : Int) - (1 + ((y1 % w : Nat) : Int))) + 1))).tmod ((H : Nat) : Int)), i64 (1 + ((y1 % w : Nat) : Int)), i64 (((l : Nat) : Int) + (((y2 : Nat) : Int).tmod (((g : Nat) : Int) - ((l : Nat) : Int)))), i64 (((((l : Nat) : Int) + (((y2 : Nat) : Int).tmod (((g : Nat) : Int) - ((l : Nat) : Int)))) + 1) + (((y3 : Nat) : Int).tmod (((g : Nat) : Int) - (((l : Nat) : Int) + (((y2 : Nat) : Int).tmod (((g : Nat) : Int) - ((l : Nat) : Int)))))))] 44))]) (n := 2) (ls.length - (i + 1)) ⟨i + 1, m + 1, n, (by omega), (by first | (rw [kcK_t (by omega) (by omega), ← hi0_1]; done) | (rw [kcK_f (by omega) (by omega)]; exact hi0_1) | (exfalso; omega)), (by first | (rw [kcK_t (by omega) (by omega), ← hi0_2]; done) | (rw [kcK_f (by omega) (by omega)]; exact hi0_2) | (exfalso; omega)), rfl, rfl⟩ (by omega) id ⟨eD rfl rfl, eD rfl rfl, e_ rfl rfl, eD rfl rfl, eD rfl rfl, eD rfl rfl, trivial⟩ ⟨rD rfl rfl rfl, trivial⟩ rfl rfl rfl rfl (fun _ _ => rfl)
          · refine W_skip rfl ?_
            refine thenQ_n ?_
            refine W_seq rfl ?_
            refine W_reg rfl ?_
            refine Rv rfl rfl rfl (U_move rfl) rfl rfl ?_
            refine Rv rfl rfl rfl (U_eql rfl rfl) rfl rfl ?_
            refine Re rfl ?_
            refine thenQ_n ?_
            refine WcondP rfl rfl (fun hc4 => ?_) (fun hc4 => ?_)
            · refine W_reg rfl ?_
              refine Rv rfl rfl rfl (U_move rfl) rfl rfl ?_
              refine Rv rfl rfl rfl (U_add rfl rfl (w64e (m := ((n + 1 : Nat) : Int)) (by omega) (by omega) (by omega))) rfl rfl ?_
              refine Rv rfl rfl rfl (U_assign rfl) rfl rfl ?_
              refine Re rfl ?_
              refine blkQ_n ?_
              refine thenQ_n ?_
              refine W_reg rfl ?_
              refine Rv rfl rfl rfl (U_move rfl) rfl rfl ?_
              refine Rv rfl rfl rfl (U_add rfl rfl (w64e (m := ((i + 1 : Nat) : Int)) (by omega) (by omega) (by omega))) rfl rfl ?_
              refine Rv rfl rfl rfl (U_assign rfl) rfl rfl ?_
              refine Re rfl ?_
              refine thenQ_n ?_
              exact againTo (T' := [(3, .rop [i64 ((H : Nat) : Int), i64 ((Z : Nat) : Int), .ros (ls.map boxesL) ls.length c] 0), (7, .rop [i64 ((f : Nat) : Int), i64 ((w : Nat) : Int), i64 ((l : Nat) : Int), i64 ((g : Nat) : Int)] 0), (8, .ptr 1 0), (9, i64 ((m : Nat) : Int)), (10, i64 (((n + 1) : Nat) : Int)), (11, i64 (((i + 1) : Nat) : Int))]) (H' := [(1, some (.cells [i64 ((((f : Nat) : Int) + (((y0 : Nat) : Int).tmod ((((w : Nat) : Int) - (1 + ((y1 % w : Nat) : Int))) + 1))).tmod ((H : Nat) : Int)), i64 (1 + ((y1 % w : Nat) : Int)), i64 (((l : Nat) : Int) + (((y2 : Nat) : Int).tmod (((g : Nat) : Int) - ((l : Nat) : Int)))), i64 (((((l : Nat) : Int) + (((y2 : Nat) : Int).tmod (((g : Nat) : Int) - ((l : Nat) : Int)))) + 1) + (((y3 : Nat) : Int).tmod (((g : Nat) : Int) - (((l : Nat) : Int) + (((y2 : Nat) : Int).tmod (((g : Nat) : Int) - ((l : Nat) : Int)))))))] 44))]) (n := 2) (ls.length - (i + 1)) ⟨i + 1, m, n + 1, (by omega), (by first | (rw [kcK_t (by omega) (by omega), ← hi0_1]; done) | (rw [kcK_f (by omega) (by omega)]; exact hi0_1) | (exfalso; omega)), (by first | (rw [kcK_t (by omega) (by omega), ← hi0_2]; done) | (rw [kcK_f (by omega) (by omega)]; exact hi0_2) | (exfalso; omega)), rfl, rfl⟩ (by omega) id ⟨eD rfl rfl, eD rfl rfl, e_ rfl rfl, eD rfl rfl, eD rfl rfl, eD rfl rfl, trivial⟩ ⟨rD rfl rfl rfl, trivial⟩ rfl rfl rfl rfl (fun _ _ => rfl)
            · refine W_skip rfl ?_
              refine blkQ_n ?_
              refine thenQ_n ?_
              refine W_reg rfl ?_
              refine Rv rfl rfl rfl (U_move rfl) rfl rfl ?_
              refine Rv rfl rfl rfl (U_add rfl rfl (w64e (m := ((i + 1 : Nat) : Int)) (by omega) (by omega) (by omega))) rfl rfl ?_
              refine Rv rfl rfl rfl (U_assign rfl) rfl rfl ?_
              refine Re rfl ?_
              refine thenQ_n ?_
              exact againTo (T' := [(3, .rop [i64 ((H : Nat) : Int), i64 ((Z : Nat) : Int), .ros (ls.map boxesL) ls.length c] 0), (7, .rop [i64 ((f : Nat) : Int), i64 ((w : Nat) : Int), i64 ((l : Nat) : Int), i64 ((g : Nat) : Int)] 0), (8, .ptr 1 0), (9, i64 ((m : Nat) : Int)), (10, i64 ((n : Nat) : Int)), (11, i64 (((i + 1) : Nat) : Int))]) (H' := [(1, some (.cells [i64 ((((f : Nat) : Int) + (((y0 : Nat) : Int).tmod ((((w : Nat) : Int) - (1 + ((y1 % w : Nat) : Int))) + 1))).tmod ((H : Nat) : Int)), i64 (1 + ((y1 % w : Nat) : Int)), i64 (((l : Nat) : Int) + (((y2 : Nat) : Int).tmod (((g : Nat) : Int) - ((l : Nat) : Int)))), i64 (((((l : Nat) : Int) + (((y2 : Nat) : Int).tmod (((g : Nat) : Int) - ((l : Nat) : Int)))) + 1) + (((y3 : Nat) : Int).tmod (((g : Nat) : Int) - (((l : Nat) : Int) + (((y2 : Nat) : Int).tmod (((g : Nat) : Int) - ((l : Nat) : Int)))))))] 44))]) (n := 2) (ls.length - (i + 1)) ⟨i + 1, m, n, (by omega), (by first | (rw [kcK_t (by omega) (by omega), ← hi0_1]; done) | (rw [kcK_f (by omega) (by omega)]; exact hi0_1) | (exfalso; omega)), (by first | (rw [kcK_t (by omega) (by omega), ← hi0_2]; done) | (rw [kcK_f (by omega) (by omega)]; exact hi0_2) | (exfalso; omega)), rfl, rfl⟩ (by omega) id ⟨eD rfl rfl, eD rfl rfl, e_ rfl rfl, eD rfl rfl, eD rfl rfl, eD rfl rfl, trivial⟩ ⟨rD rfl rfl rfl, trivial⟩ rfl rfl rfl rfl (fun _ _ => rfl)
        · rw [hg5]
          have hg5' : ¬ (((kinQ Z H ls[i] (⟨((f : Nat) : Int), ((w : Nat) : Int), ((l : Nat) : Int), ((g : Nat) : Int)⟩ : Bx) : Nat) : Int) ≠ 1) := of_decide_eq_false hg5
          refine Rs rfl rfl rfl rfl rfl ?_
          refine Rs rfl rfl rfl rfl rfl ?_
          refine Rs rfl rfl rfl rfl rfl ?_
          refine Rv rfl rfl rfl (U_pick_f rfl rfl) rfl rfl ?_
          refine Rv rfl rfl rfl (U_pick_f rfl rfl) rfl rfl ?_
          refine Re rfl ?_
          refine thenQ_n ?_
          refine Wcond rfl rfl (fun h => nomatch h) (fun _ => ?_)
          refine W_skip rfl ?_
          refine thenQ_n ?_
          refine W_seq rfl ?_
          refine W_seq rfl ?_
          refine W_reg rfl ?_
          refine Rv rfl rfl rfl (U_move rfl) rfl rfl ?_
          refine Rv rfl rfl rfl (U_eql rfl rfl) rfl rfl ?_
          refine Re rfl ?_
          refine thenQ_n ?_
          refine WcondP rfl rfl (fun hc3 => ?_) (fun hc3 => ?_)
          · refine W_reg rfl ?_
            refine Rv rfl rfl rfl (U_move rfl) rfl rfl ?_
            refine Rv rfl rfl rfl (U_add rfl rfl (w64e (m := ((m + 1 : Nat) : Int)) (by omega) (by omega) (by omega))) rfl rfl ?_
            refine Rv rfl rfl rfl (U_assign rfl) rfl rfl ?_
            refine Re rfl ?_
            refine thenQ_n ?_
            refine W_seq rfl ?_
            refine W_reg rfl ?_
            refine Rv rfl rfl rfl (U_move rfl) rfl rfl ?_
            refine Rv rfl rfl rfl (U_eql rfl rfl) rfl rfl ?_
            refine Re rfl ?_
            refine thenQ_n ?_
            refine WcondP rfl rfl (fun hc4 => ?_) (fun hc4 => ?_)
            · refine W_reg rfl ?_
              refine Rv rfl rfl rfl (U_move rfl) rfl rfl ?_
              refine Rv rfl rfl rfl (U_add rfl rfl (w64e (m := ((n + 1 : Nat) : Int)) (by omega) (by omega) (by omega))) rfl rfl ?_
              refine Rv rfl rfl rfl (U_assign rfl) rfl rfl ?_
              refine Re rfl ?_
              refine blkQ_n ?_
              refine thenQ_n ?_
              refine W_reg rfl ?_
              refine Rv rfl rfl rfl (U_move rfl) rfl rfl ?_
              refine Rv rfl rfl rfl (U_add rfl rfl (w64e (m := ((i + 1 : Nat) : Int)) (by omega) (by omega) (by omega))) rfl rfl ?_
              refine Rv rfl rfl rfl (U_assign rfl) rfl rfl ?_
              refine Re rfl ?_
              refine thenQ_n ?_
              exact againTo (T' := [(3, .rop [i64 ((H : Nat) : Int), i64 ((Z : Nat) : Int), .ros (ls.map boxesL) ls.length c] 0), (7, .rop [i64 ((f : Nat) : Int), i64 ((w : Nat) : Int), i64 ((l : Nat) : Int), i64 ((g : Nat) : Int)] 0), (8, .ptr 1 0), (9, i64 (((m + 1) : Nat) : Int)), (10, i64 (((n + 1) : Nat) : Int)), (11, i64 (((i + 1) : Nat) : Int))]) (H' := [(1, some (.cells [i64 ((((f : Nat) : Int) + (((y0 : Nat) : Int).tmod ((((w : Nat) : Int) - (1 + ((y1 % w : Nat) : Int))) + 1))).tmod ((H : Nat) : Int)), i64 (1 + ((y1 % w : Nat) : Int)), i64 (((l : Nat) : Int) + (((y2 : Nat) : Int).tmod (((g : Nat) : Int) - ((l : Nat) : Int)))), i64 (((((l : Nat) : Int) + (((y2 : Nat) : Int).tmod (((g : Nat) : Int) - ((l : Nat) : Int)))) + 1) + (((y3 : Nat) : Int).tmod (((g : Nat) : Int) - (((l : Nat) : Int) + (((y2 : Nat) : Int).tmod (((g : Nat) : Int) - ((l : Nat) : Int)))))))] 44))]) (n := 2) (ls.length - (i + 1)) ⟨i + 1, m + 1, n + 1, (by omega), (by first | (rw [kcK_t (by omega) (by omega), ← hi0_1]; done) | (rw [kcK_f (by omega) (by omega)]; exact hi0_1) | (exfalso; omega)), (by first | (rw [kcK_t (by omega) (by omega), ← hi0_2]; done) | (rw [kcK_f (by omega) (by omega)]; exact hi0_2) | (exfalso; omega)), rfl, rfl⟩ (by omega) id ⟨eD rfl rfl, eD rfl rfl, e_ rfl rfl, eD rfl rfl, eD rfl rfl, eD rfl rfl, trivial⟩ ⟨rD rfl rfl rfl, trivial⟩ rfl rfl rfl rfl (fun _ _ => rfl)
            · refine W_skip rfl ?_
              refine blkQ_n ?_
              refine thenQ_n ?_
              refine W_reg rfl ?_
              refine Rv rfl rfl rfl (U_move rfl) rfl rfl ?_
              refine Rv rfl rfl rfl (U_add rfl rfl (w64e (m := ((i + 1 : Nat) : Int)) (by omega) (by omega) (by omega))) rfl rfl ?_
              refine Rv rfl rfl rfl (U_assign rfl) rfl rfl ?_
              refine Re rfl ?_
              refine thenQ_n ?_
              exact againTo (T' := [(3, .rop [i64 ((H : Nat) : Int), i64 ((Z : Nat) : Int), .ros (ls.map boxesL) ls.length c] 0), (7, .rop [i64 ((f : Nat) : Int), i64 ((w : Nat) : Int), i64 ((l : Nat) : Int), i64 ((g : Nat) : Int)] 0), (8, .ptr 1 0), (9, i64 (((m + 1) : Nat) : Int)), (10, i64 ((n : Nat) : Int)), (11, i64 (((i + 1) : Nat) : Int))]) (H' := [(1, some (.cells [i64 ((((f : Nat) : Int) + (((y0 : Nat) : Int).tmod ((((w : Nat) : Int) - (1 + ((y1 % w : Nat) : Int))) + 1))).tmod ((H : Nat) : Int)), i64 (1 + ((y1 % w : Nat) : Int)), i64 (((l : Nat) : Int) + (((y2 : Nat) : Int).tmod (((g : Nat) : Int) - ((l : Nat) : Int)))), i64 (((((l : Nat) : Int) + (((y2 : Nat) : Int).tmod (((g : Nat) : Int) - ((l : Nat) : Int)))) + 1) + (((y3 : Nat) : Int).tmod (((g : Nat) : Int) - (((l : Nat) : Int) + (((y2 : Nat) : Int).tmod (((g : Nat) : Int) - ((l : Nat) : Int)))))))] 44))]) (n := 2) (ls.length - (i + 1)) ⟨i + 1, m + 1, n, (by omega), (by first | (rw [kcK_t (by omega) (by omega), ← hi0_1]; done) | (rw [kcK_f (by omega) (by omega)]; exact hi0_1) | (exfalso; omega)), (by first | (rw [kcK_t (by omega) (by omega), ← hi0_2]; done) | (rw [kcK_f (by omega) (by omega)]; exact hi0_2) | (exfalso; omega)), rfl, rfl⟩ (by omega) id ⟨eD rfl rfl, eD rfl rfl, e_ rfl rfl, eD rfl rfl, eD rfl rfl, eD rfl rfl, trivial⟩ ⟨rD rfl rfl rfl, trivial⟩ rfl rfl rfl rfl (fun _ _ => rfl)
          · refine W_skip rfl ?_
            refine thenQ_n ?_
            refine W_seq rfl ?_
            refine W_reg rfl ?_
            refine Rv rfl rfl rfl (U_move rfl) rfl rfl ?_
            refine Rv rfl rfl rfl (U_eql rfl rfl) rfl rfl ?_
            refine Re rfl ?_
            refine thenQ_n ?_
            refine WcondP rfl rfl (fun hc4 => ?_) (fun hc4 => ?_)
            · refine W_reg rfl ?_
              refine Rv rfl rfl rfl (U_move rfl) rfl rfl ?_
              refine Rv rfl rfl rfl (U_add rfl rfl (w64e (m := ((n + 1 : Nat) : Int)) (by omega) (by omega) (by omega))) rfl rfl ?_
              refine Rv rfl rfl rfl (U_assign rfl) rfl rfl ?_
              refine Re rfl ?_
              refine blkQ_n ?_
              refine thenQ_n ?_
              refine W_reg rfl ?_
              refine Rv rfl rfl rfl (U_move rfl) rfl rfl ?_
              refine Rv rfl rfl rfl (U_add rfl rfl (w64e (m := ((i + 1 : Nat) : Int)) (by omega) (by omega) (by omega))) rfl rfl ?_
              refine Rv rfl rfl rfl (U_assign rfl) rfl rfl ?_
              refine Re rfl ?_
              refine thenQ_n ?_
              exact againTo (T' := [(3, .rop [i64 ((H : Nat) : Int), i64 ((Z : Nat) : Int), .ros (ls.map boxesL) ls.length c] 0), (7, .rop [i64 ((f : Nat) : Int), i64 ((w : Nat) : Int), i64 ((l : Nat) : Int), i64 ((g : Nat) : Int)] 0), (8, .ptr 1 0), (9, i64 ((m : Nat) : Int)), (10, i64 (((n + 1) : Nat) : Int)), (11, i64 (((i + 1) : Nat) : Int))]) (H' := [(1, some (.cells [i64 ((((f : Nat) : Int) + (((y0 : Nat) : Int).tmod ((((w : Nat) : Int) - (1 + ((y1 % w : Nat) : Int))) + 1))).tmod ((H : Nat) : Int)), i64 (1 + ((y1 % w : Nat) : Int)), i64 (((l : Nat) : Int) + (((y2 : Nat) : Int).tmod (((g : Nat) : Int) - ((l : Nat) : Int)))), i64 (((((l : Nat) : Int) + (((y2 : Nat) : Int).tmod (((g : Nat) : Int) - ((l : Nat) : Int)))) + 1) + (((y3 : Nat) : Int).tmod (((g : Nat) : Int) - (((l : Nat) : Int) + (((y2 : Nat) : Int).tmod (((g : Nat) : Int) - ((l : Nat) : Int)))))))] 44))]) (n := 2) (ls.length - (i + 1)) ⟨i + 1, m, n + 1, (by omega), (by first | (rw [kcK_t (by omega) (by omega), ← hi0_1]; done) | (rw [kcK_f (by omega) (by omega)]; exact hi0_1) | (exfalso; omega)), (by first | (rw [kcK_t (by omega) (by omega), ← hi0_2]; done) | (rw [kcK_f (by omega) (by omega)]; exact hi0_2) | (exfalso; omega)), rfl, rfl⟩ (by omega) id ⟨eD rfl rfl, eD rfl rfl, e_ rfl rfl, eD rfl rfl, eD rfl rfl, eD rfl rfl, trivial⟩ ⟨rD rfl rfl rfl, trivial⟩ rfl rfl rfl rfl (fun _ _ => rfl)
            · refine W_skip rfl ?_
              refine blkQ_n ?_
              refine thenQ_n ?_
              refine W_reg rfl ?_
              refine Rv rfl rfl rfl (U_move rfl) rfl rfl ?_
              refine Rv rfl rfl rfl (U_add rfl rfl (w64e (m := ((i + 1 : Nat) : Int)) (by omega) (by omega) (by omega))) rfl rfl ?_
              refine Rv rfl rfl rfl (U_assign rfl) rfl rfl ?_
              refine Re rfl ?_
              refine thenQ_n ?_
              exact againTo (T' := [(3, .rop [i64 ((H : Nat) : Int), i64 ((Z : Nat) : Int), .ros (ls.map boxesL) ls.length c] 0), (7, .rop [i64 ((f : Nat) : Int), i64 ((w : Nat) : Int), i64 ((l : Nat) : Int), i64 ((g : Nat) : Int)] 0), (8, .ptr 1 0), (9, i64 ((m : Nat) : Int)), (10, i64 ((n : Nat) : Int)), (11, i64 (((i + 1) : Nat) : Int))]) (H' := [(1, some (.cells [i64 ((((f : Nat) : Int) + (((y0 : Nat) : Int).tmod ((((w : Nat) : Int) - (1 + ((y1 % w : Nat) : Int))) + 1))).tmod ((H : Nat) : Int)), i64 (1 + ((y1 % w : Nat) : Int)), i64 (((l : Nat) : Int) + (((y2 : Nat) : Int).tmod (((g : Nat) : Int) - ((l : Nat) : Int)))), i64 (((((l : Nat) : Int) + (((y2 : Nat) : Int).tmod (((g : Nat) : Int) - ((l : Nat) : Int)))) + 1) + (((y3 : Nat) : Int).tmod (((g : Nat) : Int) - (((l : Nat) : Int) + (((y2 : Nat) : Int).tmod (((g : Nat) : Int) - ((l : Nat) : Int)))))))] 44))]) (n := 2) (ls.length - (i + 1)) ⟨i + 1, m, n, (by omega), (by first | (rw [kcK_t (by omega) (by omega), ← hi0_1]; done) | (rw [kcK_f (by omega) (by omega)]; exact hi0_1) | (exfalso; omega)), (by first | (rw [kcK_t (by omega) (by omega), ← hi0_2]; done) | (rw [kcK_f (by omega) (by omega)]; exact hi0_2) | (exfalso; omega)), rfl, rfl⟩ (by omega) id ⟨eD rfl rfl, eD rfl rfl, e_ rfl rfl, eD rfl rfl, eD rfl rfl, eD rfl rfl, trivial⟩ ⟨rD rfl rfl rfl, trivial⟩ rfl rfl rfl rfl (fun _ _ => rfl)
    · rw [hg1]
      have hg1' : ¬ (((kinQ Z H ls[i] (⟨((f : Nat) : Int), ((w : Nat) : Int), ((l : Nat) : Int), ((g : Nat) : Int)⟩ : Bx) : Nat) : Int) ≠ 0) := of_decide_eq_false hg1
      refine Rs rfl rfl rfl rfl rfl ?_
      refine Rs rfl rfl rfl rfl rfl ?_
      refine Rv rfl rfl rfl (U_pick_f rfl rfl) rfl rfl ?_
      refine Rv rfl rfl rfl (U_move rfl) rfl rfl ?_
      refine Rs rfl rfl rfl rfl rfl ?_
      refine Rs rfl rfl rfl rfl rfl ?_
      refine Rv rfl rfl rfl (U_pick_f rfl rfl) rfl rfl ?_
      refine Rv rfl rfl rfl (U_pick_f rfl rfl) rfl rfl ?_
      refine Rv rfl rfl rfl (U_move rfl) rfl rfl ?_
      refine Rv rfl rfl rfl (U_move rfl) rfl rfl ?_
      refine Rv rfl rfl rfl (U_neq rfl rfl) rfl rfl ?_
      refine Rv rfl rfl rfl (U_move rfl) rfl rfl ?_
      refine Rsplit (t := 116) rfl (fun hg6 => ?_) (fun hg6 => ?_)
      · rw [hg6]
        have hg6' : ((kinQ Z H ls[i] (⟨((f : Nat) : Int), ((w : Nat) : Int), ((l : Nat) : Int), ((g : Nat) : Int)⟩ : Bx) : Nat) : Int) ≠ 1 := of_decide_eq_true hg6
        refine Rv rfl rfl rfl (U_move rfl) rfl rfl ?_
        refine Rv rfl rfl rfl (U_move rfl) rfl rfl ?_
        refine Rv rfl rfl rfl (U_neq rfl rfl) rfl rfl ?_
        refine Rv rfl rfl rfl (U_pick_t rfl rfl) rfl rfl ?_
        refine Rv rfl rfl rfl (U_pick_f rfl rfl) rfl rfl ?_
        refine Re rfl ?_
        refine thenQ_n ?_
        refine WcondP rfl rfl (fun hc2 => absurd hc2 (by simp; omega)) (fun hc2 => ?_)
        refine W_skip rfl ?_
        refine thenQ_n ?_
        refine W_seq rfl ?_
        refine W_seq rfl ?_
        refine W_reg rfl ?_
        refine Rv rfl rfl rfl (U_move rfl) rfl rfl ?_
        refine Rv rfl rfl rfl (U_eql rfl rfl) rfl rfl ?_
        refine Re rfl ?_
        refine thenQ_n ?_
        refine WcondP rfl rfl (fun hc3 => ?_) (fun hc3 => ?_)
        · refine W_reg rfl ?_
          refine Rv rfl rfl rfl (U_move rfl) rfl rfl ?_
          refine Rv rfl rfl rfl (U_add rfl rfl (w64e (m := ((m + 1 : Nat) : Int)) (by omega) (by omega) (by omega))) rfl rfl ?_
          refine Rv rfl rfl rfl (U_assign rfl) rfl rfl ?_
          refine Re rfl ?_
          refine thenQ_n ?_
          refine W_seq rfl ?_
          refine W_reg rfl ?_
          refine Rv rfl rfl rfl (U_move rfl) rfl rfl ?_
          refine Rv rfl rfl rfl (U_eql rfl rfl) rfl rfl ?_
          refine Re rfl ?_
          refine thenQ_n ?_
          refine WcondP rfl rfl (fun hc4 => ?_) (fun hc4 => ?_)
          · refine W_reg rfl ?_
            refine Rv rfl rfl rfl (U_move rfl) rfl rfl ?_
            refine Rv rfl rfl rfl (U_add rfl rfl (w64e (m := ((n + 1 : Nat) : Int)) (by omega) (by omega) (by omega))) rfl rfl ?_
            refine Rv rfl rfl rfl (U_assign rfl) rfl rfl ?_
            refine Re rfl ?_
            refine blkQ_n ?_
            refine thenQ_n ?_
            refine W_reg rfl ?_
            refine Rv rfl rfl rfl (U_move rfl) rfl rfl ?_
            refine Rv rfl rfl rfl (U_add rfl rfl (w64e (m := ((i + 1 : Nat) : Int)) (by omega) (by omega) (by omega))) rfl rfl ?_
            refine Rv rfl rfl rfl (U_assign rfl) rfl rfl ?_
            refine Re rfl ?_
            refine thenQ_n ?_
            exact againTo (T' := [(3, .rop [i64 ((H : Nat) : Int), i64 ((Z : Nat) : Int), .ros (ls.map boxesL) ls.length c] 0), (7, .rop [i64 ((f : Nat) : Int), i64 ((w : Nat) : Int), i64 ((l : Nat) : Int), i64 ((g : Nat) : Int)] 0), (8, .ptr 1 0), (9, i64 (((m + 1) : Nat) : Int)), (10, i64 (((n + 1) : Nat) : Int)), (11, i64 (((i + 1) : Nat) : Int))]) (H' := [(1, some (.cells [i64 ((((f : Nat) : Int) + (((y0 : Nat) : Int).tmod ((((w : Nat) : Int) - (1 + ((y1 % w : Nat) : Int))) + 1))).tmod ((H : Nat) : Int)), i64 (1 + ((y1 % w : Nat) : Int)), i64 (((l : Nat) : Int) + (((y2 : Nat) : Int).tmod (((g : Nat) : Int) - ((l : Nat) : Int)))), i64 (((((l : Nat) : Int) + (((y2 : Nat) : Int).tmod (((g : Nat) : Int) - ((l : Nat) : Int)))) + 1) + (((y3 : Nat) : Int).tmod (((g : Nat) : Int) - (((l : Nat) : Int) + (((y2 : Nat) : Int).tmod (((g : Nat) : Int) - ((l : Nat) : Int)))))))] 44))]) (n := 2) (ls.length - (i + 1)) ⟨i + 1, m + 1, n + 1, (by omega), (by first | (rw [kcK_t (by omega) (by omega), ← hi0_1]; done) | (rw [kcK_f (by omega) (by omega)]; exact hi0_1) | (exfalso; omega)), (by first | (rw [kcK_t (by omega) (by omega), ← hi0_2]; done) | (rw [kcK_f (by omega) (by omega)]; exact hi0_2) | (exfalso; omega)), rfl, rfl⟩ (by omega) id ⟨eD rfl rfl, eD rfl rfl, e_ rfl rfl, eD rfl rfl, eD rfl rfl, eD rfl rfl, trivial⟩ ⟨rD rfl rfl rfl, trivial⟩ rfl rfl rfl rfl (fun _ _ => rfl)
          · refine W_skip rfl ?_
            refine blkQ_n ?_
            refine thenQ_n ?_
            refine W_reg rfl ?_
            refine Rv rfl rfl rfl (U_move rfl) rfl rfl ?_
            refine Rv rfl rfl rfl (U_add rfl rfl (w64e (m := ((i + 1 : Nat) : Int)) (by omega) (by omega) (by omega))) rfl rfl ?_
            refine Rv rfl rfl rfl (U_assign rfl) rfl rfl ?_
            refine Re rfl ?_
            refine thenQ_n ?_
            exact againTo (T' := [(3, .rop [i64 ((H : Nat) : Int), i64 ((Z : Nat) : Int), .ros (ls.map boxesL) ls.length c] 0), (7, .rop [i64 ((f : Nat) : Int), i64 ((w : Nat) : Int), i64 ((l : Nat) : Int), i64 ((g : Nat) : Int)] 0), (8, .ptr 1 0), (9, i64 (((m + 1) : Nat) : Int)), (10, i64 ((n : Nat) : Int)), (11, i64 (((i + 1) : Nat) : Int))]) (H' := [(1, some (.cells [i64 ((((f : Nat) : Int) + (((y0 : Nat) : Int).tmod ((((w : Nat) : Int) - (1 + ((y1 % w : Nat) : Int))) + 1))).tmod ((H : Nat) : Int)), i64 (1 + ((y1 % w : Nat) : Int)), i64 (((l : Nat) : Int) + (((y2 : Nat) : Int).tmod (((g : Nat) : Int) - ((l : Nat) : Int)))), i64 (((((l : Nat) : Int) + (((y2 : Nat) : Int).tmod (((g : Nat) : Int) - ((l : Nat) : Int)))) + 1) + (((y3 : Nat) : Int).tmod (((g : Nat) : Int) - (((l : Nat) : Int) + (((y2 : Nat) : Int).tmod (((g : Nat) : Int) - ((l : Nat) : Int)))))))] 44))]) (n := 2) (ls.length - (i + 1)) ⟨i + 1, m + 1, n, (by omega), (by first | (rw [kcK_t (by omega) (by omega), ← hi0_1]; done) | (rw [kcK_f (by omega) (by omega)]; exact hi0_1) | (exfalso; omega)), (by first | (rw [kcK_t (by omega) (by omega), ← hi0_2]; done) | (rw [kcK_f (by omega) (by omega)]; exact hi0_2) | (exfalso; omega)), rfl, rfl⟩ (by omega) id ⟨eD rfl rfl, eD rfl rfl, e_ rfl rfl, eD rfl rfl, eD rfl rfl, eD rfl rfl, trivial⟩ ⟨rD rfl rfl rfl, trivial⟩ rfl rfl rfl rfl (fun _ _ => rfl)
        · refine W_skip rfl ?_
          refine thenQ_n ?_
          refine W_seq rfl ?_
          refine W_reg rfl ?_
          refine Rv rfl rfl rfl (U_move rfl) rfl rfl ?_
          refine Rv rfl rfl rfl (U_eql rfl rfl) rfl rfl ?_
          refine Re rfl ?_
          refine thenQ_n ?_
          refine WcondP rfl rfl (fun hc4 => ?_) (fun hc4 => ?_)
          · refine W_reg rfl ?_
            refine Rv rfl rfl rfl (U_move rfl) rfl rfl ?_
            refine Rv rfl rfl rfl (U_add rfl rfl (w64e (m := ((n + 1 : Nat) : Int)) (by omega) (by omega) (by omega))) rfl rfl ?_
            refine Rv rfl rfl rfl (U_assign rfl) rfl rfl ?_
            refine Re rfl ?_
            refine blkQ_n ?_
            refine thenQ_n ?_
            refine W_reg rfl ?_
            refine Rv rfl rfl rfl (U_move rfl) rfl rfl ?_
            refine Rv rfl rfl rfl (U_add rfl rfl (w64e (m := ((i + 1 : Nat) : Int)) (by omega) (by omega) (by omega))) rfl rfl ?_
            refine Rv rfl rfl rfl (U_assign rfl) rfl rfl ?_
            refine Re rfl ?_
            refine thenQ_n ?_
            exact againTo (T' := [(3, .rop [i64 ((H : Nat) : Int), i64 ((Z : Nat) : Int), .ros (ls.map boxesL) ls.length c] 0), (7, .rop [i64 ((f : Nat) : Int), i64 ((w : Nat) : Int), i64 ((l : Nat) : Int), i64 ((g : Nat) : Int)] 0), (8, .ptr 1 0), (9, i64 ((m : Nat) : Int)), (10, i64 (((n + 1) : Nat) : Int)), (11, i64 (((i + 1) : Nat) : Int))]) (H' := [(1, some (.cells [i64 ((((f : Nat) : Int) + (((y0 : Nat) : Int).tmod ((((w : Nat) : Int) - (1 + ((y1 % w : Nat) : Int))) + 1))).tmod ((H : Nat) : Int)), i64 (1 + ((y1 % w : Nat) : Int)), i64 (((l : Nat) : Int) + (((y2 : Nat) : Int).tmod (((g : Nat) : Int) - ((l : Nat) : Int)))), i64 (((((l : Nat) : Int) + (((y2 : Nat) : Int).tmod (((g : Nat) : Int) - ((l : Nat) : Int)))) + 1) + (((y3 : Nat) : Int).tmod (((g : Nat) : Int) - (((l : Nat) : Int) + (((y2 : Nat) : Int).tmod (((g : Nat) : Int) - ((l : Nat) : Int)))))))] 44))]) (n := 2) (ls.length - (i + 1)) ⟨i + 1, m, n + 1, (by omega), (by first | (rw [kcK_t (by omega) (by omega), ← hi0_1]; done) | (rw [kcK_f (by omega) (by omega)]; exact hi0_1) | (exfalso; omega)), (by first | (rw [kcK_t (by omega) (by omega), ← hi0_2]; done) | (rw [kcK_f (by omega) (by omega)]; exact hi0_2) | (exfalso; omega)), rfl, rfl⟩ (by omega) id ⟨eD rfl rfl, eD rfl rfl, e_ rfl rfl, eD rfl rfl, eD rfl rfl, eD rfl rfl, trivial⟩ ⟨rD rfl rfl rfl, trivial⟩ rfl rfl rfl rfl (fun _ _ => rfl)
          · refine W_skip rfl ?_
            refine blkQ_n ?_
            refine thenQ_n ?_
            refine W_reg rfl ?_
            refine Rv rfl rfl rfl (U_move rfl) rfl rfl ?_
            refine Rv rfl rfl rfl (U_add rfl rfl (w64e (m := ((i + 1 : Nat) : Int)) (by omega) (by omega) (by omega))) rfl rfl ?_
            refine Rv rfl rfl rfl (U_assign rfl) rfl rfl ?_
            refine Re rfl ?_
            refine thenQ_n ?_
            exact againTo (T' := [(3, .rop [i64 ((H : Nat) : Int), i64 ((Z : Nat) : Int), .ros (ls.map boxesL) ls.length c] 0), (7, .rop [i64 ((f : Nat) : Int), i64 ((w : Nat) : Int), i64 ((l : Nat) : Int), i64 ((g : Nat) : Int)] 0), (8, .ptr 1 0), (9, i64 ((m : Nat) : Int)), (10, i64 ((n : Nat) : Int)), (11, i64 (((i + 1) : Nat) : Int))]) (H' := [(1, some (.cells [i64 ((((f : Nat) : Int) + (((y0 : Nat) : Int).tmod ((((w : Nat) : Int) - (1 + ((y1 % w : Nat) : Int))) + 1))).tmod ((H : Nat) : Int)), i64 (1 + ((y1 % w : Nat) : Int)), i64 (((l : Nat) : Int) + (((y2 : Nat) : Int).tmod (((g : Nat) : Int) - ((l : Nat) : Int)))), i64 (((((l : Nat) : Int) + (((y2 : Nat) : Int).tmod (((g : Nat) : Int) - ((l : Nat) : Int)))) + 1) + (((y3 : Nat) : Int).tmod (((g : Nat) : Int) - (((l : Nat) : Int) + (((y2 : Nat) : Int).tmod (((g : Nat) : Int) - ((l : Nat) : Int)))))))] 44))]) (n := 2) (ls.length - (i + 1)) ⟨i + 1, m, n, (by omega), (by first | (rw [kcK_t (by omega) (by omega), ← hi0_1]; done) | (rw [kcK_f (by omega) (by omega)]; exact hi0_1) | (exfalso; omega)), (by first | (rw [kcK_t (by omega) (by omega), ← hi0_2]; done) | (rw [kcK_f (by omega) (by omega)]; exact hi0_2) | (exfalso; omega)), rfl, rfl⟩ (by omega) id ⟨eD rfl rfl, eD rfl rfl, e_ rfl rfl, eD rfl rfl, eD rfl rfl, eD rfl rfl, trivial⟩ ⟨rD rfl rfl rfl, trivial⟩ rfl rfl rfl rfl (fun _ _ => rfl)
      · rw [hg6]
        have hg6' : ¬ (((kinQ Z H ls[i] (⟨((f : Nat) : Int), ((w : Nat) : Int), ((l : Nat) : Int), ((g : Nat) : Int)⟩ : Bx) : Nat) : Int) ≠ 1) := of_decide_eq_false hg6
        refine Rs rfl rfl rfl rfl rfl ?_
        refine Rs rfl rfl rfl rfl rfl ?_
        refine Rs rfl rfl rfl rfl rfl ?_
        refine Rv rfl rfl rfl (U_pick_f rfl rfl) rfl rfl ?_
        refine Rv rfl rfl rfl (U_pick_f rfl rfl) rfl rfl ?_
        refine Re rfl ?_
        refine thenQ_n ?_
        refine Wcond rfl rfl (fun h => nomatch h) (fun _ => ?_)
        refine W_skip rfl ?_
        refine thenQ_n ?_
        refine W_seq rfl ?_
        refine W_seq rfl ?_
        refine W_reg rfl ?_
        refine Rv rfl rfl rfl (U_move rfl) rfl rfl ?_
        refine Rv rfl rfl rfl (U_eql rfl rfl) rfl rfl ?_
        refine Re rfl ?_
        refine thenQ_n ?_
        refine WcondP rfl rfl (fun hc3 => ?_) (fun hc3 => ?_)
        · refine W_reg rfl ?_
          refine Rv rfl rfl rfl (U_move rfl) rfl rfl ?_
          refine Rv rfl rfl rfl (U_add rfl rfl (w64e (m := ((m + 1 : Nat) : Int)) (by omega) (by omega) (by omega))) rfl rfl ?_
          refine Rv rfl rfl rfl (U_assign rfl) rfl rfl ?_
          refine Re rfl ?_
          refine thenQ_n ?_
          refine W_seq rfl ?_
          refine W_reg rfl ?_
          refine Rv rfl rfl rfl (U_move rfl) rfl rfl ?_
          refine Rv rfl rfl rfl (U_eql rfl rfl) rfl rfl ?_
          refine Re rfl ?_
          refine thenQ_n ?_
          refine WcondP rfl rfl (fun hc4 => ?_) (fun hc4 => ?_)
          · refine W_reg rfl ?_
            refine Rv rfl rfl rfl (U_move rfl) rfl rfl ?_
            refine Rv rfl rfl rfl (U_add rfl rfl (w64e (m := ((n + 1 : Nat) : Int)) (by omega) (by omega) (by omega))) rfl rfl ?_
            refine Rv rfl rfl rfl (U_assign rfl) rfl rfl ?_
            refine Re rfl ?_
            refine blkQ_n ?_
            refine thenQ_n ?_
            refine W_reg rfl ?_
            refine Rv rfl rfl rfl (U_move rfl) rfl rfl ?_
            refine Rv rfl rfl rfl (U_add rfl rfl (w64e (m := ((i + 1 : Nat) : Int)) (by omega) (by omega) (by omega))) rfl rfl ?_
            refine Rv rfl rfl rfl (U_assign rfl) rfl rfl ?_
            refine Re rfl ?_
            refine thenQ_n ?_
            exact againTo (T' := [(3, .rop [i64 ((H : Nat) : Int), i64 ((Z : Nat) : Int), .ros (ls.map boxesL) ls.length c] 0), (7, .rop [i64 ((f : Nat) : Int), i64 ((w : Nat) : Int), i64 ((l : Nat) : Int), i64 ((g : Nat) : Int)] 0), (8, .ptr 1 0), (9, i64 (((m + 1) : Nat) : Int)), (10, i64 (((n + 1) : Nat) : Int)), (11, i64 (((i + 1) : Nat) : Int))]) (H' := [(1, some (.cells [i64 ((((f : Nat) : Int) + (((y0 : Nat) : Int).tmod ((((w : Nat) : Int) - (1 + ((y1 % w : Nat) : Int))) + 1))).tmod ((H : Nat) : Int)), i64 (1 + ((y1 % w : Nat) : Int)), i64 (((l : Nat) : Int) + (((y2 : Nat) : Int).tmod (((g : Nat) : Int) - ((l : Nat) : Int)))), i64 (((((l : Nat) : Int) + (((y2 : Nat) : Int).tmod (((g : Nat) : Int) - ((l : Nat) : Int)))) + 1) + (((y3 : Nat) : Int).tmod (((g : Nat) : Int) - (((l : Nat) : Int) + (((y2 : Nat) : Int).tmod (((g : Nat) : Int) - ((l : Nat) : Int)))))))] 44))]) (n := 2) (ls.length - (i + 1)) ⟨i + 1, m + 1, n + 1, (by omega), (by first | (rw [kcK_t (by omega) (by omega), ← hi0_1]; done) | (rw [kcK_f (by omega) (by omega)]; exact hi0_1) | (exfalso; omega)), (by first | (rw [kcK_t (by omega) (by omega), ← hi0_2]; done) | (rw [kcK_f (by omega) (by omega)]; exact hi0_2) | (exfalso; omega)), rfl, rfl⟩ (by omega) id ⟨eD rfl rfl, eD rfl rfl, e_ rfl rfl, eD rfl rfl, eD rfl rfl, eD rfl rfl, trivial⟩ ⟨rD rfl rfl rfl, trivial⟩ rfl rfl rfl rfl (fun _ _ => rfl)
          · refine W_skip rfl ?_
            refine blkQ_n ?_
            refine thenQ_n ?_
            refine W_reg rfl ?_
            refine Rv rfl rfl rfl (U_move rfl) rfl rfl ?_
            refine Rv rfl rfl rfl (U_add rfl rfl (w64e (m := ((i + 1 : Nat) : Int)) (by omega) (by omega) (by omega))) rfl rfl ?_
            refine Rv rfl rfl rfl (U_assign rfl) rfl rfl ?_
            refine Re rfl ?_
            refine thenQ_n ?_
            exact againTo (T' := [(3, .rop [i64 ((H : Nat) : Int), i64 ((Z : Nat) : Int), .ros (ls.map boxesL) ls.length c] 0), (7, .rop [i64 ((f : Nat) : Int), i64 ((w : Nat) : Int), i64 ((l : Nat) : Int), i64 ((g : Nat) : Int)] 0), (8, .ptr 1 0), (9, i64 (((m + 1) : Nat) : Int)), (10, i64 ((n : Nat) : Int)), (11, i64 (((i + 1) : Nat) : Int))]) (H' := [(1, some (.cells [i64 ((((f : Nat) : Int) + (((y0 : Nat) : Int).tmod ((((w : Nat) : Int) - (1 + ((y1 % w : Nat) : Int))) + 1))).tmod ((H : Nat) : Int)), i64 (1 + ((y1 % w : Nat) : Int)), i64 (((l : Nat) : Int) + (((y2 : Nat) : Int).tmod (((g : Nat) : Int) - ((l : Nat) : Int)))), i64 (((((l : Nat) : Int) + (((y2 : Nat) : Int).tmod (((g : Nat) : Int) - ((l : Nat) : Int)))) + 1) + (((y3 : Nat) : Int).tmod (((g : Nat) : Int) - (((l : Nat) : Int) + (((y2 : Nat) : Int).tmod (((g : Nat) : Int) - ((l : Nat) : Int)))))))] 44))]) (n := 2) (ls.length - (i + 1)) ⟨i + 1, m + 1, n, (by omega), (by first | (rw [kcK_t (by omega) (by omega), ← hi0_1]; done) | (rw [kcK_f (by omega) (by omega)]; exact hi0_1) | (exfalso; omega)), (by first | (rw [kcK_t (by omega) (by omega), ← hi0_2]; done) | (rw [kcK_f (by omega) (by omega)]; exact hi0_2) | (exfalso; omega)), rfl, rfl⟩ (by omega) id ⟨eD rfl rfl, eD rfl rfl, e_ rfl rfl, eD rfl rfl, eD rfl rfl, eD rfl rfl, trivial⟩ ⟨rD rfl rfl rfl, trivial⟩ rfl rfl rfl rfl (fun _ _ => rfl)
        · refine W_skip rfl ?_
          refine thenQ_n ?_
          refine W_seq rfl ?_
          refine W_reg rfl ?_
          refine Rv rfl rfl rfl (U_move rfl) rfl rfl ?_
          refine Rv rfl rfl rfl (U_eql rfl rfl) rfl rfl ?_
          refine Re rfl ?_
          refine thenQ_n ?_
          refine WcondP rfl rfl (fun hc4 => ?_) (fun hc4 => ?_)
          · refine W_reg rfl ?_
            refine Rv rfl rfl rfl (U_move rfl) rfl rfl ?_
            refine Rv rfl rfl rfl (U_add rfl rfl (w64e (m := ((n + 1 : Nat) : Int)) (by omega) (by omega) (by omega))) rfl rfl ?_
            refine Rv rfl rfl rfl (U_assign rfl) rfl rfl ?_
            refine Re rfl ?_
            refine blkQ_n ?_
            refine thenQ_n ?_
            refine W_reg rfl ?_
            refine Rv rfl rfl rfl (U_move rfl) rfl rfl ?_
            refine Rv rfl rfl rfl (U_add rfl rfl (w64e (m := ((i + 1 : Nat) : Int)) (by omega) (by omega) (by omega))) rfl rfl ?_
            refine Rv rfl rfl rfl (U_assign rfl) rfl rfl ?_
            refine Re rfl ?_
            refine thenQ_n ?_
            exact againTo (T' := [(3, .rop [i64 ((H : Nat) : Int), i64 ((Z : Nat) : Int), .ros (ls.map boxesL) ls.length c] 0), (7, .rop [i64 ((f : Nat) : Int), i64 ((w : Nat) : Int), i64 ((l : Nat) : Int), i64 ((g : Nat) : Int)] 0), (8, .ptr 1 0), (9, i64 ((m : Nat) : Int)), (10, i64 (((n + 1) : Nat) : Int)), (11, i64 (((i + 1) : Nat) : Int))]) (H' := [(1, some (.cells [i64 ((((f : Nat) : Int) + (((y0 : Nat) : Int).tmod ((((w : Nat) : Int) - (1 + ((y1 % w : Nat) : Int))) + 1))).tmod ((H : Nat) : Int)), i64 (1 + ((y1 % w : Nat) : Int)), i64 (((l : Nat) : Int) + (((y2 : Nat) : Int).tmod (((g : Nat) : Int) - ((l : Nat) : Int)))), i64 (((((l : Nat) : Int) + (((y2 : Nat) : Int).tmod (((g : Nat) : Int) - ((l : Nat) : Int)))) + 1) + (((y3 : Nat) : Int).tmod (((g : Nat) : Int) - (((l : Nat) : Int) + (((y2 : Nat) : Int).tmod (((g : Nat) : Int) - ((l : Nat) : Int)))))))] 44))]) (n := 2) (ls.length - (i + 1)) ⟨i + 1, m, n + 1, (by omega), (by first | (rw [kcK_t (by omega) (by omega), ← hi0_1]; done) | (rw [kcK_f (by omega) (by omega)]; exact hi0_1) | (exfalso; omega)), (by first | (rw [kcK_t (by omega) (by omega), ← hi0_2]; done) | (rw [kcK_f (by omega) (by omega)]; exact hi0_2) | (exfalso; omega)), rfl, rfl⟩ (by omega) id ⟨eD rfl rfl, eD rfl rfl, e_ rfl rfl, eD rfl rfl, eD rfl rfl, eD rfl rfl, trivial⟩ ⟨rD rfl rfl rfl, trivial⟩ rfl rfl rfl rfl (fun _ _ => rfl)
          · refine W_skip rfl ?_
            refine blkQ_n ?_
            refine thenQ_n ?_
            refine W_reg rfl ?_
            refine Rv rfl rfl rfl (U_move rfl) rfl rfl ?_
            refine Rv rfl rfl rfl (U_add rfl rfl (w64e (m := ((i + 1 : Nat) : Int)) (by omega) (by omega) (by omega))) rfl rfl ?_
            refine Rv rfl rfl rfl (U_assign rfl) rfl rfl ?_
            refine Re rfl ?_
            refine thenQ_n ?_
            exact againTo (T' := [(3, .rop [i64 ((H : Nat) : Int), i64 ((Z : Nat) : Int), .ros (ls.map boxesL) ls.length c] 0), (7, .rop [i64 ((f : Nat) : Int), i64 ((w : Nat) : Int), i64 ((l : Nat) : Int), i64 ((g : Nat) : Int)] 0), (8, .ptr 1 0), (9, i64 ((m : Nat) : Int)), (10, i64 ((n : Nat) : Int)), (11, i64 (((i + 1) : Nat) : Int))]) (H' := [(1, some (.cells [i64 ((((f : Nat) : Int) + (((y0 : Nat) : Int).tmod ((((w : Nat) : Int) - (1 + ((y1 % w : Nat) : Int))) + 1))).tmod ((H : Nat) : Int)), i64 (1 + ((y1 % w : Nat) : Int)), i64 (((l : Nat) : Int) + (((y2 : Nat) : Int).tmod (((g : Nat) : Int) - ((l : Nat) : Int)))), i64 (((((l : Nat) : Int) + (((y2 : Nat) : Int).tmod (((g : Nat) : Int) - ((l : Nat) : Int)))) + 1) + (((y3 : Nat) : Int).tmod (((g : Nat) : Int) - (((l : Nat) : Int) + (((y2 : Nat) : Int).tmod (((g : Nat) : Int) - ((l : Nat) : Int)))))))] 44))]) (n := 2) (ls.length - (i + 1)) ⟨i + 1, m, n, (by omega), (by first | (rw [kcK_t (by omega) (by omega), ← hi0_1]; done) | (rw [kcK_f (by omega) (by omega)]; exact hi0_1) | (exfalso; omega)), (by first | (rw [kcK_t (by omega) (by omega), ← hi0_2]; done) | (rw [kcK_f (by omega) (by omega)]; exact hi0_2) | (exfalso; omega)), rfl, rfl⟩ (by omega) id ⟨eD rfl rfl, eD rfl rfl, e_ rfl rfl, eD rfl rfl, eD rfl rfl, eD rfl rfl, trivial⟩ ⟨rD rfl rfl rfl, trivial⟩ rfl rfl rfl rfl (fun _ _ => rfl)
  · have hil : i = ls.length := by omega
    rw [hil] at hi0_1 hi0_2
    refine W_exit rfl ?_
    refine thenQ_x ?_
    refine thenQ_x ?_
    refine blkQ_x rfl ?_
    refine thenQ_n ?_
    refine W_seq rfl ?_
    refine Wjoin ⟨[(6, .bool (bif (decide (((m : Nat) : Int) = 1)) then ((decide (((n : Nat) : Int) = 0)) || ((decide (((m : Nat) : Int) = 0)) && (decide (2 ≤ ((n : Nat) : Int))))) else ((decide (((m : Nat) : Int) = 0)) && (decide (2 ≤ ((n : Nat) : Int))))))], [], 0, []⟩ ?_ ?_
    · refine W_reg rfl ?_
      refine Rv rfl rfl rfl (U_load3 rfl rfl rfl rfl rfl) rfl rfl ?_
      refine Rv rfl rfl rfl (U_call rfl rfl (onceN_p H Z ls c hc hv hn) rfl) rfl rfl ?_
      refine Rv rfl rfl rfl (U_neq rfl rfl) rfl rfl ?_
      refine Rv rfl rfl rfl (U_move rfl) rfl rfl ?_
      refine Rv rfl rfl rfl (U_move rfl) rfl rfl ?_
      refine Rv rfl rfl rfl (U_eql rfl rfl) rfl rfl ?_
      refine Rv rfl rfl rfl (U_move rfl) rfl rfl ?_
      refine Rsplit (t := 136) rfl (fun hg7 => ?_) (fun hg7 => ?_)
      · rw [hg7]
        have hg7' : ((m : Nat) : Int) = 1 := of_decide_eq_true hg7
        refine Rv rfl rfl rfl (U_move rfl) rfl rfl ?_
        refine Rv rfl rfl rfl (U_eql rfl rfl) rfl rfl ?_
        refine Rv rfl rfl rfl (U_pick_t rfl rfl) rfl rfl ?_
        refine Rv rfl rfl rfl (U_pick_f rfl rfl) rfl rfl ?_
        refine Rv rfl rfl rfl (U_move rfl) rfl rfl ?_
        refine Rsplit (t := 141) rfl (fun hg8 => ?_) (fun hg8 => ?_)
        · rw [hg8]
          have hg8' : ((n : Nat) : Int) = 0 := of_decide_eq_true hg8
          refine Rs rfl rfl rfl rfl rfl ?_
          refine Rs rfl rfl rfl rfl rfl ?_
          refine Rs rfl rfl rfl rfl rfl ?_
          refine Rs rfl rfl rfl rfl rfl ?_
          refine Rs rfl rfl rfl rfl rfl ?_
          refine Rs rfl rfl rfl rfl rfl ?_
          refine Rv rfl rfl rfl (U_pick_t rfl rfl) rfl rfl ?_
          refine Rv rfl rfl rfl (U_move rfl) rfl rfl ?_
          refine Rv rfl rfl rfl (U_call rfl rfl (works_p) rfl) rfl rfl ?_
          refine Rv rfl rfl rfl (U_pick_t rfl rfl) rfl rfl ?_
          refine Rv rfl rfl rfl (U_assign rfl) rfl rfl ?_
          refine Re rfl ?_
          exact joinTo id ⟨eD rfl rfl, trivial⟩ trivial rfl rfl rfl rfl (fun _ _ => rfl)
        · rw [hg8]
          have hg8' : ¬ (((n : Nat) : Int) = 0) := of_decide_eq_false hg8
          refine Rv rfl rfl rfl (U_move rfl) rfl rfl ?_
          refine Rv rfl rfl rfl (U_eql rfl rfl) rfl rfl ?_
          refine Rv rfl rfl rfl (U_move rfl) rfl rfl ?_
          refine Rsplit (t := 144) rfl (fun hg9 => ?_) (fun hg9 => ?_)
          · rw [hg9]
            have hg9' : ((m : Nat) : Int) = 0 := of_decide_eq_true hg9
            refine Rv rfl rfl rfl (U_move rfl) rfl rfl ?_
            refine Rv rfl rfl rfl (U_geq rfl rfl) rfl rfl ?_
            refine Rv rfl rfl rfl (U_pick_t rfl rfl) rfl rfl ?_
            refine Rv rfl rfl rfl (U_pick_f rfl rfl) rfl rfl ?_
            refine Rv rfl rfl rfl (U_move rfl) rfl rfl ?_
            refine Rsplit (t := 149) rfl (fun hg10 => ?_) (fun hg10 => ?_)
            · rw [hg10]
              have hg10' : 2 ≤ ((n : Nat) : Int) := of_decide_eq_true hg10
              refine Rv rfl rfl rfl (U_call rfl rfl (works_p) rfl) rfl rfl ?_
              refine Rv rfl rfl rfl (U_pick_t rfl rfl) rfl rfl ?_
              refine Rv rfl rfl rfl (U_assign rfl) rfl rfl ?_
              refine Re rfl ?_
              exact joinTo id ⟨eD rfl rfl, trivial⟩ trivial rfl rfl rfl rfl (fun _ _ => rfl)
            · rw [hg10]
              have hg10' : ¬ (2 ≤ ((n : Nat) : Int)) := of_decide_eq_false hg10
              refine Rs rfl rfl rfl rfl rfl ?_
              refine Rv rfl rfl rfl (U_pick_f rfl rfl) rfl rfl ?_
              refine Rv rfl rfl rfl (U_assign rfl) rfl rfl ?_
              refine Re rfl ?_
              exact joinTo id ⟨eD rfl rfl, trivial⟩ trivial rfl rfl rfl rfl (fun _ _ => rfl)
          · rw [hg9]
            have hg9' : ¬ (((m : Nat) : Int) = 0) := of_decide_eq_false hg9
            refine Rs rfl rfl rfl rfl rfl ?_
            refine Rs rfl rfl rfl rfl rfl ?_
            refine Rv rfl rfl rfl (U_pick_f rfl rfl) rfl rfl ?_
            refine Rv rfl rfl rfl (U_pick_f rfl rfl) rfl rfl ?_
            refine Rv rfl rfl rfl (U_move rfl) rfl rfl ?_
            refine Rs rfl rfl rfl rfl rfl ?_
            refine Rv rfl rfl rfl (U_pick_f rfl rfl) rfl rfl ?_
            refine Rv rfl rfl rfl (U_assign rfl) rfl rfl ?_
            refine Re rfl ?_
            exact joinTo id ⟨eD rfl rfl, trivial⟩ trivial rfl rfl rfl rfl (fun _ _ => rfl)
      · rw [hg7]
        have hg7' : ¬ (((m : Nat) : Int) = 1) := of_decide_eq_false hg7
        refine Rs rfl rfl rfl rfl rfl ?_
        refine Rs rfl rfl rfl rfl rfl ?_
        refine Rv rfl rfl rfl (U_pick_f rfl rfl) rfl rfl ?_
        refine Rv rfl rfl rfl (U_pick_f rfl rfl) rfl rfl ?_
        refine Rv rfl rfl rfl (U_move rfl) rfl rfl ?_
        refine Rv rfl rfl rfl (U_move rfl) rfl rfl ?_
        refine Rv rfl rfl rfl (U_eql rfl rfl) rfl rfl ?_
        refine Rv rfl rfl rfl (U_move rfl) rfl rfl ?_
        refine Rsplit (t := 144) rfl (fun hg11 => ?_) (fun hg11 => ?_)
        · rw [hg11]
          have hg11' : ((m : Nat) : Int) = 0 := of_decide_eq_true hg11
          refine Rv rfl rfl rfl (U_move rfl) rfl rfl ?_
          refine Rv rfl rfl rfl (U_geq rfl rfl) rfl rfl ?_
          refine Rv rfl rfl rfl (U_pick_t rfl rfl) rfl rfl ?_
          refine Rv rfl rfl rfl (U_pick_f rfl rfl) rfl rfl ?_
          refine Rv rfl rfl rfl (U_move rfl) rfl rfl ?_
          refine Rsplit (t := 149) rfl (fun hg12 => ?_) (fun hg12 => ?_)
          · rw [hg12]
            have hg12' : 2 ≤ ((n : Nat) : Int) := of_decide_eq_true hg12
            refine Rv rfl rfl rfl (U_call rfl rfl (works_p) rfl) rfl rfl ?_
            refine Rv rfl rfl rfl (U_pick_t rfl rfl) rfl rfl ?_
            refine Rv rfl rfl rfl (U_assign rfl) rfl rfl ?_
            refine Re rfl ?_
            exact joinTo id ⟨eD rfl rfl, trivial⟩ trivial rfl rfl rfl rfl (fun _ _ => rfl)
          · rw [hg12]
            have hg12' : ¬ (2 ≤ ((n : Nat) : Int)) := of_decide_eq_false hg12
            refine Rs rfl rfl rfl rfl rfl ?_
            refine Rv rfl rfl rfl (U_pick_f rfl rfl) rfl rfl ?_
            refine Rv rfl rfl rfl (U_assign rfl) rfl rfl ?_
            refine Re rfl ?_
            exact joinTo id ⟨eD rfl rfl, trivial⟩ trivial rfl rfl rfl rfl (fun _ _ => rfl)
        · rw [hg11]
          have hg11' : ¬ (((m : Nat) : Int) = 0) := of_decide_eq_false hg11
          refine Rs rfl rfl rfl rfl rfl ?_
          refine Rs rfl rfl rfl rfl rfl ?_
          refine Rv rfl rfl rfl (U_pick_f rfl rfl) rfl rfl ?_
          refine Rv rfl rfl rfl (U_pick_f rfl rfl) rfl rfl ?_
          refine Rv rfl rfl rfl (U_move rfl) rfl rfl ?_
          refine Rs rfl rfl rfl rfl rfl ?_
          refine Rv rfl rfl rfl (U_pick_f rfl rfl) rfl rfl ?_
          refine Rv rfl rfl rfl (U_assign rfl) rfl rfl ?_
          refine Re rfl ?_
          exact joinTo id ⟨eD rfl rfl, trivial⟩ trivial rfl rfl rfl rfl (fun _ _ => rfl)
    refine thenQ_n ?_
    refine W_ret rfl ?_
    exact retL (rlT rfl rl0) (by first | rfl | (first | (exfalso; omega) | exact congrArg AV.bool (near_fin (by rw [hi0_1, hi0_2]; exact hno)); done)) rfl
theorem borderNearer2_p (H Z : Nat) (ls : List (List Bx)) (c : Option Nat) (hc : chkS ⟨H, Z, ls⟩ = 0) (hv : VS ⟨H, Z, ls⟩ H Z) (hg : grt ⟨H, Z, ls⟩ = false) (x0 x1 x2 x3 : Nat) (hx0 : x0 < 256) (hx1 : x1 < 256) (hx2 : x2 < 256) (hx3 : x3 < 256) (y0 y1 y2 y3 : Nat) (hy0 : y0 < 256) (hy1 : y1 < 256) (hy2 : y2 < 256) (hy3 : y3 < 256) (f w l g : Nat) (hbw : boxW Z H x0 x1 x2 x3 = ⟨f, w, l, g⟩) (hb : isB ⟨f, w, l, g⟩ H Z = true) (p : Nat × Nat) (hn : fltQ Z H ls = some p) : Pure Try.prog 12 [.agg [i64 (H : Nat), i64 (Z : Nat), landsA ls c], .agg [.int .u8 (x0 : Nat), .int .u8 (x1 : Nat), .int .u8 (x2 : Nat), .int .u8 (x3 : Nat)], .agg [.int .u8 (y0 : Nat), .int .u8 (y1 : Nat), .int .u8 (y2 : Nat), .int .u8 (y3 : Nat)]] (.bool true) := by
  have hv' := hv
  obtain ⟨_, _, hH, hZ1, hln, hlb, hbx⟩ := hv'
  simp only at hln hlb hbx
  have hZ := hZ1.2
  have hHZ : Z * H ≤ 1152 := Nat.mul_le_mul hZ hH.2
  have hHZc : H * Z = Z * H := Nat.mul_comm _ _
  have hbi := isB_iff.1 hb
  simp only at hbi
  have m1 := Nat.mod_lt y1 (show w > 0 by omega)
  have t2 := tmod_in (a := (y2 : Nat)) (b := ((g : Nat) : Int) - ((l : Nat) : Int)) (by omega) (by omega)
  have t0 := tmod_in (a := (y0 : Nat)) (b := (((w : Nat) : Int) - (1 + ((y1 % w : Nat) : Int))) + 1) (by omega) (by omega)
  have t3 := tmod_in (a := (y3 : Nat)) (b := ((g : Nat) : Int) - (((l : Nat) : Int) + (((y2 : Nat) : Int).tmod (((g : Nat) : Int) - ((l : Nat) : Int))))) (by omega) (by omega)
  have tf := tmod_in (a := ((f : Nat) : Int) + (((y0 : Nat) : Int).tmod ((((w : Nat) : Int) - (1 + ((y1 % w : Nat) : Int))) + 1))) (b := (H : Nat)) (by omega) (by omega)
  have hC : isB (⟨((((f : Nat) : Int) + (((y0 : Nat) : Int).tmod ((((w : Nat) : Int) - (1 + ((y1 % w : Nat) : Int))) + 1))).tmod ((H : Nat) : Int)), (1 + ((y1 % w : Nat) : Int)), (((l : Nat) : Int) + (((y2 : Nat) : Int).tmod (((g : Nat) : Int) - ((l : Nat) : Int)))), (((((l : Nat) : Int) + (((y2 : Nat) : Int).tmod (((g : Nat) : Int) - ((l : Nat) : Int)))) + 1) + (((y3 : Nat) : Int).tmod (((g : Nat) : Int) - (((l : Nat) : Int) + (((y2 : Nat) : Int).tmod (((g : Nat) : Int) - ((l : Nat) : Int)))))))⟩ : Bx) H Z = true := by
    rw [isB_iff]; simp only; omega
  have hwt : wthn (⟨f, w, l, g⟩ : Bx) (⟨((((f : Nat) : Int) + (((y0 : Nat) : Int).tmod ((((w : Nat) : Int) - (1 + ((y1 % w : Nat) : Int))) + 1))).tmod ((H : Nat) : Int)), (1 + ((y1 % w : Nat) : Int)), (((l : Nat) : Int) + (((y2 : Nat) : Int).tmod (((g : Nat) : Int) - ((l : Nat) : Int)))), (((((l : Nat) : Int) + (((y2 : Nat) : Int).tmod (((g : Nat) : Int) - ((l : Nat) : Int)))) + 1) + (((y3 : Nat) : Int).tmod (((g : Nat) : Int) - (((l : Nat) : Int) + (((y2 : Nat) : Int).tmod (((g : Nat) : Int) - ((l : Nat) : Int)))))))⟩ : Bx) H (((y0 : Nat) : Int).tmod ((((w : Nat) : Int) - (1 + ((y1 % w : Nat) : Int))) + 1)) := ⟨tmodP (by omega), t0.1, by simp only; omega, by simp only; omega, by simp only; omega⟩
  have hkn : ∀ L, kinQ Z H L (⟨f, w, l, g⟩ : Bx) = 1 ∨ kinQ Z H L (⟨((((f : Nat) : Int) + (((y0 : Nat) : Int).tmod ((((w : Nat) : Int) - (1 + ((y1 % w : Nat) : Int))) + 1))).tmod ((H : Nat) : Int)), (1 + ((y1 % w : Nat) : Int)), (((l : Nat) : Int) + (((y2 : Nat) : Int).tmod (((g : Nat) : Int) - ((l : Nat) : Int)))), (((((l : Nat) : Int) + (((y2 : Nat) : Int).tmod (((g : Nat) : Int) - ((l : Nat) : Int)))) + 1) + (((y3 : Nat) : Int).tmod (((g : Nat) : Int) - (((l : Nat) : Int) + (((y2 : Nat) : Int).tmod (((g : Nat) : Int) - ((l : Nat) : Int)))))))⟩ : Bx) = kinQ Z H L (⟨f, w, l, g⟩ : Bx) := fun L => by
    by_cases h : kinQ Z H L (⟨f, w, l, g⟩ : Bx) = 1
    · exact .inl h
    · exact .inr (kin_near hb hC hH.1 hwt h)
  refine pure_of_body Try.func12 (c := body Try.f12) rfl (by simp [Try.ntmps12]) fun w0 Φ0 => ?_
  refine W_seq rfl ?_
  refine W_reg rfl ?_
  refine Rv rfl rfl rfl (U_boxF rfl rfl rfl) rfl rfl ?_
  refine Rv rfl rfl rfl (U_boxF rfl rfl rfl) rfl rfl ?_
  refine Rv rfl rfl rfl (U_boxF rfl rfl rfl) rfl rfl ?_
  refine Rv rfl rfl rfl (U_assign rfl) rfl rfl ?_
  refine Re rfl ?_
  refine thenQ_n ?_
  refine W_seq rfl ?_
  refine W_seq rfl ?_
  refine W_reg rfl ?_
  refine Rv rfl rfl rfl (U_load3 rfl rfl rfl rfl rfl) rfl rfl ?_
  refine Rv rfl rfl rfl (U_call rfl rfl (fineT_p H Z ls c hg hc) rfl) rfl rfl ?_
  refine Rv rfl rfl rfl (U_not rfl) rfl rfl ?_
  refine Re rfl ?_
  refine thenQ_n ?_
  refine Wcond rfl rfl (fun h => nomatch h) (fun _ => ?_)
  refine W_skip rfl ?_
  refine thenQ_n ?_
  refine W_seq rfl ?_
  refine W_reg rfl ?_
  refine Rv rfl rfl rfl (U_load3 rfl rfl rfl rfl rfl) rfl rfl ?_
  refine Rv rfl rfl rfl (U_load4 rfl rfl rfl rfl rfl rfl) rfl rfl ?_
  refine Rv rfl rfl rfl (U_call rfl rfl (boxV_p H Z ls c hv x0 x1 x2 x3 hx0 hx1 hx2 hx3 f w l g hbw) rfl) rfl rfl ?_
  refine Ra rfl rfl rfl (U_alloc) rfl rfl rfl ?_
  refine Rn rfl rfl rfl (U_storeAll rfl rfl rfl rfl rfl rfl) rfl ?_
  refine Re rfl ?_
  refine thenQ_n ?_
  refine WfrN 0 rfl rfl (T' := [(3, .rop [i64 ((H : Nat) : Int), i64 ((Z : Nat) : Int), .ros (ls.map boxesL) ls.length c] 0), (5, .rop [.int .u8 ((y0 : Nat) : Int), .int .u8 ((y1 : Nat) : Int), .int .u8 ((y2 : Nat) : Int), .int .u8 ((y3 : Nat) : Int)] 0), (7, .rop [i64 ((f : Nat) : Int), i64 ((w : Nat) : Int), i64 ((l : Nat) : Int), i64 ((g : Nat) : Int)] 0)]) (H' := []) ⟨⟨_, rfl, rfl⟩, ⟨_, rfl, rfl⟩, ⟨_, rfl, rfl⟩, trivial⟩ trivial ?_
  refine W_seq rfl ?_
  refine Wdraw rfl (by kernel_rfl) (by kernel_rfl) ?_
  refine Dv rfl rfl rfl (U_indexAR (j := 1) rfl rfl rfl (by decide)) rfl rfl ?_
  refine Dv rfl rfl rfl (U_load1 rfl rfl rfl) rfl rfl ?_
  refine Dv rfl rfl rfl (U_convInt (by rfl) rfl (wr_i64 (by omega) (by omega))) rfl rfl ?_
  refine Dv rfl rfl rfl (U_fieldAddrR rfl) rfl rfl ?_
  refine Dv rfl rfl rfl (U_load1 rfl rfl rfl) rfl rfl ?_
  refine Dv rfl rfl rfl (U_rem (c := ((y1 % w : Nat) : Int)) rfl rfl (by omega) (tmodN _ _)) rfl rfl ?_
  refine Dv rfl rfl rfl (U_add rfl rfl (w64 (by omega) (by omega))) rfl rfl ?_
  refine Dv rfl rfl rfl (U_fieldAddrR rfl) rfl rfl ?_
  refine Dv rfl rfl rfl (U_load1 rfl rfl rfl) rfl rfl ?_
  refine Dv rfl rfl rfl (U_indexAR (j := 2) rfl rfl rfl (by decide)) rfl rfl ?_
  refine Dv rfl rfl rfl (U_load1 rfl rfl rfl) rfl rfl ?_
  refine Dv rfl rfl rfl (U_convInt (by rfl) rfl (wr_i64 (by omega) (by omega))) rfl rfl ?_
  refine Dv rfl rfl rfl (U_fieldAddrR rfl) rfl rfl ?_
  refine Dv rfl rfl rfl (U_load1 rfl rfl rfl) rfl rfl ?_
  refine Dv rfl rfl rfl (U_fieldAddrR rfl) rfl rfl ?_
  refine Dv rfl rfl rfl (U_load1 rfl rfl rfl) rfl rfl ?_
  refine Dv rfl rfl rfl (U_sub rfl rfl (w64 (by omega) (by omega))) rfl rfl ?_
  refine Dv rfl rfl rfl (U_rem rfl rfl (by omega) rfl) rfl rfl ?_
  refine Dv rfl rfl rfl (U_add rfl rfl (w64 (by omega) (by omega))) rfl rfl ?_
  refine Dv rfl rfl rfl (U_build rfl rfl) rfl rfl ?_
  refine Da rfl rfl rfl (U_alloc) rfl rfl rfl rfl ?_
  refine Dn_ rfl rfl rfl (U_storeAll rfl rfl rfl rfl rfl rfl) rfl rfl ?_
  refine Dr.nil rfl ?_
  refine thenQ_n ?_
  refine W_seq rfl ?_
  refine Wdraw rfl (by kernel_rfl) (by kernel_rfl) ?_
  refine Dv rfl rfl rfl (U_fieldAddrR rfl) rfl rfl ?_
  refine Dv rfl rfl rfl (U_load1 rfl rfl rfl) rfl rfl ?_
  refine Dv rfl rfl rfl (U_indexAR (j := 0) rfl rfl rfl (by decide)) rfl rfl ?_
  refine Dv rfl rfl rfl (U_load1 rfl rfl rfl) rfl rfl ?_
  refine Dv rfl rfl rfl (U_convInt (by rfl) rfl (wr_i64 (by omega) (by omega))) rfl rfl ?_
  refine Dv rfl rfl rfl (U_fieldAddrR rfl) rfl rfl ?_
  refine Dv rfl rfl rfl (U_load1 rfl rfl rfl) rfl rfl ?_
  refine Dv rfl rfl rfl (U_fieldAddr rfl) rfl rfl ?_
  refine Dv rfl rfl rfl (U_load1 rfl rfl rfl) rfl rfl ?_
  refine Dv rfl rfl rfl (U_sub rfl rfl (w64 (by omega) (by omega))) rfl rfl ?_
  refine Dv rfl rfl rfl (U_add rfl rfl (w64 (by omega) (by omega))) rfl rfl ?_
  refine Dv rfl rfl rfl (U_rem rfl rfl (by omega) rfl) rfl rfl ?_
  refine Dv rfl rfl rfl (U_add rfl rfl (w64 (by omega) (by omega))) rfl rfl ?_
  refine Dv rfl rfl rfl (U_fieldAddrR rfl) rfl rfl ?_
  refine Dv rfl rfl rfl (U_load1 rfl rfl rfl) rfl rfl ?_
  refine Dv rfl rfl rfl (U_rem rfl rfl (by omega) rfl) rfl rfl ?_
  refine Dv rfl rfl rfl (U_fieldAddr rfl) rfl rfl ?_
  refine Dn_ rfl rfl rfl (U_store rfl rfl rfl rfl rfl (Nat.le_of_ble_eq_true rfl) rfl rfl) rfl rfl ?_
  refine Dr.nil rfl ?_
  refine thenQ_n ?_
  refine W_seq rfl ?_
  refine Wdraw rfl (by kernel_rfl) (by kernel_rfl) ?_
  refine Dv rfl rfl rfl (U_fieldAddr rfl) rfl rfl ?_
  refine Dv rfl rfl rfl (U_load1 rfl rfl rfl) rfl rfl ?_
  refine Dv rfl rfl rfl (U_add rfl rfl (w64 (by omega) (by omega))) rfl rfl ?_
  refine Dv rfl rfl rfl (U_indexAR (j := 3) rfl rfl rfl (by decide)) rfl rfl ?_
  refine Dv rfl rfl rfl (U_load1 rfl rfl rfl) rfl rfl ?_
  refine Dv rfl rfl rfl (U_convInt (by rfl) rfl (wr_i64 (by omega) (by omega))) rfl rfl ?_
  refine Dv rfl rfl rfl (U_fieldAddrR rfl) rfl rfl ?_
  refine Dv rfl rfl rfl (U_load1 rfl rfl rfl) rfl rfl ?_
  refine Dv rfl rfl rfl (U_fieldAddr rfl) rfl rfl ?_
  refine Dv rfl rfl rfl (U_load1 rfl rfl rfl) rfl rfl ?_
  refine Dv rfl rfl rfl (U_sub rfl rfl (w64 (by omega) (by omega))) rfl rfl ?_
  refine Dv rfl rfl rfl (U_rem rfl rfl (by omega) rfl) rfl rfl ?_
  refine Dv rfl rfl rfl (U_add rfl rfl (w64 (by omega) (by omega))) rfl rfl ?_
  refine Dv rfl rfl rfl (U_fieldAddr rfl) rfl rfl ?_
  refine Dn_ rfl rfl rfl (U_store rfl rfl rfl rfl rfl (Nat.le_of_ble_eq_true rfl) rfl rfl) rfl rfl ?_
  refine Dr.nil rfl ?_
  refine thenQ_n ?_
  refine W_seq rfl ?_
  refine W_reg rfl ?_
  refine Rv rfl rfl rfl (U_assign rfl) rfl rfl ?_
  refine Rv rfl rfl rfl (U_assign rfl) rfl rfl ?_
  refine Re rfl ?_
  refine thenQ_n ?_
  refine W_seq rfl ?_
  refine W_seq rfl ?_
  refine W_reg rfl ?_
  refine Rv rfl rfl rfl (U_assign rfl) rfl rfl ?_
  refine Re rfl ?_
  refine thenQ_n ?_
  refine W_block rfl ?_
  refine LoopTo (T' := [(3, .rop [i64 ((H : Nat) : Int), i64 ((Z : Nat) : Int), .ros (ls.map boxesL) ls.length c] 0), (7, .rop [i64 ((f : Nat) : Int), i64 ((w : Nat) : Int), i64 ((l : Nat) : Int), i64 ((g : Nat) : Int)] 0), (8, .ptr 1 0), (9, i64 ((0 : Nat) : Int)), (10, i64 ((0 : Nat) : Int)), (11, i64 ((0 : Nat) : Int))]) (H' := [(1, some (.cells [i64 ((((f : Nat) : Int) + (((y0 : Nat) : Int).tmod ((((w : Nat) : Int) - (1 + ((y1 % w : Nat) : Int))) + 1))).tmod ((H : Nat) : Int)), i64 (1 + ((y1 % w : Nat) : Int)), i64 (((l : Nat) : Int) + (((y2 : Nat) : Int).tmod (((g : Nat) : Int) - ((l : Nat) : Int)))), i64 (((((l : Nat) : Int) + (((y2 : Nat) : Int).tmod (((g : Nat) : Int) - ((l : Nat) : Int)))) + 1) + (((y3 : Nat) : Int).tmod (((g : Nat) : Int) - (((l : Nat) : Int) + (((y2 : Nat) : Int).tmod (((g : Nat) : Int) - ((l : Nat) : Int)))))))] 44))]) (n := 2) rfl (fun mz_ qz_ => ∃ (i : Nat) (m : Nat) (n : Nat), i ≤ ls.length ∧ m = kcK Z H ls ⟨f, w, l, g⟩ 2 i ∧ n = kcK Z H ls ⟨f, w, l, g⟩ 1 i ∧ mz_ = ls.length - i ∧ qz_ = ⟨[(3, .rop [i64 ((H : Nat) : Int), i64 ((Z : Nat) : Int), .ros (ls.map boxesL) ls.length c] 0), (7, .rop [i64 ((f : Nat) : Int), i64 ((w : Nat) : Int), i64 ((l : Nat) : Int), i64 ((g : Nat) : Int)] 0), (8, .ptr 1 0), (9, i64 ((m : Nat) : Int)), (10, i64 ((n : Nat) : Int)), (11, i64 ((i : Nat) : Int))], [(1, some (.cells [i64 ((((f : Nat) : Int) + (((y0 : Nat) : Int).tmod ((((w : Nat) : Int) - (1 + ((y1 % w : Nat) : Int))) + 1))).tmod ((H : Nat) : Int)), i64 (1 + ((y1 % w : Nat) : Int)), i64 (((l : Nat) : Int) + (((y2 : Nat) : Int).tmod (((g : Nat) : Int) - ((l : Nat) : Int)))), i64 (((((l : Nat) : Int) + (((y2 : Nat) : Int).tmod (((g : Nat) : Int) - ((l : Nat) : Int)))) + 1) + (((y3 : Nat) : Int).tmod (((g : Nat) : Int) - (((l : Nat) : Int) + (((y2 : Nat) : Int).tmod (((g : Nat) : Int) - ((l : Nat) : Int)))))))] 44))], 2, []⟩) ⟨0, 0, 0, (by omega), rfl, rfl, rfl, rfl⟩ id ⟨eD rfl rfl, eD rfl rfl, e_ rfl rfl, eD rfl rfl, eD rfl rfl, eD rfl rfl, trivial⟩ ⟨rD rfl rfl rfl, trivial⟩ rfl rfl rfl rfl (fun _ _ => rfl) ?_
  rintro _ _ ⟨i, m, n, hi0_0, hi0_1, hi0_2, rfl, rfl⟩
  have hck1 := kcK_le (Z := Z) (H := H) (ls := ls) (b := ⟨f, w, l, g⟩) (v := 2) (k := i)
  have hck2 := kcK_le (Z := Z) (H := H) (ls := ls) (b := ⟨f, w, l, g⟩) (v := 1) (k := i)
  refine W_seq rfl ?_
  refine W_seq rfl ?_
  refine W_reg rfl ?_
  refine Rv rfl rfl rfl (U_move rfl) rfl rfl ?_
  refine Rv rfl rfl rfl (U_fieldAddrR rfl) rfl rfl ?_
  refine Rv rfl rfl rfl (U_load1 rfl rfl rfl) rfl rfl ?_
  refine Rv rfl rfl rfl (U_lenOf rfl len_ros) rfl rfl ?_
  refine Rv rfl rfl rfl (U_lss rfl rfl) rfl rfl ?_
  refine Re rfl ?_
  refine thenQ_n ?_
  refine WcondP rfl rfl (fun hc1 => ?_) (fun hc1 => ?_)
  · have hk1 := hkn ls[i]
    have hk2 := kin_le (Z := Z) (H := H) (l := ls[i]) (b := (⟨f, w, l, g⟩ : Bx))
    have hk3 := kin_le (Z := Z) (H := H) (l := ls[i]) (b := (⟨((((f : Nat) : Int) + (((y0 : Nat) : Int).tmod ((((w : Nat) : Int) - (1 + ((y1 % w : Nat) : Int))) + 1))).tmod ((H : Nat) : Int)), (1 + ((y1 % w : Nat) : Int)), (((l : Nat) : Int) + (((y2 : Nat) : Int).tmod (((g : Nat) : Int) - ((l : Nat) : Int)))), (((((l : Nat) : Int) + (((y2 : Nat) : Int).tmod (((g : Nat) : Int) - ((l : Nat) : Int)))) + 1) + (((y3 : Nat) : Int).tmod (((g : Nat) : Int) - (((l : Nat) : Int) + (((y2 : Nat) : Int).tmod (((g : Nat) : Int) - ((l : Nat) : Int)))))))⟩ : Bx))
    refine W_skip rfl ?_
    refine thenQ_n ?_
    refine W_seq rfl ?_
    refine W_block rfl ?_
    refine W_seq rfl ?_
    refine W_reg rfl ?_
    refine Rv rfl rfl rfl (U_load3 rfl rfl rfl rfl rfl) rfl rfl ?_
    refine Rv rfl rfl rfl (U_move rfl) rfl rfl ?_
    refine Rv rfl rfl rfl (U_load4 rfl rfl rfl rfl rfl rfl) rfl rfl ?_
    refine Rv rfl rfl rfl (U_call rfl rfl (kin_g H Z ls c hc hv i (by omega) (⟨((f : Nat) : Int), ((w : Nat) : Int), ((l : Nat) : Int), ((g : Nat) : Int)⟩ : Bx) (by assumption)) rfl) rfl rfl ?_
    refine Rv rfl rfl rfl (U_move rfl) rfl rfl ?_
    refine Rv rfl rfl rfl (U_extract rfl rfl) rfl rfl ?_
    refine Rv rfl rfl rfl (U_extract rfl rfl) rfl rfl ?_
    refine Rv rfl rfl rfl (U_assign rfl) rfl rfl ?_
    refine Rv rfl rfl rfl (U_assign rfl) rfl rfl ?_
    refine Re rfl ?_
    refine thenQ_n ?_
    refine W_seq rfl ?_
    refine W_reg rfl ?_
    refine Rv rfl rfl rfl (U_load3 rfl rfl rfl rfl rfl) rfl rfl ?_
    refine Rv rfl rfl rfl (U_move rfl) rfl rfl ?_
    refine Rv rfl rfl rfl (U_load4 rfl rfl rfl rfl rfl rfl) rfl rfl ?_
    refine Rv rfl rfl rfl (U_call rfl rfl (kin_g H Z ls c hc hv i (by omega) (⟨((((f : Nat) : Int) + (((y0 : Nat) : Int).tmod ((((w : Nat) : Int) - (1 + ((y1 % w : Nat) : Int))) + 1))).tmod ((H : Nat) : Int)), (1 + ((y1 % w : Nat) : Int)), (((l : Nat) : Int) + (((y2 : Nat) : Int).tmod (((g : Nat) : Int) - ((l : Nat) : Int)))), (((((l : Nat) : Int) + (((y2 : Nat) : Int).tmod (((g : Nat) : Int) - ((l : Nat) : Int)))) + 1) + (((y3 : Nat) : Int).tmod (((g : Nat) : Int) - (((l : Nat) : Int) + (((y2 : Nat) : Int).tmod (((g : Nat) : Int) - ((l : Nat) : Int)))))))⟩ : Bx) (by assumption)) rfl) rfl rfl ?_
    refine Rv rfl rfl rfl (U_move rfl) rfl rfl ?_
    refine Rv rfl rfl rfl (U_extract rfl rfl) rfl rfl ?_
    refine Rv rfl rfl rfl (U_extract rfl rfl) rfl rfl ?_
    refine Rv rfl rfl rfl (U_assign rfl) rfl rfl ?_
    refine Rv rfl rfl rfl (U_assign rfl) rfl rfl ?_
    refine Re rfl ?_
    refine thenQ_n ?_
    refine W_seq rfl ?_
    refine W_seq rfl ?_
    refine W_reg rfl ?_
    refine Rv rfl rfl rfl (U_move rfl) rfl rfl ?_
    refine Rv rfl rfl rfl (U_neq rfl rfl) rfl rfl ?_
    refine Rv rfl rfl rfl (U_move rfl) rfl rfl ?_
    refine Rv rfl rfl rfl (U_move rfl) rfl rfl ?_
    refine Rv rfl rfl rfl (U_neq rfl rfl) rfl rfl ?_
    refine Rv rfl rfl rfl (U_pick_f rfl rfl) rfl rfl ?_
    refine Rv rfl rfl rfl (U_move rfl) rfl rfl ?_
    refine Rv rfl rfl rfl (U_move rfl) rfl rfl ?_
    refine Rv rfl rfl rfl (U_neq rfl rfl) rfl rfl ?_
    refine Rv rfl rfl rfl (U_move rfl) rfl rfl ?_
    refine Rsplit (t := 104) rfl (fun hg1 => ?_) (fun hg1 => ?_)
    · rw [hg1]
      have hg1' : ((kinQ Z H ls[i] (⟨((f : Nat) : Int), ((w : Nat) : Int), ((l : Nat) : Int), ((g : Nat) : Int)⟩ : Bx) : Nat) : Int) ≠ 0 := of_decide_eq_true hg1
      refine Rv rfl rfl rfl (U_move rfl) rfl rfl ?_
      refine Rv rfl rfl rfl (U_neq rfl rfl) rfl rfl ?_
      refine Rv rfl rfl rfl (U_pick_t rfl rfl) rfl rfl ?_
      refine Rv rfl rfl rfl (U_move rfl) rfl rfl ?_
      refine Rsplit (t := 108) rfl (fun hg2 => ?_) (fun hg2 => ?_)
      · rw [hg2]
        have hg2' : ((kinQ Z H ls[i] (⟨((f : Nat) : Int), ((w : Nat) : Int), ((l : Nat) : Int), ((g : Nat) : Int)⟩ : Bx) : Nat) : Int) ≠ 1 := of_decide_eq_true hg2
        refine Rv rfl rfl rfl (U_move rfl) rfl rfl ?_
        refine Rv rfl rfl rfl (U_neq rfl rfl) rfl rfl ?_
        refine Rv rfl rfl rfl (U_pick_t rfl rfl) rfl rfl ?_
        refine Rv rfl rfl rfl (U_pick_f rfl rfl) rfl rfl ?_
        refine Rv rfl rfl rfl (U_move rfl) rfl rfl ?_
        refine Rsplit (t := 113) rfl (fun hg3 => ?_) (fun hg3 => ?_)
        · rw [hg3]
          have hg3' : ((kinQ Z H ls[i] (⟨((f : Nat) : Int), ((w : Nat) : Int), ((l : Nat) : Int), ((g : Nat) : Int)⟩ : Bx) : Nat) : Int) ≠ 2 := of_decide_eq_true hg3
          refine Rs rfl rfl rfl rfl rfl ?_
          refine Rs rfl rfl rfl rfl rfl ?_
          refine Rs rfl rfl rfl rfl rfl ?_
          refine Rs rfl rfl rfl rfl rfl ?_
          refine Rs rfl rfl rfl rfl rfl ?_
          refine Rs rfl rfl rfl rfl rfl ?_
          refine Rs rfl rfl rfl rfl rfl ?_
          refine Rv rfl rfl rfl (U_pick_t rfl rfl) rfl rfl ?_
          refine Re rfl ?_
          refine thenQ_n ?_
          refine Wcond rfl rfl (fun _ => ?_) (fun h => nomatch h)
          refine W_seq rfl ?_
          refine W_reg rfl ?_
          refine Rv rfl rfl rfl (U_assign rfl) rfl rfl ?_
          refine Re rfl ?_
          refine thenQ_n ?_
          refine W_ret rfl ?_
          refine thenQ_r ?_
          refine blkQ_r ?_
          refine thenQ_r ?_
          refine thenQ_r ?_
          refine blkQ_r ?_
          refine thenQ_r ?_
          exact retL (rlT rfl rl0) (by first | rfl | (first | (exfalso; omega) | (simp; done); done)) rfl
        · rw [hg3]
          have hg3' : ¬ (((kinQ Z H ls[i] (⟨((f : Nat) : Int), ((w : Nat) : Int), ((l : Nat) : Int), ((g : Nat) : Int)⟩ : Bx) : Nat) : Int) ≠ 2) := of_decide_eq_false hg3
          refine Rv rfl rfl rfl (U_move rfl) rfl rfl ?_
          refine Rv rfl rfl rfl (U_neq rfl rfl) rfl rfl ?_
          refine Rv rfl rfl rfl (U_move rfl) rfl rfl ?_
          refine Rsplit (t := 116) rfl (fun hg4 => ?_) (fun hg4 => ?_)
          · rw [hg4]
            have hg4' : ((kinQ Z H ls[i] (⟨((f : Nat) : Int), ((w : Nat) : Int), ((l : Nat) : Int), ((g : Nat) : Int)⟩ : Bx) : Nat) : Int) ≠ 1 := of_decide_eq_true hg4
            refine Rv rfl rfl rfl (U_move rfl) rfl rfl ?_
            refine Rv rfl rfl rfl (U_move rfl) rfl rfl ?_
            refine Rv rfl rfl rfl (U_neq rfl rfl) rfl rfl ?_
            refine Rv rfl rfl rfl (U_pick_t rfl rfl) rfl rfl ?_
            refine Rv rfl rfl rfl (U_pick_f rfl rfl) rfl rfl ?_
            refine Re rfl ?_
            refine thenQ_n ?_
            refine WcondP rfl rfl (fun hc2 => absurd hc2 (by simp; omega)) (fun hc2 => ?_)
            refine W_skip rfl ?_
            refine thenQ_n ?_
            refine W_seq rfl ?_
            refine W_seq rfl ?_
            refine W_reg rfl ?_
            refine Rv rfl rfl rfl (U_move rfl) rfl rfl ?_
            refine Rv rfl rfl rfl (U_eql rfl rfl) rfl rfl ?_
            refine Re rfl ?_
            refine thenQ_n ?_
            refine WcondP rfl rfl (fun hc3 => ?_) (fun hc3 => ?_)
            · refine W_reg rfl ?_
              refine Rv rfl rfl rfl (U_move rfl) rfl rfl ?_
              refine Rv rfl rfl rfl (U_add rfl rfl (w64e (m := ((m + 1 : Nat) : Int)) (by omega) (by omega) (by omega))) rfl rfl ?_
              refine Rv rfl rfl rfl (U_assign rfl) rfl rfl ?_
              refine Re rfl ?_
              refine thenQ_n ?_
              refine W_seq rfl ?_
              refine W_reg rfl ?_
              refine Rv rfl rfl rfl (U_move rfl) rfl rfl ?_
              refine Rv rfl rfl rfl (U_eql rfl rfl) rfl rfl ?_
              refine Re rfl ?_
              refine thenQ_n ?_
              refine WcondP rfl rfl (fun hc4 => ?_) (fun hc4 => ?_)
              · refine W_reg rfl ?_
                refine Rv rfl rfl rfl (U_move rfl) rfl rfl ?_
                refine Rv rfl rfl rfl (U_add rfl rfl (w64e (m := ((n + 1 : Nat) : Int)) (by omega) (by omega) (by omega))) rfl rfl ?_
                refine Rv rfl rfl rfl (U_assign rfl) rfl rfl ?_
                refine Re rfl ?_
                refine blkQ_n ?_
                refine thenQ_n ?_
                refine W_reg rfl ?_
                refine Rv rfl rfl rfl (U_move rfl) rfl rfl ?_
                refine Rv rfl rfl rfl (U_add rfl rfl (w64e (m := ((i + 1 : Nat) : Int)) (by omega) (by omega) (by omega))) rfl rfl ?_
                refine Rv rfl rfl rfl (U_assign rfl) rfl rfl ?_
                refine Re rfl ?_
                refine thenQ_n ?_
                exact againTo (T' := [(3, .rop [i64 ((H : Nat) : Int), i64 ((Z : Nat) : Int), .ros (ls.map boxesL) ls.length c] 0), (7, .rop [i64 ((f : Nat) : Int), i64 ((w : Nat) : Int), i64 ((l : Nat) : Int), i64 ((g : Nat) : Int)] 0), (8, .ptr 1 0), (9, i64 (((m + 1) : Nat) : Int)), (10, i64 (((n + 1) : Nat) : Int)), (11, i64 (((i + 1) : Nat) : Int))]) (H' := [(1, some (.cells [i64 ((((f : Nat) : Int) + (((y0 : Nat) : Int).tmod ((((w : Nat) : Int) - (1 + ((y1 % w : Nat) : Int))) + 1))).tmod ((H : Nat) : Int)), i64 (1 + ((y1 % w : Nat) : Int)), i64 (((l : Nat) : Int) + (((y2 : Nat) : Int).tmod (((g : Nat) : Int) - ((l : Nat) : Int)))), i64 (((((l : Nat) : Int) + (((y2 : Nat) : Int).tmod (((g : Nat) : Int) - ((l : Nat) : Int)))) + 1) + (((y3 : Nat) : Int).tmod (((g : Nat) : Int) - (((l : Nat) : Int) + (((y2 : Nat) : Int).tmod (((g : Nat) : Int) - ((l : Nat) : Int)))))))] 44))]) (n := 2) (ls.length - (i + 1)) ⟨i + 1, m + 1, n + 1, (by omega), (by first | (rw [kcK_t (by omega) (by omega), ← hi0_1]; done) | (rw [kcK_f (by omega) (by omega)]; exact hi0_1) | (exfalso; omega)), (by first | (rw [kcK_t (by omega) (by omega), ← hi0_2]; done) | (rw [kcK_f (by omega) (by omega)]; exact hi0_2) | (exfalso; omega)), rfl, rfl⟩ (by omega) id ⟨eD rfl rfl, eD rfl rfl, e_ rfl rfl, eD rfl rfl, eD rfl rfl, eD rfl rfl, trivial⟩ ⟨rD rfl rfl rfl, trivial⟩ rfl rfl rfl rfl (fun _ _ => rfl)
              · refine W_skip rfl ?_
                refine blkQ_n ?_
                refine thenQ_n ?_
                refine W_reg rfl ?_
                refine Rv rfl rfl rfl (U_move rfl) rfl rfl ?_
                refine Rv rfl rfl rfl (U_add rfl rfl (w64e (m := ((i + 1 : Nat) : Int)) (by omega) (by omega) (by omega))) rfl rfl ?_
                refine Rv rfl rfl rfl (U_assign rfl) rfl rfl ?_
                refine Re rfl ?_
                refine thenQ_n ?_
                exact againTo (T' := [(3, .rop [i64 ((H : Nat) : Int), i64 ((Z : Nat) : Int), .ros (ls.map boxesL) ls.length c] 0), (7, .rop [i64 ((f : Nat) : Int), i64 ((w : Nat) : Int), i64 ((l : Nat) : Int), i64 ((g : Nat) : Int)] 0), (8, .ptr 1 0), (9, i64 (((m + 1) : Nat) : Int)), (10, i64 ((n : Nat) : Int)), (11, i64 (((i + 1) : Nat) : Int))]) (H' := [(1, some (.cells [i64 ((((f : Nat) : Int) + (((y0 : Nat) : Int).tmod ((((w : Nat) : Int) - (1 + ((y1 % w : Nat) : Int))) + 1))).tmod ((H : Nat) : Int)), i64 (1 + ((y1 % w : Nat) : Int)), i64 (((l : Nat) : Int) + (((y2 : Nat) : Int).tmod (((g : Nat) : Int) - ((l : Nat) : Int)))), i64 (((((l : Nat) : Int) + (((y2 : Nat) : Int).tmod (((g : Nat) : Int) - ((l : Nat) : Int)))) + 1) + (((y3 : Nat) : Int).tmod (((g : Nat) : Int) - (((l : Nat) : Int) + (((y2 : Nat) : Int).tmod (((g : Nat) : Int) - ((l : Nat) : Int)))))))] 44))]) (n := 2) (ls.length - (i + 1)) ⟨i + 1, m + 1, n, (by omega), (by first | (rw [kcK_t (by omega) (by omega), ← hi0_1]; done) | (rw [kcK_f (by omega) (by omega)]; exact hi0_1) | (exfalso; omega)), (by first | (rw [kcK_t (by omega) (by omega), ← hi0_2]; done) | (rw [kcK_f (by omega) (by omega)]; exact hi0_2) | (exfalso; omega)), rfl, rfl⟩ (by omega) id ⟨eD rfl rfl, eD rfl rfl, e_ rfl rfl, eD rfl rfl, eD rfl rfl, eD rfl rfl, trivial⟩ ⟨rD rfl rfl rfl, trivial⟩ rfl rfl rfl rfl (fun _ _ => rfl)
            · refine W_skip rfl ?_
              refine thenQ_n ?_
              refine W_seq rfl ?_
              refine W_reg rfl ?_
              refine Rv rfl rfl rfl (U_move rfl) rfl rfl ?_
              refine Rv rfl rfl rfl (U_eql rfl rfl) rfl rfl ?_
              refine Re rfl ?_
              refine thenQ_n ?_
              refine WcondP rfl rfl (fun hc4 => ?_) (fun hc4 => ?_)
              · refine W_reg rfl ?_
                refine Rv rfl rfl rfl (U_move rfl) rfl rfl ?_
                refine Rv rfl rfl rfl (U_add rfl rfl (w64e (m := ((n + 1 : Nat) : Int)) (by omega) (by omega) (by omega))) rfl rfl ?_
                refine Rv rfl rfl rfl (U_assign rfl) rfl rfl ?_
                refine Re rfl ?_
                refine blkQ_n ?_
                refine thenQ_n ?_
                refine W_reg rfl ?_
                refine Rv rfl rfl rfl (U_move rfl) rfl rfl ?_
                refine Rv rfl rfl rfl (U_add rfl rfl (w64e (m := ((i + 1 : Nat) : Int)) (by omega) (by omega) (by omega))) rfl rfl ?_
                refine Rv rfl rfl rfl (U_assign rfl) rfl rfl ?_
                refine Re rfl ?_
                refine thenQ_n ?_
                exact againTo (T' := [(3, .rop [i64 ((H : Nat) : Int), i64 ((Z : Nat) : Int), .ros (ls.map boxesL) ls.length c] 0), (7, .rop [i64 ((f : Nat) : Int), i64 ((w : Nat) : Int), i64 ((l : Nat) : Int), i64 ((g : Nat) : Int)] 0), (8, .ptr 1 0), (9, i64 ((m : Nat) : Int)), (10, i64 (((n + 1) : Nat) : Int)), (11, i64 (((i + 1) : Nat) : Int))]) (H' := [(1, some (.cells [i64 ((((f : Nat) : Int) + (((y0 : Nat) : Int).tmod ((((w : Nat) : Int) - (1 + ((y1 % w : Nat) : Int))) + 1))).tmod ((H : Nat) : Int)), i64 (1 + ((y1 % w : Nat) : Int)), i64 (((l : Nat) : Int) + (((y2 : Nat) : Int).tmod (((g : Nat) : Int) - ((l : Nat) : Int)))), i64 (((((l : Nat) : Int) + (((y2 : Nat) : Int).tmod (((g : Nat) : Int) - ((l : Nat) : Int)))) + 1) + (((y3 : Nat) : Int).tmod (((g : Nat) : Int) - (((l : Nat) : Int) + (((y2 : Nat) : Int).tmod (((g : Nat) : Int) - ((l : Nat) : Int)))))))] 44))]) (n := 2) (ls.length - (i + 1)) ⟨i + 1, m, n + 1, (by omega), (by first | (rw [kcK_t (by omega) (by omega), ← hi0_1]; done) | (rw [kcK_f (by omega) (by omega)]; exact hi0_1) | (exfalso; omega)), (by first | (rw [kcK_t (by omega) (by omega), ← hi0_2]; done) | (rw [kcK_f (by omega) (by omega)]; exact hi0_2) | (exfalso; omega)), rfl, rfl⟩ (by omega) id ⟨eD rfl rfl, eD rfl rfl, e_ rfl rfl, eD rfl rfl, eD rfl rfl, eD rfl rfl, trivial⟩ ⟨rD rfl rfl rfl, trivial⟩ rfl rfl rfl rfl (fun _ _ => rfl)
              · refine W_skip rfl ?_
                refine blkQ_n ?_
                refine thenQ_n ?_
                refine W_reg rfl ?_
                refine Rv rfl rfl rfl (U_move rfl) rfl rfl ?_
                refine Rv rfl rfl rfl (U_add rfl rfl (w64e (m := ((i + 1 : Nat) : Int)) (by omega) (by omega) (by omega))) rfl rfl ?_
                refine Rv rfl rfl rfl (U_assign rfl) rfl rfl ?_
                refine Re rfl ?_
                refine thenQ_n ?_
                exact againTo (T' := [(3, .rop [i64 ((H : Nat) : Int), i64 ((Z : Nat) : Int), .ros (ls.map boxesL) ls.length c] 0), (7, .rop [i64 ((f : Nat) : Int), i64 ((w : Nat) : Int), i64 ((l : Nat) : Int), i64 ((g : Nat) : Int)] 0), (8, .ptr 1 0), (9, i64 ((m : Nat) : Int)), (10, i64 ((n : Nat) : Int)), (11, i64 (((i + 1) : Nat) : Int))]) (H' := [(1, some (.cells [i64 ((((f : Nat) : Int) + (((y0 : Nat) : Int).tmod ((((w : Nat) : Int) - (1 + ((y1 % w : Nat) : Int))) + 1))).tmod ((H : Nat) : Int)), i64 (1 + ((y1 % w : Nat) : Int)), i64 (((l : Nat) : Int) + (((y2 : Nat) : Int).tmod (((g : Nat) : Int) - ((l : Nat) : Int)))), i64 (((((l : Nat) : Int) + (((y2 : Nat) : Int).tmod (((g : Nat) : Int) - ((l : Nat) : Int)))) + 1) + (((y3 : Nat) : Int).tmod (((g : Nat) : Int) - (((l : Nat) : Int) + (((y2 : Nat) : Int).tmod (((g : Nat) : Int) - ((l : Nat) : Int)))))))] 44))]) (n := 2) (ls.length - (i + 1)) ⟨i + 1, m, n, (by omega), (by first | (rw [kcK_t (by omega) (by omega), ← hi0_1]; done) | (rw [kcK_f (by omega) (by omega)]; exact hi0_1) | (exfalso; omega)), (by first | (rw [kcK_t (by omega) (by omega), ← hi0_2]; done) | (rw [kcK_f (by omega) (by omega)]; exact hi0_2) | (exfalso; omega)), rfl, rfl⟩ (by omega) id ⟨eD rfl rfl, eD rfl rfl, e_ rfl rfl, eD rfl rfl, eD rfl rfl, eD rfl rfl, trivial⟩ ⟨rD rfl rfl rfl, trivial⟩ rfl rfl rfl rfl (fun _ _ => rfl)
          · rw [hg4]
            have hg4' : ¬ (((kinQ Z H ls[i] (⟨((f : Nat) : Int), ((w : Nat) : Int), ((l : Nat) : Int), ((g : Nat) : Int)⟩ : Bx) : Nat) : Int) ≠ 1) := of_decide_eq_false hg4
            refine Rs rfl rfl rfl rfl rfl ?_
            refine Rs rfl rfl rfl rfl rfl ?_
            refine Rs rfl rfl rfl rfl rfl ?_
            refine Rv rfl rfl rfl (U_pick_f rfl rfl) rfl rfl ?_
            refine Rv rfl rfl rfl (U_pick_f rfl rfl) rfl rfl ?_
            refine Re rfl ?_
            refine thenQ_n ?_
            refine Wcond rfl rfl (fun h => nomatch h) (fun _ => ?_)
            refine W_skip rfl ?_
            refine thenQ_n ?_
            refine W_seq rfl ?_
            refine W_seq rfl ?_
            refine W_reg rfl ?_
            refine Rv rfl rfl rfl (U_move rfl) rfl rfl ?_
            refine Rv rfl rfl rfl (U_eql rfl rfl) rfl rfl ?_
            refine Re rfl ?_
            refine thenQ_n ?_
            refine WcondP rfl rfl (fun hc3 => ?_) (fun hc3 => ?_)
            · refine W_reg rfl ?_
              refine Rv rfl rfl rfl (U_move rfl) rfl rfl ?_
              refine Rv rfl rfl rfl (U_add rfl rfl (w64e (m := ((m + 1 : Nat) : Int)) (by omega) (by omega) (by omega))) rfl rfl ?_
              refine Rv rfl rfl rfl (U_assign rfl) rfl rfl ?_
              refine Re rfl ?_
              refine thenQ_n ?_
              refine W_seq rfl ?_
              refine W_reg rfl ?_
              refine Rv rfl rfl rfl (U_move rfl) rfl rfl ?_
              refine Rv rfl rfl rfl (U_eql rfl rfl) rfl rfl ?_
              refine Re rfl ?_
              refine thenQ_n ?_
              refine WcondP rfl rfl (fun hc4 => ?_) (fun hc4 => ?_)
              · refine W_reg rfl ?_
                refine Rv rfl rfl rfl (U_move rfl) rfl rfl ?_
                refine Rv rfl rfl rfl (U_add rfl rfl (w64e (m := ((n + 1 : Nat) : Int)) (by omega) (by omega) (by omega))) rfl rfl ?_
                refine Rv rfl rfl rfl (U_assign rfl) rfl rfl ?_
                refine Re rfl ?_
                refine blkQ_n ?_
                refine thenQ_n ?_
                refine W_reg rfl ?_
                refine Rv rfl rfl rfl (U_move rfl) rfl rfl ?_
                refine Rv rfl rfl rfl (U_add rfl rfl (w64e (m := ((i + 1 : Nat) : Int)) (by omega) (by omega) (by omega))) rfl rfl ?_
                refine Rv rfl rfl rfl (U_assign rfl) rfl rfl ?_
                refine Re rfl ?_
                refine thenQ_n ?_
                exact againTo (T' := [(3, .rop [i64 ((H : Nat) : Int), i64 ((Z : Nat) : Int), .ros (ls.map boxesL) ls.length c] 0), (7, .rop [i64 ((f : Nat) : Int), i64 ((w : Nat) : Int), i64 ((l : Nat) : Int), i64 ((g : Nat) : Int)] 0), (8, .ptr 1 0), (9, i64 (((m + 1) : Nat) : Int)), (10, i64 (((n + 1) : Nat) : Int)), (11, i64 (((i + 1) : Nat) : Int))]) (H' := [(1, some (.cells [i64 ((((f : Nat) : Int) + (((y0 : Nat) : Int).tmod ((((w : Nat) : Int) - (1 + ((y1 % w : Nat) : Int))) + 1))).tmod ((H : Nat) : Int)), i64 (1 + ((y1 % w : Nat) : Int)), i64 (((l : Nat) : Int) + (((y2 : Nat) : Int).tmod (((g : Nat) : Int) - ((l : Nat) : Int)))), i64 (((((l : Nat) : Int) + (((y2 : Nat) : Int).tmod (((g : Nat) : Int) - ((l : Nat) : Int)))) + 1) + (((y3 : Nat) : Int).tmod (((g : Nat) : Int) - (((l : Nat) : Int) + (((y2 : Nat) : Int).tmod (((g : Nat) : Int) - ((l : Nat) : Int)))))))] 44))]) (n := 2) (ls.length - (i + 1)) ⟨i + 1, m + 1, n + 1, (by omega), (by first | (rw [kcK_t (by omega) (by omega), ← hi0_1]; done) | (rw [kcK_f (by omega) (by omega)]; exact hi0_1) | (exfalso; omega)), (by first | (rw [kcK_t (by omega) (by omega), ← hi0_2]; done) | (rw [kcK_f (by omega) (by omega)]; exact hi0_2) | (exfalso; omega)), rfl, rfl⟩ (by omega) id ⟨eD rfl rfl, eD rfl rfl, e_ rfl rfl, eD rfl rfl, eD rfl rfl, eD rfl rfl, trivial⟩ ⟨rD rfl rfl rfl, trivial⟩ rfl rfl rfl rfl (fun _ _ => rfl)
              · refine W_skip rfl ?_
                refine blkQ_n ?_
                refine thenQ_n ?_
                refine W_reg rfl ?_
                refine Rv rfl rfl rfl (U_move rfl) rfl rfl ?_
                refine Rv rfl rfl rfl (U_add rfl rfl (w64e (m := ((i + 1 : Nat) : Int)) (by omega) (by omega) (by omega))) rfl rfl ?_
                refine Rv rfl rfl rfl (U_assign rfl) rfl rfl ?_
                refine Re rfl ?_
                refine thenQ_n ?_
                exact againTo (T' := [(3, .rop [i64 ((H : Nat) : Int), i64 ((Z : Nat) : Int), .ros (ls.map boxesL) ls.length c] 0), (7, .rop [i64 ((f : Nat) : Int), i64 ((w : Nat) : Int), i64 ((l : Nat) : Int), i64 ((g : Nat) : Int)] 0), (8, .ptr 1 0), (9, i64 (((m + 1) : Nat) : Int)), (10, i64 ((n : Nat) : Int)), (11, i64 (((i + 1) : Nat) : Int))]) (H' := [(1, some (.cells [i64 ((((f : Nat) : Int) + (((y0 : Nat) : Int).tmod ((((w : Nat) : Int) - (1 + ((y1 % w : Nat) : Int))) + 1))).tmod ((H : Nat) : Int)), i64 (1 + ((y1 % w : Nat) : Int)), i64 (((l : Nat) : Int) + (((y2 : Nat) : Int).tmod (((g : Nat) : Int) - ((l : Nat) : Int)))), i64 (((((l : Nat) : Int) + (((y2 : Nat) : Int).tmod (((g : Nat) : Int) - ((l : Nat) : Int)))) + 1) + (((y3 : Nat) : Int).tmod (((g : Nat) : Int) - (((l : Nat) : Int) + (((y2 : Nat) : Int).tmod (((g : Nat) : Int) - ((l : Nat) : Int)))))))] 44))]) (n := 2) (ls.length - (i + 1)) ⟨i + 1, m + 1, n, (by omega), (by first | (rw [kcK_t (by omega) (by omega), ← hi0_1]; done) | (rw [kcK_f (by omega) (by omega)]; exact hi0_1) | (exfalso; omega)), (by first | (rw [kcK_t (by omega) (by omega), ← hi0_2]; done) | (rw [kcK_f (by omega) (by omega)]; exact hi0_2) | (exfalso; omega)), rfl, rfl⟩ (by omega) id ⟨eD rfl rfl, eD rfl rfl, e_ rfl rfl, eD rfl rfl, eD rfl rfl, eD rfl rfl, trivial⟩ ⟨rD rfl rfl rfl, trivial⟩ rfl rfl rfl rfl (fun _ _ => rfl)
            · refine W_skip rfl ?_
              refine thenQ_n ?_
              refine W_seq rfl ?_
              refine W_reg rfl ?_
              refine Rv rfl rfl rfl (U_move rfl) rfl rfl ?_
              refine Rv rfl rfl rfl (U_eql rfl rfl) rfl rfl ?_
              refine Re rfl ?_
              refine thenQ_n ?_
              refine WcondP rfl rfl (fun hc4 => ?_) (fun hc4 => ?_)
              · refine W_reg rfl ?_
                refine Rv rfl rfl rfl (U_move rfl) rfl rfl ?_
                refine Rv rfl rfl rfl (U_add rfl rfl (w64e (m := ((n + 1 : Nat) : Int)) (by omega) (by omega) (by omega))) rfl rfl ?_
                refine Rv rfl rfl rfl (U_assign rfl) rfl rfl ?_
                refine Re rfl ?_
                refine blkQ_n ?_
                refine thenQ_n ?_
                refine W_reg rfl ?_
                refine Rv rfl rfl rfl (U_move rfl) rfl rfl ?_
                refine Rv rfl rfl rfl (U_add rfl rfl (w64e (m := ((i + 1 : Nat) : Int)) (by omega) (by omega) (by omega))) rfl rfl ?_
                refine Rv rfl rfl rfl (U_assign rfl) rfl rfl ?_
                refine Re rfl ?_
                refine thenQ_n ?_
                exact againTo (T' := [(3, .rop [i64 ((H : Nat) : Int), i64 ((Z : Nat) : Int), .ros (ls.map boxesL) ls.length c] 0), (7, .rop [i64 ((f : Nat) : Int), i64 ((w : Nat) : Int), i64 ((l : Nat) : Int), i64 ((g : Nat) : Int)] 0), (8, .ptr 1 0), (9, i64 ((m : Nat) : Int)), (10, i64 (((n + 1) : Nat) : Int)), (11, i64 (((i + 1) : Nat) : Int))]) (H' := [(1, some (.cells [i64 ((((f : Nat) : Int) + (((y0 : Nat) : Int).tmod ((((w : Nat) : Int) - (1 + ((y1 % w : Nat) : Int))) + 1))).tmod ((H : Nat) : Int)), i64 (1 + ((y1 % w : Nat) : Int)), i64 (((l : Nat) : Int) + (((y2 : Nat) : Int).tmod (((g : Nat) : Int) - ((l : Nat) : Int)))), i64 (((((l : Nat) : Int) + (((y2 : Nat) : Int).tmod (((g : Nat) : Int) - ((l : Nat) : Int)))) + 1) + (((y3 : Nat) : Int).tmod (((g : Nat) : Int) - (((l : Nat) : Int) + (((y2 : Nat) : Int).tmod (((g : Nat) : Int) - ((l : Nat) : Int)))))))] 44))]) (n := 2) (ls.length - (i + 1)) ⟨i + 1, m, n + 1, (by omega), (by first | (rw [kcK_t (by omega) (by omega), ← hi0_1]; done) | (rw [kcK_f (by omega) (by omega)]; exact hi0_1) | (exfalso; omega)), (by first | (rw [kcK_t (by omega) (by omega), ← hi0_2]; done) | (rw [kcK_f (by omega) (by omega)]; exact hi0_2) | (exfalso; omega)), rfl, rfl⟩ (by omega) id ⟨eD rfl rfl, eD rfl rfl, e_ rfl rfl, eD rfl rfl, eD rfl rfl, eD rfl rfl, trivial⟩ ⟨rD rfl rfl rfl, trivial⟩ rfl rfl rfl rfl (fun _ _ => rfl)
              · refine W_skip rfl ?_
                refine blkQ_n ?_
                refine thenQ_n ?_
                refine W_reg rfl ?_
                refine Rv rfl rfl rfl (U_move rfl) rfl rfl ?_
                refine Rv rfl rfl rfl (U_add rfl rfl (w64e (m := ((i + 1 : Nat) : Int)) (by omega) (by omega) (by omega))) rfl rfl ?_
                refine Rv rfl rfl rfl (U_assign rfl) rfl rfl ?_
                refine Re rfl ?_
                refine thenQ_n ?_
                exact againTo (T' := [(3, .rop [i64 ((H : Nat) : Int), i64 ((Z : Nat) : Int), .ros (ls.map boxesL) ls.length c] 0), (7, .rop [i64 ((f : Nat) : Int), i64 ((w : Nat) : Int), i64 ((l : Nat) : Int), i64 ((g : Nat) : Int)] 0), (8, .ptr 1 0), (9, i64 ((m : Nat) : Int)), (10, i64 ((n : Nat) : Int)), (11, i64 (((i + 1) : Nat) : Int))]) (H' := [(1, some (.cells [i64 ((((f : Nat) : Int) + (((y0 : Nat) : Int).tmod ((((w : Nat) : Int) - (1 + ((y1 % w : Nat) : Int))) + 1))).tmod ((H : Nat) : Int)), i64 (1 + ((y1 % w : Nat) : Int)), i64 (((l : Nat) : Int) + (((y2 : Nat) : Int).tmod (((g : Nat) : Int) - ((l : Nat) : Int)))), i64 (((((l : Nat) : Int) + (((y2 : Nat) : Int).tmod (((g : Nat) : Int) - ((l : Nat) : Int)))) + 1) + (((y3 : Nat) : Int).tmod (((g : Nat) : Int) - (((l : Nat) : Int) + (((y2 : Nat) : Int).tmod (((g : Nat) : Int) - ((l : Nat) : Int)))))))] 44))]) (n := 2) (ls.length - (i + 1)) ⟨i + 1, m, n, (by omega), (by first | (rw [kcK_t (by omega) (by omega), ← hi0_1]; done) | (rw [kcK_f (by omega) (by omega)]; exact hi0_1) | (exfalso; omega)), (by first | (rw [kcK_t (by omega) (by omega), ← hi0_2]; done) | (rw [kcK_f (by omega) (by omega)]; exact hi0_2) | (exfalso; omega)), rfl, rfl⟩ (by omega) id ⟨eD rfl rfl, eD rfl rfl, e_ rfl rfl, eD rfl rfl, eD rfl rfl, eD rfl rfl, trivial⟩ ⟨rD rfl rfl rfl, trivial⟩ rfl rfl rfl rfl (fun _ _ => rfl)
      · rw [hg2]
        have hg2' : ¬ (((kinQ Z H ls[i] (⟨((f : Nat) : Int), ((w : Nat) : Int), ((l : Nat) : Int), ((g : Nat) : Int)⟩ : Bx) : Nat) : Int) ≠ 1) := of_decide_eq_false hg2
        refine Rs rfl rfl rfl rfl rfl ?_
        refine Rs rfl rfl rfl rfl rfl ?_
        refine Rv rfl rfl rfl (U_pick_f rfl rfl) rfl rfl ?_
        refine Rv rfl rfl rfl (U_pick_f rfl rfl) rfl rfl ?_
        refine Rv rfl rfl rfl (U_move rfl) rfl rfl ?_
        refine Rv rfl rfl rfl (U_move rfl) rfl rfl ?_
        refine Rv rfl rfl rfl (U_neq rfl rfl) rfl rfl ?_
        refine Rv rfl rfl rfl (U_move rfl) rfl rfl ?_
        refine Rsplit (t := 116) rfl (fun hg5 => ?_) (fun hg5 => ?_)
        · rw [hg5]
          have hg5' : ((kinQ Z H ls[i] (⟨((f : Nat) : Int), ((w : Nat) : Int), ((l : Nat) : Int), ((g : Nat) : Int)⟩ : Bx) : Nat) : Int) ≠ 1 := of_decide_eq_true hg5
          refine Rv rfl rfl rfl (U_move rfl) rfl rfl ?_
          refine Rv rfl rfl rfl (U_move rfl) rfl rfl ?_
          refine Rv rfl rfl rfl (U_neq rfl rfl) rfl rfl ?_
          refine Rv rfl rfl rfl (U_pick_t rfl rfl) rfl rfl ?_
          refine Rv rfl rfl rfl (U_pick_f rfl rfl) rfl rfl ?_
          refine Re rfl ?_
          refine thenQ_n ?_
          refine WcondP rfl rfl (fun hc2 => absurd hc2 (by simp; omega)) (fun hc2 => ?_)
          refine W_skip rfl ?_
          refine thenQ_n ?_
          refine W_seq rfl ?_
          refine W_seq rfl ?_
          refine W_reg rfl ?_
          refine Rv rfl rfl rfl (U_move rfl) rfl rfl ?_
          refine Rv rfl rfl rfl (U_eql rfl rfl) rfl rfl ?_
          refine Re rfl ?_
          refine thenQ_n ?_
          refine WcondP rfl rfl (fun hc3 => ?_) (fun hc3 => ?_)
          · refine W_reg rfl ?_
            refine Rv rfl rfl rfl (U_move rfl) rfl rfl ?_
            refine Rv rfl rfl rfl (U_add rfl rfl (w64e (m := ((m + 1 : Nat) : Int)) (by omega) (by omega) (by omega))) rfl rfl ?_
            refine Rv rfl rfl rfl (U_assign rfl) rfl rfl ?_
            refine Re rfl ?_
            refine thenQ_n ?_
            refine W_seq rfl ?_
            refine W_reg rfl ?_
            refine Rv rfl rfl rfl (U_move rfl) rfl rfl ?_
            refine Rv rfl rfl rfl (U_eql rfl rfl) rfl rfl ?_
            refine Re rfl ?_
            refine thenQ_n ?_
            refine WcondP rfl rfl (fun hc4 => ?_) (fun hc4 => ?_)
            · refine W_reg rfl ?_
              refine Rv rfl rfl rfl (U_move rfl) rfl rfl ?_
              refine Rv rfl rfl rfl (U_add rfl rfl (w64e (m := ((n + 1 : Nat) : Int)) (by omega) (by omega) (by omega))) rfl rfl ?_
              refine Rv rfl rfl rfl (U_assign rfl) rfl rfl ?_
              refine Re rfl ?_
              refine blkQ_n ?_
              refine thenQ_n ?_
              refine W_reg rfl ?_
              refine Rv rfl rfl rfl (U_move rfl) rfl rfl ?_
              refine Rv rfl rfl rfl (U_add rfl rfl (w64e (m := ((i + 1 : Nat) : Int)) (by omega) (by omega) (by omega))) rfl rfl ?_
              refine Rv rfl rfl rfl (U_assign rfl) rfl rfl ?_
              refine Re rfl ?_
              refine thenQ_n ?_
              exact againTo (T' := [(3, .rop [i64 ((H : Nat) : Int), i64 ((Z : Nat) : Int), .ros (ls.map boxesL) ls.length c] 0), (7, .rop [i64 ((f : Nat) : Int), i64 ((w : Nat) : Int), i64 ((l : Nat) : Int), i64 ((g : Nat) : Int)] 0), (8, .ptr 1 0), (9, i64 (((m + 1) : Nat) : Int)), (10, i64 (((n + 1) : Nat) : Int)), (11, i64 (((i + 1) : Nat) : Int))]) (H' := [(1, some (.cells [i64 ((((f : Nat) : Int) + (((y0 : Nat) : Int).tmod ((((w : Nat) : Int) - (1 + ((y1 % w : Nat) : Int))) + 1))).tmod ((H : Nat) : Int)), i64 (1 + ((y1 % w : Nat) : Int)), i64 (((l : Nat) : Int) + (((y2 : Nat) : Int).tmod (((g : Nat) : Int) - ((l : Nat) : Int)))), i64 (((((l : Nat) : Int) + (((y2 : Nat) : Int).tmod (((g : Nat) : Int) - ((l : Nat) : Int)))) + 1) + (((y3 : Nat) : Int).tmod (((g : Nat) : Int) - (((l : Nat) : Int) + (((y2 : Nat) : Int).tmod (((g : Nat) : Int) - ((l : Nat) : Int)))))))] 44))]) (n := 2) (ls.length - (i + 1)) ⟨i + 1, m + 1, n + 1, (by omega), (by first | (rw [kcK_t (by omega) (by omega), ← hi0_1]; done) | (rw [kcK_f (by omega) (by omega)]; exact hi0_1) | (exfalso; omega)), (by first | (rw [kcK_t (by omega) (by omega), ← hi0_2]; done) | (rw [kcK_f (by omega) (by omega)]; exact hi0_2) | (exfalso; omega)), rfl, rfl⟩ (by omega) id ⟨eD rfl rfl, eD rfl rfl, e_ rfl rfl, eD rfl rfl, eD rfl rfl, eD rfl rfl, trivial⟩ ⟨rD rfl rfl rfl, trivial⟩ rfl rfl rfl rfl (fun _ _ => rfl)
            · refine W_skip rfl ?_
              refine blkQ_n ?_
              refine thenQ_n ?_
              refine W_reg rfl ?_
              refine Rv rfl rfl rfl (U_move rfl) rfl rfl ?_
              refine Rv rfl rfl rfl (U_add rfl rfl (w64e (m := ((i + 1 : Nat) : Int)) (by omega) (by omega) (by omega))) rfl rfl ?_
              refine Rv rfl rfl rfl (U_assign rfl) rfl rfl ?_
              refine Re rfl ?_
              refine thenQ_n ?_
              exact againTo (T' := [(3, .rop [i64 ((H : Nat) : Int), i64 ((Z : Nat) : Int), .ros (ls.map boxesL) ls.length c] 0), (7, .rop [i64 ((f : Nat) : Int), i64 ((w : Nat) : Int), i64 ((l : Nat) : Int), i64 ((g : Nat) : Int)] 0), (8, .ptr 1 0), (9, i64 (((m + 1) : Nat) : Int)), (10, i64 ((n : Nat) : Int)), (11, i64 (((i + 1) : Nat) : Int))]) (H' := [(1, some (.cells [i64 ((((f : Nat) : Int) + (((y0 : Nat) : Int).tmod ((((w : Nat) : Int) - (1 + ((y1 % w : Nat) : Int))) + 1))).tmod ((H : Nat) : Int)), i64 (1 + ((y1 % w : Nat) : Int)), i64 (((l : Nat) : Int) + (((y2 : Nat) : Int).tmod (((g : Nat) : Int) - ((l : Nat) : Int)))), i64 (((((l : Nat) : Int) + (((y2 : Nat) : Int).tmod (((g : Nat) : Int) - ((l : Nat) : Int)))) + 1) + (((y3 : Nat) : Int).tmod (((g : Nat) : Int) - (((l : Nat) : Int) + (((y2 : Nat) : Int).tmod (((g : Nat) : Int) - ((l : Nat) : Int)))))))] 44))]) (n := 2) (ls.length - (i + 1)) ⟨i + 1, m + 1, n, (by omega), (by first | (rw [kcK_t (by omega) (by omega), ← hi0_1]; done) | (rw [kcK_f (by omega) (by omega)]; exact hi0_1) | (exfalso; omega)), (by first | (rw [kcK_t (by omega) (by omega), ← hi0_2]; done) | (rw [kcK_f (by omega) (by omega)]; exact hi0_2) | (exfalso; omega)), rfl, rfl⟩ (by omega) id ⟨eD rfl rfl, eD rfl rfl, e_ rfl rfl, eD rfl rfl, eD rfl rfl, eD rfl rfl, trivial⟩ ⟨rD rfl rfl rfl, trivial⟩ rfl rfl rfl rfl (fun _ _ => rfl)
          · refine W_skip rfl ?_
            refine thenQ_n ?_
            refine W_seq rfl ?_
            refine W_reg rfl ?_
            refine Rv rfl rfl rfl (U_move rfl) rfl rfl ?_
            refine Rv rfl rfl rfl (U_eql rfl rfl) rfl rfl ?_
            refine Re rfl ?_
            refine thenQ_n ?_
            refine WcondP rfl rfl (fun hc4 => ?_) (fun hc4 => ?_)
            · refine W_reg rfl ?_
              refine Rv rfl rfl rfl (U_move rfl) rfl rfl ?_
              refine Rv rfl rfl rfl (U_add rfl rfl (w64e (m := ((n + 1 : Nat) : Int)) (by omega) (by omega) (by omega))) rfl rfl ?_
              refine Rv rfl rfl rfl (U_assign rfl) rfl rfl ?_
              refine Re rfl ?_
              refine blkQ_n ?_
              refine thenQ_n ?_
              refine W_reg rfl ?_
              refine Rv rfl rfl rfl (U_move rfl) rfl rfl ?_
              refine Rv rfl rfl rfl (U_add rfl rfl (w64e (m := ((i + 1 : Nat) : Int)) (by omega) (by omega) (by omega))) rfl rfl ?_
              refine Rv rfl rfl rfl (U_assign rfl) rfl rfl ?_
              refine Re rfl ?_
              refine thenQ_n ?_
              exact againTo (T' := [(3, .rop [i64 ((H : Nat) : Int), i64 ((Z : Nat) : Int), .ros (ls.map boxesL) ls.length c] 0), (7, .rop [i64 ((f : Nat) : Int), i64 ((w : Nat) : Int), i64 ((l : Nat) : Int), i64 ((g : Nat) : Int)] 0), (8, .ptr 1 0), (9, i64 ((m : Nat) : Int)), (10, i64 (((n + 1) : Nat) : Int)), (11, i64 (((i + 1) : Nat) : Int))]) (H' := [(1, some (.cells [i64 ((((f : Nat) : Int) + (((y0 : Nat) : Int).tmod ((((w : Nat) : Int) - (1 + ((y1 % w : Nat) : Int))) + 1))).tmod ((H : Nat) : Int)), i64 (1 + ((y1 % w : Nat) : Int)), i64 (((l : Nat) : Int) + (((y2 : Nat) : Int).tmod (((g : Nat) : Int) - ((l : Nat) : Int)))), i64 (((((l : Nat) : Int) + (((y2 : Nat) : Int).tmod (((g : Nat) : Int) - ((l : Nat) : Int)))) + 1) + (((y3 : Nat) : Int).tmod (((g : Nat) : Int) - (((l : Nat) : Int) + (((y2 : Nat) : Int).tmod (((g : Nat) : Int) - ((l : Nat) : Int)))))))] 44))]) (n := 2) (ls.length - (i + 1)) ⟨i + 1, m, n + 1, (by omega), (by first | (rw [kcK_t (by omega) (by omega), ← hi0_1]; done) | (rw [kcK_f (by omega) (by omega)]; exact hi0_1) | (exfalso; omega)), (by first | (rw [kcK_t (by omega) (by omega), ← hi0_2]; done) | (rw [kcK_f (by omega) (by omega)]; exact hi0_2) | (exfalso; omega)), rfl, rfl⟩ (by omega) id ⟨eD rfl rfl, eD rfl rfl, e_ rfl rfl, eD rfl rfl, eD rfl rfl, eD rfl rfl, trivial⟩ ⟨rD rfl rfl rfl, trivial⟩ rfl rfl rfl rfl (fun _ _ => rfl)
            · refine W_skip rfl ?_
              refine blkQ_n ?_
              refine thenQ_n ?_
              refine W_reg rfl ?_
              refine Rv rfl rfl rfl (U_move rfl) rfl rfl ?_
              refine Rv rfl rfl rfl (U_add rfl rfl (w64e (m := ((i + 1 : Nat) : Int)) (by omega) (by omega) (by omega))) rfl rfl ?_
              refine Rv rfl rfl rfl (U_assign rfl) rfl rfl ?_
              refine Re rfl ?_
              refine thenQ_n ?_
              exact againTo (T' := [(3, .rop [i64 ((H : Nat) : Int), i64 ((Z : Nat) : Int), .ros (ls.map boxesL) ls.length c] 0), (7, .rop [i64 ((f : Nat) : Int), i64 ((w : Nat) : Int), i64 ((l : Nat) : Int), i64 ((g : Nat) : Int)] 0), (8, .ptr 1 0), (9, i64 ((m : Nat) : Int)), (10, i64 ((n : Nat) : Int)), (11, i64 (((i + 1) : Nat) : Int))]) (H' := [(1, some (.cells [i64 ((((f : Nat) : Int) + (((y0 : Nat) : Int).tmod ((((w : Nat) : Int) - (1 + ((y1 % w : Nat) : Int))) + 1))).tmod ((H : Nat) : Int)), i64 (1 + ((y1 % w : Nat) : Int)), i64 (((l : Nat) : Int) + (((y2 : Nat) : Int).tmod (((g : Nat) : Int) - ((l : Nat) : Int)))), i64 (((((l : Nat) : Int) + (((y2 : Nat) : Int).tmod (((g : Nat) : Int) - ((l : Nat) : Int)))) + 1) + (((y3 : Nat) : Int).tmod (((g : Nat) : Int) - (((l : Nat) : Int) + (((y2 : Nat) : Int).tmod (((g : Nat) : Int) - ((l : Nat) : Int)))))))] 44))]) (n := 2) (ls.length - (i + 1)) ⟨i + 1, m, n, (by omega), (by first | (rw [kcK_t (by omega) (by omega), ← hi0_1]; done) | (rw [kcK_f (by omega) (by omega)]; exact hi0_1) | (exfalso; omega)), (by first | (rw [kcK_t (by omega) (by omega), ← hi0_2]; done) | (rw [kcK_f (by omega) (by omega)]; exact hi0_2) | (exfalso; omega)), rfl, rfl⟩ (by omega) id ⟨eD rfl rfl, eD rfl rfl, e_ rfl rfl, eD rfl rfl, eD rfl rfl, eD rfl rfl, trivial⟩ ⟨rD rfl rfl rfl, trivial⟩ rfl rfl rfl rfl (fun _ _ => rfl)
        · rw [hg5]
          have hg5' : ¬ (((kinQ Z H ls[i] (⟨((f : Nat) : Int), ((w : Nat) : Int), ((l : Nat) : Int), ((g : Nat) : Int)⟩ : Bx) : Nat) : Int) ≠ 1) := of_decide_eq_false hg5
          refine Rs rfl rfl rfl rfl rfl ?_
          refine Rs rfl rfl rfl rfl rfl ?_
          refine Rs rfl rfl rfl rfl rfl ?_
          refine Rv rfl rfl rfl (U_pick_f rfl rfl) rfl rfl ?_
          refine Rv rfl rfl rfl (U_pick_f rfl rfl) rfl rfl ?_
          refine Re rfl ?_
          refine thenQ_n ?_
          refine Wcond rfl rfl (fun h => nomatch h) (fun _ => ?_)
          refine W_skip rfl ?_
          refine thenQ_n ?_
          refine W_seq rfl ?_
          refine W_seq rfl ?_
          refine W_reg rfl ?_
          refine Rv rfl rfl rfl (U_move rfl) rfl rfl ?_
          refine Rv rfl rfl rfl (U_eql rfl rfl) rfl rfl ?_
          refine Re rfl ?_
          refine thenQ_n ?_
          refine WcondP rfl rfl (fun hc3 => ?_) (fun hc3 => ?_)
          · refine W_reg rfl ?_
            refine Rv rfl rfl rfl (U_move rfl) rfl rfl ?_
            refine Rv rfl rfl rfl (U_add rfl rfl (w64e (m := ((m + 1 : Nat) : Int)) (by omega) (by omega) (by omega))) rfl rfl ?_
            refine Rv rfl rfl rfl (U_assign rfl) rfl rfl ?_
            refine Re rfl ?_
            refine thenQ_n ?_
            refine W_seq rfl ?_
            refine W_reg rfl ?_
            refine Rv rfl rfl rfl (U_move rfl) rfl rfl ?_
            refine Rv rfl rfl rfl (U_eql rfl rfl) rfl rfl ?_
            refine Re rfl ?_
            refine thenQ_n ?_
            refine WcondP rfl rfl (fun hc4 => ?_) (fun hc4 => ?_)
            · refine W_reg rfl ?_
              refine Rv rfl rfl rfl (U_move rfl) rfl rfl ?_
              refine Rv rfl rfl rfl (U_add rfl rfl (w64e (m := ((n + 1 : Nat) : Int)) (by omega) (by omega) (by omega))) rfl rfl ?_
              refine Rv rfl rfl rfl (U_assign rfl) rfl rfl ?_
              refine Re rfl ?_
              refine blkQ_n ?_
              refine thenQ_n ?_
              refine W_reg rfl ?_
              refine Rv rfl rfl rfl (U_move rfl) rfl rfl ?_
              refine Rv rfl rfl rfl (U_add rfl rfl (w64e (m := ((i + 1 : Nat) : Int)) (by omega) (by omega) (by omega))) rfl rfl ?_
              refine Rv rfl rfl rfl (U_assign rfl) rfl rfl ?_
              refine Re rfl ?_
              refine thenQ_n ?_
              exact againTo (T' := [(3, .rop [i64 ((H : Nat) : Int), i64 ((Z : Nat) : Int), .ros (ls.map boxesL) ls.length c] 0), (7, .rop [i64 ((f : Nat) : Int), i64 ((w : Nat) : Int), i64 ((l : Nat) : Int), i64 ((g : Nat) : Int)] 0), (8, .ptr 1 0), (9, i64 (((m + 1) : Nat) : Int)), (10, i64 (((n + 1) : Nat) : Int)), (11, i64 (((i + 1) : Nat) : Int))]) (H' := [(1, some (.cells [i64 ((((f : Nat) : Int) + (((y0 : Nat) : Int).tmod ((((w : Nat) : Int) - (1 + ((y1 % w : Nat) : Int))) + 1))).tmod ((H : Nat) : Int)), i64 (1 + ((y1 % w : Nat) : Int)), i64 (((l : Nat) : Int) + (((y2 : Nat) : Int).tmod (((g : Nat) : Int) - ((l : Nat) : Int)))), i64 (((((l : Nat) : Int) + (((y2 : Nat) : Int).tmod (((g : Nat) : Int) - ((l : Nat) : Int)))) + 1) + (((y3 : Nat) : Int).tmod (((g : Nat) : Int) - (((l : Nat) : Int) + (((y2 : Nat) : Int).tmod (((g : Nat) : Int) - ((l : Nat) : Int)))))))] 44))]) (n := 2) (ls.length - (i + 1)) ⟨i + 1, m + 1, n + 1, (by omega), (by first | (rw [kcK_t (by omega) (by omega), ← hi0_1]; done) | (rw [kcK_f (by omega) (by omega)]; exact hi0_1) | (exfalso; omega)), (by first | (rw [kcK_t (by omega) (by omega), ← hi0_2]; done) | (rw [kcK_f (by omega) (by omega)]; exact hi0_2) | (exfalso; omega)), rfl, rfl⟩ (by omega) id ⟨eD rfl rfl, eD rfl rfl, e_ rfl rfl, eD rfl rfl, eD rfl rfl, eD rfl rfl, trivial⟩ ⟨rD rfl rfl rfl, trivial⟩ rfl rfl rfl rfl (fun _ _ => rfl)
            · refine W_skip rfl ?_
              refine blkQ_n ?_
              refine thenQ_n ?_
              refine W_reg rfl ?_
              refine Rv rfl rfl rfl (U_move rfl) rfl rfl ?_
              refine Rv rfl rfl rfl (U_add rfl rfl (w64e (m := ((i + 1 : Nat) : Int)) (by omega) (by omega) (by omega))) rfl rfl ?_
              refine Rv rfl rfl rfl (U_assign rfl) rfl rfl ?_
              refine Re rfl ?_
              refine thenQ_n ?_
              exact againTo (T' := [(3, .rop [i64 ((H : Nat) : Int), i64 ((Z : Nat) : Int), .ros (ls.map boxesL) ls.length c] 0), (7, .rop [i64 ((f : Nat) : Int), i64 ((w : Nat) : Int), i64 ((l : Nat) : Int), i64 ((g : Nat) : Int)] 0), (8, .ptr 1 0), (9, i64 (((m + 1) : Nat) : Int)), (10, i64 ((n : Nat) : Int)), (11, i64 (((i + 1) : Nat) : Int))]) (H' := [(1, some (.cells [i64 ((((f : Nat) : Int) + (((y0 : Nat) : Int).tmod ((((w : Nat) : Int) - (1 + ((y1 % w : Nat) : Int))) + 1))).tmod ((H : Nat) : Int)), i64 (1 + ((y1 % w : Nat) : Int)), i64 (((l : Nat) : Int) + (((y2 : Nat) : Int).tmod (((g : Nat) : Int) - ((l : Nat) : Int)))), i64 (((((l : Nat) : Int) + (((y2 : Nat) : Int).tmod (((g : Nat) : Int) - ((l : Nat) : Int)))) + 1) + (((y3 : Nat) : Int).tmod (((g : Nat) : Int) - (((l : Nat) : Int) + (((y2 : Nat) : Int).tmod (((g : Nat) : Int) - ((l : Nat) : Int)))))))] 44))]) (n := 2) (ls.length - (i + 1)) ⟨i + 1, m + 1, n, (by omega), (by first | (rw [kcK_t (by omega) (by omega), ← hi0_1]; done) | (rw [kcK_f (by omega) (by omega)]; exact hi0_1) | (exfalso; omega)), (by first | (rw [kcK_t (by omega) (by omega), ← hi0_2]; done) | (rw [kcK_f (by omega) (by omega)]; exact hi0_2) | (exfalso; omega)), rfl, rfl⟩ (by omega) id ⟨eD rfl rfl, eD rfl rfl, e_ rfl rfl, eD rfl rfl, eD rfl rfl, eD rfl rfl, trivial⟩ ⟨rD rfl rfl rfl, trivial⟩ rfl rfl rfl rfl (fun _ _ => rfl)
          · refine W_skip rfl ?_
            refine thenQ_n ?_
            refine W_seq rfl ?_
            refine W_reg rfl ?_
            refine Rv rfl rfl rfl (U_move rfl) rfl rfl ?_
            refine Rv rfl rfl rfl (U_eql rfl rfl) rfl rfl ?_
            refine Re rfl ?_
            refine thenQ_n ?_
            refine WcondP rfl rfl (fun hc4 => ?_) (fun hc4 => ?_)
            · refine W_reg rfl ?_
              refine Rv rfl rfl rfl (U_move rfl) rfl rfl ?_
              refine Rv rfl rfl rfl (U_add rfl rfl (w64e (m := ((n + 1 : Nat) : Int)) (by omega) (by omega) (by omega))) rfl rfl ?_
              refine Rv rfl rfl rfl (U_assign rfl) rfl rfl ?_
              refine Re rfl ?_
              refine blkQ_n ?_
              refine thenQ_n ?_
              refine W_reg rfl ?_
              refine Rv rfl rfl rfl (U_move rfl) rfl rfl ?_
              refine Rv rfl rfl rfl (U_add rfl rfl (w64e (m := ((i + 1 : Nat) : Int)) (by omega) (by omega) (by omega))) rfl rfl ?_
              refine Rv rfl rfl rfl (U_assign rfl) rfl rfl ?_
              refine Re rfl ?_
              refine thenQ_n ?_
              exact againTo (T' := [(3, .rop [i64 ((H : Nat) : Int), i64 ((Z : Nat) : Int), .ros (ls.map boxesL) ls.length c] 0), (7, .rop [i64 ((f : Nat) : Int), i64 ((w : Nat) : Int), i64 ((l : Nat) : Int), i64 ((g : Nat) : Int)] 0), (8, .ptr 1 0), (9, i64 ((m : Nat) : Int)), (10, i64 (((n + 1) : Nat) : Int)), (11, i64 (((i + 1) : Nat) : Int))]) (H' := [(1, some (.cells [i64 ((((f : Nat) : Int) + (((y0 : Nat) : Int).tmod ((((w : Nat) : Int) - (1 + ((y1 % w : Nat) : Int))) + 1))).tmod ((H : Nat) : Int)), i64 (1 + ((y1 % w : Nat) : Int)), i64 (((l : Nat) : Int) + (((y2 : Nat) : Int).tmod (((g : Nat) : Int) - ((l : Nat) : Int)))), i64 (((((l : Nat) : Int) + (((y2 : Nat) : Int).tmod (((g : Nat) : Int) - ((l : Nat) : Int)))) + 1) + (((y3 : Nat) : Int).tmod (((g : Nat) : Int) - (((l : Nat) : Int) + (((y2 : Nat) : Int).tmod (((g : Nat) : Int) - ((l : Nat) : Int)))))))] 44))]) (n := 2) (ls.length - (i + 1)) ⟨i + 1, m, n + 1, (by omega), (by first | (rw [kcK_t (by omega) (by omega), ← hi0_1]; done) | (rw [kcK_f (by omega) (by omega)]; exact hi0_1) | (exfalso; omega)), (by first | (rw [kcK_t (by omega) (by omega), ← hi0_2]; done) | (rw [kcK_f (by omega) (by omega)]; exact hi0_2) | (exfalso; omega)), rfl, rfl⟩ (by omega) id ⟨eD rfl rfl, eD rfl rfl, e_ rfl rfl, eD rfl rfl, eD rfl rfl, eD rfl rfl, trivial⟩ ⟨rD rfl rfl rfl, trivial⟩ rfl rfl rfl rfl (fun _ _ => rfl)
            · refine W_skip rfl ?_
              refine blkQ_n ?_
              refine thenQ_n ?_
              refine W_reg rfl ?_
              refine Rv rfl rfl rfl (U_move rfl) rfl rfl ?_
              refine Rv rfl rfl rfl (U_add rfl rfl (w64e (m := ((i + 1 : Nat) : Int)) (by omega) (by omega) (by omega))) rfl rfl ?_
              refine Rv rfl rfl rfl (U_assign rfl) rfl rfl ?_
              refine Re rfl ?_
              refine thenQ_n ?_
              exact againTo (T' := [(3, .rop [i64 ((H : Nat) : Int), i64 ((Z : Nat) : Int), .ros (ls.map boxesL) ls.length c] 0), (7, .rop [i64 ((f : Nat) : Int), i64 ((w : Nat) : Int), i64 ((l : Nat) : Int), i64 ((g : Nat) : Int)] 0), (8, .ptr 1 0), (9, i64 ((m : Nat) : Int)), (10, i64 ((n : Nat) : Int)), (11, i64 (((i + 1) : Nat) : Int))]) (H' := [(1, some (.cells [i64 ((((f : Nat) : Int) + (((y0 : Nat) : Int).tmod ((((w : Nat) : Int) - (1 + ((y1 % w : Nat) : Int))) + 1))).tmod ((H : Nat) : Int)), i64 (1 + ((y1 % w : Nat) : Int)), i64 (((l : Nat) : Int) + (((y2 : Nat) : Int).tmod (((g : Nat) : Int) - ((l : Nat) : Int)))), i64 (((((l : Nat) : Int) + (((y2 : Nat) : Int).tmod (((g : Nat) : Int) - ((l : Nat) : Int)))) + 1) + (((y3 : Nat) : Int).tmod (((g : Nat) : Int) - (((l : Nat) : Int) + (((y2 : Nat) : Int).tmod (((g : Nat) : Int) - ((l : Nat) : Int)))))))] 44))]) (n := 2) (ls.length - (i + 1)) ⟨i + 1, m, n, (by omega), (by first | (rw [kcK_t (by omega) (by omega), ← hi0_1]; done) | (rw [kcK_f (by omega) (by omega)]; exact hi0_1) | (exfalso; omega)), (by first | (rw [kcK_t (by omega) (by omega), ← hi0_2]; done) | (rw [kcK_f (by omega) (by omega)]; exact hi0_2) | (exfalso; omega)), rfl, rfl⟩ (by omega) id ⟨eD rfl rfl, eD rfl rfl, e_ rfl rfl, eD rfl rfl, eD rfl rfl, eD rfl rfl, trivial⟩ ⟨rD rfl rfl rfl, trivial⟩ rfl rfl rfl rfl (fun _ _ => rfl)
    · rw [hg1]
      have hg1' : ¬ (((kinQ Z H ls[i] (⟨((f : Nat) : Int), ((w : Nat) : Int), ((l : Nat) : Int), ((g : Nat) : Int)⟩ : Bx) : Nat) : Int) ≠ 0) := of_decide_eq_false hg1
      refine Rs rfl rfl rfl rfl rfl ?_
      refine Rs rfl rfl rfl rfl rfl ?_
      refine Rv rfl rfl rfl (U_pick_f rfl rfl) rfl rfl ?_
      refine Rv rfl rfl rfl (U_move rfl) rfl rfl ?_
      refine Rs rfl rfl rfl rfl rfl ?_
      refine Rs rfl rfl rfl rfl rfl ?_
      refine Rv rfl rfl rfl (U_pick_f rfl rfl) rfl rfl ?_
      refine Rv rfl rfl rfl (U_pick_f rfl rfl) rfl rfl ?_
      refine Rv rfl rfl rfl (U_move rfl) rfl rfl ?_
      refine Rv rfl rfl rfl (U_move rfl) rfl rfl ?_
      refine Rv rfl rfl rfl (U_neq rfl rfl) rfl rfl ?_
      refine Rv rfl rfl rfl (U_move rfl) rfl rfl ?_
      refine Rsplit (t := 116) rfl (fun hg6 => ?_) (fun hg6 => ?_)
      · rw [hg6]
        have hg6' : ((kinQ Z H ls[i] (⟨((f : Nat) : Int), ((w : Nat) : Int), ((l : Nat) : Int), ((g : Nat) : Int)⟩ : Bx) : Nat) : Int) ≠ 1 := of_decide_eq_true hg6
        refine Rv rfl rfl rfl (U_move rfl) rfl rfl ?_
        refine Rv rfl rfl rfl (U_move rfl) rfl rfl ?_
        refine Rv rfl rfl rfl (U_neq rfl rfl) rfl rfl ?_
        refine Rv rfl rfl rfl (U_pick_t rfl rfl) rfl rfl ?_
        refine Rv rfl rfl rfl (U_pick_f rfl rfl) rfl rfl ?_
        refine Re rfl ?_
        refine thenQ_n ?_
        refine WcondP rfl rfl (fun hc2 => absurd hc2 (by simp; omega)) (fun hc2 => ?_)
        refine W_skip rfl ?_
        refine thenQ_n ?_
        refine W_seq rfl ?_
        refine W_seq rfl ?_
        refine W_reg rfl ?_
        refine Rv rfl rfl rfl (U_move rfl) rfl rfl ?_
        refine Rv rfl rfl rfl (U_eql rfl rfl) rfl rfl ?_
        refine Re rfl ?_
        refine thenQ_n ?_
        refine WcondP rfl rfl (fun hc3 => ?_) (fun hc3 => ?_)
        · refine W_reg rfl ?_
          refine Rv rfl rfl rfl (U_move rfl) rfl rfl ?_
          refine Rv rfl rfl rfl (U_add rfl rfl (w64e (m := ((m + 1 : Nat) : Int)) (by omega) (by omega) (by omega))) rfl rfl ?_
          refine Rv rfl rfl rfl (U_assign rfl) rfl rfl ?_
          refine Re rfl ?_
          refine thenQ_n ?_
          refine W_seq rfl ?_
          refine W_reg rfl ?_
          refine Rv rfl rfl rfl (U_move rfl) rfl rfl ?_
          refine Rv rfl rfl rfl (U_eql rfl rfl) rfl rfl ?_
          refine Re rfl ?_
          refine thenQ_n ?_
          refine WcondP rfl rfl (fun hc4 => ?_) (fun hc4 => ?_)
          · refine W_reg rfl ?_
            refine Rv rfl rfl rfl (U_move rfl) rfl rfl ?_
            refine Rv rfl rfl rfl (U_add rfl rfl (w64e (m := ((n + 1 : Nat) : Int)) (by omega) (by omega) (by omega))) rfl rfl ?_
            refine Rv rfl rfl rfl (U_assign rfl) rfl rfl ?_
            refine Re rfl ?_
            refine blkQ_n ?_
            refine thenQ_n ?_
            refine W_reg rfl ?_
            refine Rv rfl rfl rfl (U_move rfl) rfl rfl ?_
            refine Rv rfl rfl rfl (U_add rfl rfl (w64e (m := ((i + 1 : Nat) : Int)) (by omega) (by omega) (by omega))) rfl rfl ?_
            refine Rv rfl rfl rfl (U_assign rfl) rfl rfl ?_
            refine Re rfl ?_
            refine thenQ_n ?_
            exact againTo (T' := [(3, .rop [i64 ((H : Nat) : Int), i64 ((Z : Nat) : Int), .ros (ls.map boxesL) ls.length c] 0), (7, .rop [i64 ((f : Nat) : Int), i64 ((w : Nat) : Int), i64 ((l : Nat) : Int), i64 ((g : Nat) : Int)] 0), (8, .ptr 1 0), (9, i64 (((m + 1) : Nat) : Int)), (10, i64 (((n + 1) : Nat) : Int)), (11, i64 (((i + 1) : Nat) : Int))]) (H' := [(1, some (.cells [i64 ((((f : Nat) : Int) + (((y0 : Nat) : Int).tmod ((((w : Nat) : Int) - (1 + ((y1 % w : Nat) : Int))) + 1))).tmod ((H : Nat) : Int)), i64 (1 + ((y1 % w : Nat) : Int)), i64 (((l : Nat) : Int) + (((y2 : Nat) : Int).tmod (((g : Nat) : Int) - ((l : Nat) : Int)))), i64 (((((l : Nat) : Int) + (((y2 : Nat) : Int).tmod (((g : Nat) : Int) - ((l : Nat) : Int)))) + 1) + (((y3 : Nat) : Int).tmod (((g : Nat) : Int) - (((l : Nat) : Int) + (((y2 : Nat) : Int).tmod (((g : Nat) : Int) - ((l : Nat) : Int)))))))] 44))]) (n := 2) (ls.length - (i + 1)) ⟨i + 1, m + 1, n + 1, (by omega), (by first | (rw [kcK_t (by omega) (by omega), ← hi0_1]; done) | (rw [kcK_f (by omega) (by omega)]; exact hi0_1) | (exfalso; omega)), (by first | (rw [kcK_t (by omega) (by omega), ← hi0_2]; done) | (rw [kcK_f (by omega) (by omega)]; exact hi0_2) | (exfalso; omega)), rfl, rfl⟩ (by omega) id ⟨eD rfl rfl, eD rfl rfl, e_ rfl rfl, eD rfl rfl, eD rfl rfl, eD rfl rfl, trivial⟩ ⟨rD rfl rfl rfl, trivial⟩ rfl rfl rfl rfl (fun _ _ => rfl)
          · refine W_skip rfl ?_
            refine blkQ_n ?_
            refine thenQ_n ?_
            refine W_reg rfl ?_
            refine Rv rfl rfl rfl (U_move rfl) rfl rfl ?_
            refine Rv rfl rfl rfl (U_add rfl rfl (w64e (m := ((i + 1 : Nat) : Int)) (by omega) (by omega) (by omega))) rfl rfl ?_
            refine Rv rfl rfl rfl (U_assign rfl) rfl rfl ?_
            refine Re rfl ?_
            refine thenQ_n ?_
            exact againTo (T' := [(3, .rop [i64 ((H : Nat) : Int), i64 ((Z : Nat) : Int), .ros (ls.map boxesL) ls.length c] 0), (7, .rop [i64 ((f : Nat) : Int), i64 ((w : Nat) : Int), i64 ((l : Nat) : Int), i64 ((g : Nat) : Int)] 0), (8, .ptr 1 0), (9, i64 (((m + 1) : Nat) : Int)), (10, i64 ((n : Nat) : Int)), (11, i64 (((i + 1) : Nat) : Int))]) (H' := [(1, some (.cells [i64 ((((f : Nat) : Int) + (((y0 : Nat) : Int).tmod ((((w : Nat) : Int) - (1 + ((y1 % w : Nat) : Int))) + 1))).tmod ((H : Nat) : Int)), i64 (1 + ((y1 % w : Nat) : Int)), i64 (((l : Nat) : Int) + (((y2 : Nat) : Int).tmod (((g : Nat) : Int) - ((l : Nat) : Int)))), i64 (((((l : Nat) : Int) + (((y2 : Nat) : Int).tmod (((g : Nat) : Int) - ((l : Nat) : Int)))) + 1) + (((y3 : Nat) : Int).tmod (((g : Nat) : Int) - (((l : Nat) : Int) + (((y2 : Nat) : Int).tmod (((g : Nat) : Int) - ((l : Nat) : Int)))))))] 44))]) (n := 2) (ls.length - (i + 1)) ⟨i + 1, m + 1, n, (by omega), (by first | (rw [kcK_t (by omega) (by omega), ← hi0_1]; done) | (rw [kcK_f (by omega) (by omega)]; exact hi0_1) | (exfalso; omega)), (by first | (rw [kcK_t (by omega) (by omega), ← hi0_2]; done) | (rw [kcK_f (by omega) (by omega)]; exact hi0_2) | (exfalso; omega)), rfl, rfl⟩ (by omega) id ⟨eD rfl rfl, eD rfl rfl, e_ rfl rfl, eD rfl rfl, eD rfl rfl, eD rfl rfl, trivial⟩ ⟨rD rfl rfl rfl, trivial⟩ rfl rfl rfl rfl (fun _ _ => rfl)
        · refine W_skip rfl ?_
          refine thenQ_n ?_
          refine W_seq rfl ?_
          refine W_reg rfl ?_
          refine Rv rfl rfl rfl (U_move rfl) rfl rfl ?_
          refine Rv rfl rfl rfl (U_eql rfl rfl) rfl rfl ?_
          refine Re rfl ?_
          refine thenQ_n ?_
          refine WcondP rfl rfl (fun hc4 => ?_) (fun hc4 => ?_)
          · refine W_reg rfl ?_
            refine Rv rfl rfl rfl (U_move rfl) rfl rfl ?_
            refine Rv rfl rfl rfl (U_add rfl rfl (w64e (m := ((n + 1 : Nat) : Int)) (by omega) (by omega) (by omega))) rfl rfl ?_
            refine Rv rfl rfl rfl (U_assign rfl) rfl rfl ?_
            refine Re rfl ?_
            refine blkQ_n ?_
            refine thenQ_n ?_
            refine W_reg rfl ?_
            refine Rv rfl rfl rfl (U_move rfl) rfl rfl ?_
            refine Rv rfl rfl rfl (U_add rfl rfl (w64e (m := ((i + 1 : Nat) : Int)) (by omega) (by omega) (by omega))) rfl rfl ?_
            refine Rv rfl rfl rfl (U_assign rfl) rfl rfl ?_
            refine Re rfl ?_
            refine thenQ_n ?_
            exact againTo (T' := [(3, .rop [i64 ((H : Nat) : Int), i64 ((Z : Nat) : Int), .ros (ls.map boxesL) ls.length c] 0), (7, .rop [i64 ((f : Nat) : Int), i64 ((w : Nat) : Int), i64 ((l : Nat) : Int), i64 ((g : Nat) : Int)] 0), (8, .ptr 1 0), (9, i64 ((m : Nat) : Int)), (10, i64 (((n + 1) : Nat) : Int)), (11, i64 (((i + 1) : Nat) : Int))]) (H' := [(1, some (.cells [i64 ((((f : Nat) : Int) + (((y0 : Nat) : Int).tmod ((((w : Nat) : Int) - (1 + ((y1 % w : Nat) : Int))) + 1))).tmod ((H : Nat) : Int)), i64 (1 + ((y1 % w : Nat) : Int)), i64 (((l : Nat) : Int) + (((y2 : Nat) : Int).tmod (((g : Nat) : Int) - ((l : Nat) : Int)))), i64 (((((l : Nat) : Int) + (((y2 : Nat) : Int).tmod (((g : Nat) : Int) - ((l : Nat) : Int)))) + 1) + (((y3 : Nat) : Int).tmod (((g : Nat) : Int) - (((l : Nat) : Int) + (((y2 : Nat) : Int).tmod (((g : Nat) : Int) - ((l : Nat) : Int)))))))] 44))]) (n := 2) (ls.length - (i + 1)) ⟨i + 1, m, n + 1, (by omega), (by first | (rw [kcK_t (by omega) (by omega), ← hi0_1]; done) | (rw [kcK_f (by omega) (by omega)]; exact hi0_1) | (exfalso; omega)), (by first | (rw [kcK_t (by omega) (by omega), ← hi0_2]; done) | (rw [kcK_f (by omega) (by omega)]; exact hi0_2) | (exfalso; omega)), rfl, rfl⟩ (by omega) id ⟨eD rfl rfl, eD rfl rfl, e_ rfl rfl, eD rfl rfl, eD rfl rfl, eD rfl rfl, trivial⟩ ⟨rD rfl rfl rfl, trivial⟩ rfl rfl rfl rfl (fun _ _ => rfl)
          · refine W_skip rfl ?_
            refine blkQ_n ?_
            refine thenQ_n ?_
            refine W_reg rfl ?_
            refine Rv rfl rfl rfl (U_move rfl) rfl rfl ?_
            refine Rv rfl rfl rfl (U_add rfl rfl (w64e (m := ((i + 1 : Nat) : Int)) (by omega) (by omega) (by omega))) rfl rfl ?_
            refine Rv rfl rfl rfl (U_assign rfl) rfl rfl ?_
            refine Re rfl ?_
            refine thenQ_n ?_
            exact againTo (T' := [(3, .rop [i64 ((H : Nat) : Int), i64 ((Z : Nat) : Int), .ros (ls.map boxesL) ls.length c] 0), (7, .rop [i64 ((f : Nat) : Int), i64 ((w : Nat) : Int), i64 ((l : Nat) : Int), i64 ((g : Nat) : Int)] 0), (8, .ptr 1 0), (9, i64 ((m : Nat) : Int)), (10, i64 ((n : Nat) : Int)), (11, i64 (((i + 1) : Nat) : Int))]) (H' := [(1, some (.cells [i64 ((((f : Nat) : Int) + (((y0 : Nat) : Int).tmod ((((w : Nat) : Int) - (1 + ((y1 % w : Nat) : Int))) + 1))).tmod ((H : Nat) : Int)), i64 (1 + ((y1 % w : Nat) : Int)), i64 (((l : Nat) : Int) + (((y2 : Nat) : Int).tmod (((g : Nat) : Int) - ((l : Nat) : Int)))), i64 (((((l : Nat) : Int) + (((y2 : Nat) : Int).tmod (((g : Nat) : Int) - ((l : Nat) : Int)))) + 1) + (((y3 : Nat) : Int).tmod (((g : Nat) : Int) - (((l : Nat) : Int) + (((y2 : Nat) : Int).tmod (((g : Nat) : Int) - ((l : Nat) : Int)))))))] 44))]) (n := 2) (ls.length - (i + 1)) ⟨i + 1, m, n, (by omega), (by first | (rw [kcK_t (by omega) (by omega), ← hi0_1]; done) | (rw [kcK_f (by omega) (by omega)]; exact hi0_1) | (exfalso; omega)), (by first | (rw [kcK_t (by omega) (by omega), ← hi0_2]; done) | (rw [kcK_f (by omega) (by omega)]; exact hi0_2) | (exfalso; omega)), rfl, rfl⟩ (by omega) id ⟨eD rfl rfl, eD rfl rfl, e_ rfl rfl, eD rfl rfl, eD rfl rfl, eD rfl rfl, trivial⟩ ⟨rD rfl rfl rfl, trivial⟩ rfl rfl rfl rfl (fun _ _ => rfl)
      · rw [hg6]
        have hg6' : ¬ (((kinQ Z H ls[i] (⟨((f : Nat) : Int), ((w : Nat) : Int), ((l : Nat) : Int), ((g : Nat) : Int)⟩ : Bx) : Nat) : Int) ≠ 1) := of_decide_eq_false hg6
        refine Rs rfl rfl rfl rfl rfl ?_
        refine Rs rfl rfl rfl rfl rfl ?_
        refine Rs rfl rfl rfl rfl rfl ?_
        refine Rv rfl rfl rfl (U_pick_f rfl rfl) rfl rfl ?_
        refine Rv rfl rfl rfl (U_pick_f rfl rfl) rfl rfl ?_
        refine Re rfl ?_
        refine thenQ_n ?_
        refine Wcond rfl rfl (fun h => nomatch h) (fun _ => ?_)
        refine W_skip rfl ?_
        refine thenQ_n ?_
        refine W_seq rfl ?_
        refine W_seq rfl ?_
        refine W_reg rfl ?_
        refine Rv rfl rfl rfl (U_move rfl) rfl rfl ?_
        refine Rv rfl rfl rfl (U_eql rfl rfl) rfl rfl ?_
        refine Re rfl ?_
        refine thenQ_n ?_
        refine WcondP rfl rfl (fun hc3 => ?_) (fun hc3 => ?_)
        · refine W_reg rfl ?_
          refine Rv rfl rfl rfl (U_move rfl) rfl rfl ?_
          refine Rv rfl rfl rfl (U_add rfl rfl (w64e (m := ((m + 1 : Nat) : Int)) (by omega) (by omega) (by omega))) rfl rfl ?_
          refine Rv rfl rfl rfl (U_assign rfl) rfl rfl ?_
          refine Re rfl ?_
          refine thenQ_n ?_
          refine W_seq rfl ?_
          refine W_reg rfl ?_
          refine Rv rfl rfl rfl (U_move rfl) rfl rfl ?_
          refine Rv rfl rfl rfl (U_eql rfl rfl) rfl rfl ?_
          refine Re rfl ?_
          refine thenQ_n ?_
          refine WcondP rfl rfl (fun hc4 => ?_) (fun hc4 => ?_)
          · refine W_reg rfl ?_
            refine Rv rfl rfl rfl (U_move rfl) rfl rfl ?_
            refine Rv rfl rfl rfl (U_add rfl rfl (w64e (m := ((n + 1 : Nat) : Int)) (by omega) (by omega) (by omega))) rfl rfl ?_
            refine Rv rfl rfl rfl (U_assign rfl) rfl rfl ?_
            refine Re rfl ?_
            refine blkQ_n ?_
            refine thenQ_n ?_
            refine W_reg rfl ?_
            refine Rv rfl rfl rfl (U_move rfl) rfl rfl ?_
            refine Rv rfl rfl rfl (U_add rfl rfl (w64e (m := ((i + 1 : Nat) : Int)) (by omega) (by omega) (by omega))) rfl rfl ?_
            refine Rv rfl rfl rfl (U_assign rfl) rfl rfl ?_
            refine Re rfl ?_
            refine thenQ_n ?_
            exact againTo (T' := [(3, .rop [i64 ((H : Nat) : Int), i64 ((Z : Nat) : Int), .ros (ls.map boxesL) ls.length c] 0), (7, .rop [i64 ((f : Nat) : Int), i64 ((w : Nat) : Int), i64 ((l : Nat) : Int), i64 ((g : Nat) : Int)] 0), (8, .ptr 1 0), (9, i64 (((m + 1) : Nat) : Int)), (10, i64 (((n + 1) : Nat) : Int)), (11, i64 (((i + 1) : Nat) : Int))]) (H' := [(1, some (.cells [i64 ((((f : Nat) : Int) + (((y0 : Nat) : Int).tmod ((((w : Nat) : Int) - (1 + ((y1 % w : Nat) : Int))) + 1))).tmod ((H : Nat) : Int)), i64 (1 + ((y1 % w : Nat) : Int)), i64 (((l : Nat) : Int) + (((y2 : Nat) : Int).tmod (((g : Nat) : Int) - ((l : Nat) : Int)))), i64 (((((l : Nat) : Int) + (((y2 : Nat) : Int).tmod (((g : Nat) : Int) - ((l : Nat) : Int)))) + 1) + (((y3 : Nat) : Int).tmod (((g : Nat) : Int) - (((l : Nat) : Int) + (((y2 : Nat) : Int).tmod (((g : Nat) : Int) - ((l : Nat) : Int)))))))] 44))]) (n := 2) (ls.length - (i + 1)) ⟨i + 1, m + 1, n + 1, (by omega), (by first | (rw [kcK_t (by omega) (by omega), ← hi0_1]; done) | (rw [kcK_f (by omega) (by omega)]; exact hi0_1) | (exfalso; omega)), (by first | (rw [kcK_t (by omega) (by omega), ← hi0_2]; done) | (rw [kcK_f (by omega) (by omega)]; exact hi0_2) | (exfalso; omega)), rfl, rfl⟩ (by omega) id ⟨eD rfl rfl, eD rfl rfl, e_ rfl rfl, eD rfl rfl, eD rfl rfl, eD rfl rfl, trivial⟩ ⟨rD rfl rfl rfl, trivial⟩ rfl rfl rfl rfl (fun _ _ => rfl)
          · refine W_skip rfl ?_
            refine blkQ_n ?_
            refine thenQ_n ?_
            refine W_reg rfl ?_
            refine Rv rfl rfl rfl (U_move rfl) rfl rfl ?_
            refine Rv rfl rfl rfl (U_add rfl rfl (w64e (m := ((i + 1 : Nat) : Int)) (by omega) (by omega) (by omega))) rfl rfl ?_
            refine Rv rfl rfl rfl (U_assign rfl) rfl rfl ?_
            refine Re rfl ?_
            refine thenQ_n ?_
            exact againTo (T' := [(3, .rop [i64 ((H : Nat) : Int), i64 ((Z : Nat) : Int), .ros (ls.map boxesL) ls.length c] 0), (7, .rop [i64 ((f : Nat) : Int), i64 ((w : Nat) : Int), i64 ((l : Nat) : Int), i64 ((g : Nat) : Int)] 0), (8, .ptr 1 0), (9, i64 (((m + 1) : Nat) : Int)), (10, i64 ((n : Nat) : Int)), (11, i64 (((i + 1) : Nat) : Int))]) (H' := [(1, some (.cells [i64 ((((f : Nat) : Int) + (((y0 : Nat) : Int).tmod ((((w : Nat) : Int) - (1 + ((y1 % w : Nat) : Int))) + 1))).tmod ((H : Nat) : Int)), i64 (1 + ((y1 % w : Nat) : Int)), i64 (((l : Nat) : Int) + (((y2 : Nat) : Int).tmod (((g : Nat) : Int) - ((l : Nat) : Int)))), i64 (((((l : Nat) : Int) + (((y2 : Nat) : Int).tmod (((g : Nat) : Int) - ((l : Nat) : Int)))) + 1) + (((y3 : Nat) : Int).tmod (((g : Nat) : Int) - (((l : Nat) : Int) + (((y2 : Nat) : Int).tmod (((g : Nat) : Int) - ((l : Nat) : Int)))))))] 44))]) (n := 2) (ls.length - (i + 1)) ⟨i + 1, m + 1, n, (by omega), (by first | (rw [kcK_t (by omega) (by omega), ← hi0_1]; done) | (rw [kcK_f (by omega) (by omega)]; exact hi0_1) | (exfalso; omega)), (by first | (rw [kcK_t (by omega) (by omega), ← hi0_2]; done) | (rw [kcK_f (by omega) (by omega)]; exact hi0_2) | (exfalso; omega)), rfl, rfl⟩ (by omega) id ⟨eD rfl rfl, eD rfl rfl, e_ rfl rfl, eD rfl rfl, eD rfl rfl, eD rfl rfl, trivial⟩ ⟨rD rfl rfl rfl, trivial⟩ rfl rfl rfl rfl (fun _ _ => rfl)
        · refine W_skip rfl ?_
          refine thenQ_n ?_
          refine W_seq rfl ?_
          refine W_reg rfl ?_
          refine Rv rfl rfl rfl (U_move rfl) rfl rfl ?_
          refine Rv rfl rfl rfl (U_eql rfl rfl) rfl rfl ?_
          refine Re rfl ?_
          refine thenQ_n ?_
          refine WcondP rfl rfl (fun hc4 => ?_) (fun hc4 => ?_)
          · refine W_reg rfl ?_
            refine Rv rfl rfl rfl (U_move rfl) rfl rfl ?_
            refine Rv rfl rfl rfl (U_add rfl rfl (w64e (m := ((n + 1 : Nat) : Int)) (by omega) (by omega) (by omega))) rfl rfl ?_
            refine Rv rfl rfl rfl (U_assign rfl) rfl rfl ?_
            refine Re rfl ?_
            refine blkQ_n ?_
            refine thenQ_n ?_
            refine W_reg rfl ?_
            refine Rv rfl rfl rfl (U_move rfl) rfl rfl ?_
            refine Rv rfl rfl rfl (U_add rfl rfl (w64e (m := ((i + 1 : Nat) : Int)) (by omega) (by omega) (by omega))) rfl rfl ?_
            refine Rv rfl rfl rfl (U_assign rfl) rfl rfl ?_
            refine Re rfl ?_
            refine thenQ_n ?_
            exact againTo (T' := [(3, .rop [i64 ((H : Nat) : Int), i64 ((Z : Nat) : Int), .ros (ls.map boxesL) ls.length c] 0), (7, .rop [i64 ((f : Nat) : Int), i64 ((w : Nat) : Int), i64 ((l : Nat) : Int), i64 ((g : Nat) : Int)] 0), (8, .ptr 1 0), (9, i64 ((m : Nat) : Int)), (10, i64 (((n + 1) : Nat) : Int)), (11, i64 (((i + 1) : Nat) : Int))]) (H' := [(1, some (.cells [i64 ((((f : Nat) : Int) + (((y0 : Nat) : Int).tmod ((((w : Nat) : Int) - (1 + ((y1 % w : Nat) : Int))) + 1))).tmod ((H : Nat) : Int)), i64 (1 + ((y1 % w : Nat) : Int)), i64 (((l : Nat) : Int) + (((y2 : Nat) : Int).tmod (((g : Nat) : Int) - ((l : Nat) : Int)))), i64 (((((l : Nat) : Int) + (((y2 : Nat) : Int).tmod (((g : Nat) : Int) - ((l : Nat) : Int)))) + 1) + (((y3 : Nat) : Int).tmod (((g : Nat) : Int) - (((l : Nat) : Int) + (((y2 : Nat) : Int).tmod (((g : Nat) : Int) - ((l : Nat) : Int)))))))] 44))]) (n := 2) (ls.length - (i + 1)) ⟨i + 1, m, n + 1, (by omega), (by first | (rw [kcK_t (by omega) (by omega), ← hi0_1]; done) | (rw [kcK_f (by omega) (by omega)]; exact hi0_1) | (exfalso; omega)), (by first | (rw [kcK_t (by omega) (by omega), ← hi0_2]; done) | (rw [kcK_f (by omega) (by omega)]; exact hi0_2) | (exfalso; omega)), rfl, rfl⟩ (by omega) id ⟨eD rfl rfl, eD rfl rfl, e_ rfl rfl, eD rfl rfl, eD rfl rfl, eD rfl rfl, trivial⟩ ⟨rD rfl rfl rfl, trivial⟩ rfl rfl rfl rfl (fun _ _ => rfl)
          · refine W_skip rfl ?_
            refine blkQ_n ?_
            refine thenQ_n ?_
            refine W_reg rfl ?_
            refine Rv rfl rfl rfl (U_move rfl) rfl rfl ?_
            refine Rv rfl rfl rfl (U_add rfl rfl (w64e (m := ((i + 1 : Nat) : Int)) (by omega) (by omega) (by omega))) rfl rfl ?_
            refine Rv rfl rfl rfl (U_assign rfl) rfl rfl ?_
            refine Re rfl ?_
            refine thenQ_n ?_
            exact againTo (T' := [(3, .rop [i64 ((H : Nat) : Int), i64 ((Z : Nat) : Int), .ros (ls.map boxesL) ls.length c] 0), (7, .rop [i64 ((f : Nat) : Int), i64 ((w : Nat) : Int), i64 ((l : Nat) : Int), i64 ((g : Nat) : Int)] 0), (8, .ptr 1 0), (9, i64 ((m : Nat) : Int)), (10, i64 ((n : Nat) : Int)), (11, i64 (((i + 1) : Nat) : Int))]) (H' := [(1, some (.cells [i64 ((((f : Nat) : Int) + (((y0 : Nat) : Int).tmod ((((w : Nat) : Int) - (1 + ((y1 % w : Nat) : Int))) + 1))).tmod ((H : Nat) : Int)), i64 (1 + ((y1 % w : Nat) : Int)), i64 (((l : Nat) : Int) + (((y2 : Nat) : Int).tmod (((g : Nat) : Int) - ((l : Nat) : Int)))), i64 (((((l : Nat) : Int) + (((y2 : Nat) : Int).tmod (((g : Nat) : Int) - ((l : Nat) : Int)))) + 1) + (((y3 : Nat) : Int).tmod (((g : Nat) : Int) - (((l : Nat) : Int) + (((y2 : Nat) : Int).tmod (((g : Nat) : Int) - ((l : Nat) : Int)))))))] 44))]) (n := 2) (ls.length - (i + 1)) ⟨i + 1, m, n, (by omega), (by first | (rw [kcK_t (by omega) (by omega), ← hi0_1]; done) | (rw [kcK_f (by omega) (by omega)]; exact hi0_1) | (exfalso; omega)), (by first | (rw [kcK_t (by omega) (by omega), ← hi0_2]; done) | (rw [kcK_f (by omega) (by omega)]; exact hi0_2) | (exfalso; omega)), rfl, rfl⟩ (by omega) id ⟨eD rfl rfl, eD rfl rfl, e_ rfl rfl, eD rfl rfl, eD rfl rfl, eD rfl rfl, trivial⟩ ⟨rD rfl rfl rfl, trivial⟩ rfl rfl rfl rfl (fun _ _ => rfl)
  · have hil : i = ls.length := by omega
    rw [hil] at hi0_1 hi0_2
    refine W_exit rfl ?_
    refine thenQ_x ?_
    refine thenQ_x ?_
    refine blkQ_x rfl ?_
    refine thenQ_n ?_
    refine W_seq rfl ?_
    refine W_reg rfl ?_
    refine Rv rfl rfl rfl (U_load3 rfl rfl rfl rfl rfl) rfl rfl ?_
    refine Rv rfl rfl rfl (U_call rfl rfl (onceS_p H Z ls c hc hv hn) rfl) rfl rfl ?_
    refine Rv rfl rfl rfl (U_neq rfl rfl) rfl rfl ?_
    refine Rv rfl rfl rfl (U_move rfl) rfl rfl ?_
    refine Rs rfl rfl rfl rfl rfl ?_
    refine Rs rfl rfl rfl rfl rfl ?_
    refine Rs rfl rfl rfl rfl rfl ?_
    refine Rs rfl rfl rfl rfl rfl ?_
    refine Rs rfl rfl rfl rfl rfl ?_
    refine Rs rfl rfl rfl rfl rfl ?_
    refine Rv rfl rfl rfl (U_pick_t rfl rfl) rfl rfl ?_
    refine Rv rfl rfl rfl (U_move rfl) rfl rfl ?_
    refine Rs rfl rfl rfl rfl rfl ?_
    refine Rs rfl rfl rfl rfl rfl ?_
    refine Rs rfl rfl rfl rfl rfl ?_
    refine Rs rfl rfl rfl rfl rfl ?_
    refine Rs rfl rfl rfl rfl rfl ?_
    refine Rs rfl rfl rfl rfl rfl ?_
    refine Rv rfl rfl rfl (U_pick_t rfl rfl) rfl rfl ?_
    refine Rv rfl rfl rfl (U_move rfl) rfl rfl ?_
    refine Rv rfl rfl rfl (U_call rfl rfl (works_p) rfl) rfl rfl ?_
    refine Rv rfl rfl rfl (U_pick_t rfl rfl) rfl rfl ?_
    refine Rv rfl rfl rfl (U_assign rfl) rfl rfl ?_
    refine Re rfl ?_
    refine thenQ_n ?_
    refine W_ret rfl ?_
    exact retL (rlT rfl rl0) rfl rfl
theorem borderNearerF_p (s : Sk) (c : Option Nat) (hf : (!grt s && decide (chkS s = 0)) = false) (x0 x1 x2 x3 : Nat) (hx0 : x0 < 256) (hx1 : x1 < 256) (hx2 : x2 < 256) (hx3 : x3 < 256) (y0 y1 y2 y3 : Nat) (hy0 : y0 < 256) (hy1 : y1 < 256) (hy2 : y2 < 256) (hy3 : y3 < 256) : Pure Try.prog 12 [.agg [i64 s.h, i64 s.z, landsA s.ls c], .agg [.int .u8 (x0 : Nat), .int .u8 (x1 : Nat), .int .u8 (x2 : Nat), .int .u8 (x3 : Nat)], .agg [.int .u8 (y0 : Nat), .int .u8 (y1 : Nat), .int .u8 (y2 : Nat), .int .u8 (y3 : Nat)]] (.bool true) := by
  refine pure_of_body Try.func12 (c := body Try.f12) rfl (by simp [Try.ntmps12]) fun w0 Φ0 => ?_
  refine W_seq rfl ?_
  refine W_reg rfl ?_
  refine Rv rfl rfl rfl (U_boxF rfl rfl rfl) rfl rfl ?_
  refine Rv rfl rfl rfl (U_boxF rfl rfl rfl) rfl rfl ?_
  refine Rv rfl rfl rfl (U_boxF rfl rfl rfl) rfl rfl ?_
  refine Rv rfl rfl rfl (U_assign rfl) rfl rfl ?_
  refine Re rfl ?_
  refine thenQ_n ?_
  refine W_seq rfl ?_
  refine W_seq rfl ?_
  refine W_reg rfl ?_
  refine Rv rfl rfl rfl (U_load3 rfl rfl rfl rfl rfl) rfl rfl ?_
  refine Rv rfl rfl rfl (U_call rfl rfl (fineF_p s c hf) rfl) rfl rfl ?_
  refine Rv rfl rfl rfl (U_not rfl) rfl rfl ?_
  refine Re rfl ?_
  refine thenQ_n ?_
  refine Wcond rfl rfl (fun _ => ?_) (fun h => nomatch h)
  refine W_seq rfl ?_
  refine W_reg rfl ?_
  refine Rv rfl rfl rfl (U_call rfl rfl (works_p) rfl) rfl rfl ?_
  refine Rv rfl rfl rfl (U_assign rfl) rfl rfl ?_
  refine Re rfl ?_
  refine thenQ_n ?_
  refine W_ret rfl ?_
  refine thenQ_r ?_
  exact retL (rlT rfl rl0) rfl rfl
theorem borderNearer_p (s : Sk) (c : Option Nat) (x0 x1 x2 x3 : Nat) (hx0 : x0 < 256) (hx1 : x1 < 256) (hx2 : x2 < 256) (hx3 : x3 < 256) (y0 y1 y2 y3 : Nat) (hy0 : y0 < 256) (hy1 : y1 < 256) (hy2 : y2 < 256) (hy3 : y3 < 256) : Pure Try.prog 12 [.agg [i64 s.h, i64 s.z, landsA s.ls c], .agg [.int .u8 (x0 : Nat), .int .u8 (x1 : Nat), .int .u8 (x2 : Nat), .int .u8 (x3 : Nat)], .agg [.int .u8 (y0 : Nat), .int .u8 (y1 : Nat), .int .u8 (y2 : Nat), .int .u8 (y3 : Nat)]] (.bool true) := by
  cases hf : (!grt s && decide (chkS s = 0)) with
  | false => exact borderNearerF_p s c hf x0 x1 x2 x3 hx0 hx1 hx2 hx3 y0 y1 y2 y3 hy0 hy1 hy2 hy3
  | true =>
    simp only [Bool.and_eq_true, Bool.not_eq_true', decide_eq_true_eq] at hf
    obtain ⟨H, Z, ls, rfl, hv⟩ := sk_ok hf.2
    have hc := hf.2
    have hg := hf.1
    have hi := boxW_is (x0 := x0) (x1 := x1) (x2 := x2) (x3 := x3) hv.h1.1 hv.z1.1
    cases hn : fltQ Z H ls with
    | none => exact borderNearer1_p H Z ls c hc hv hg x0 x1 x2 x3 hx0 hx1 hx2 hx3 y0 y1 y2 y3 hy0 hy1 hy2 hy3 _ _ _ _ rfl hi hn
    | some p => exact borderNearer2_p H Z ls c hc hv hg x0 x1 x2 x3 hx0 hx1 hx2 hx3 y0 y1 y2 y3 hy0 hy1 hy2 hy3 _ _ _ _ rfl hi p hn
end Go.Proofs.Ythlolelbmhfdbaa
end
