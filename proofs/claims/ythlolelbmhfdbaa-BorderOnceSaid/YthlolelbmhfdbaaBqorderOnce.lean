import Derived.ChangeKeysEq
import Derived.WideKeyRuns
import Derived.WalkSpells
import Derived.Test.YthlolelbmhfdbaaM5
set_option linter.all false
section
namespace Go.AE
open Go.RowKit
section
variable {ρ : Env} {Φ : Fz} {w : World}
end
section
variable {C : Ctx} {o : Oper} {T : AT} {H : AH} {nx nx' : Nat} {v : AV} {ups : AH}
end
section ops
variable {C : Ctx} {T : AT} {H : AH} {nx : Nat} {d : Option Tmp} {ty : TypeId} {pos : String} {after : Array Edge} {g : Option (Nat × Bool)}
section num
variable {x y : Operand} {k : IntKind} {a b c : Int} {t t' : TypeId}
theorem U_mul (hx : ev T x = some (.int k a)) (hy : ev T y = some (.int k b)) (hc : k.wrap (a * b) = c) : OpU C ⟨d, .binOp .mul t x y t', ty, pos, after, g⟩ T H nx (.int k c) [] nx :=
  binInt hx hy rfl (by simp) fun w => ⟨.int k c, by simp [binOp, Op.intArith, hc], fun _ _ => mk_int⟩
theorem U_quo (hx : ev T x = some (.int k a)) (hy : ev T y = some (.int k b)) (h0 : b ≠ 0) (hc : k.wrap (a.tdiv b) = c) : OpU C ⟨d, .binOp .quo t x y t', ty, pos, after, g⟩ T H nx (.int k c) [] nx :=
  binInt hx hy rfl (by simp) fun w => ⟨.int k c, by simp [binOp, Op.intDiv, h0, hc], fun _ _ => mk_int⟩
end num
end ops
end Go.AE
end

section
namespace Go.AE
open Go.RowKit
section
variable {P : Program}
end
section ops
variable {C : Ctx} {T : AT} {H : AH} {nx : Nat} {d : Option Tmp} {ty : TypeId} {pos : String} {after : Array Edge} {g : Option (Nat × Bool)}
theorem U_eqlB {t t' : TypeId} {x y : Operand} {a b : Bool} [hT : TyBool C.P t] (hx : ev T x = some (.bool a)) (hy : ev T y = some (.bool b)) : OpU C ⟨d, .binOp .eql t x y t', ty, pos, after, g⟩ T H nx (.bool (decide (a = b))) [] nx :=
  OpU.of_value (by intro c; simp) fun ρ Φ ac w h2 _ => ⟨.bool (decide (a = b)), by
    simp [execOp, con_bool (ev_con h2 hx), con_bool (ev_con h2 hy), eqGuard, binOp, Op.equal, Op.maxDepth, run_equalIn_bool w 9999 t a b hT.un]
    cases a <;> cases b <;> rfl, mk_bool⟩
end ops
section
variable {P : Program} {w0 : World} {Φ0 : Fz} {nt : Nat} {T : AT} {H : AH} {nx : Nat}
end
end Go.AE
end

section
namespace Go.AE
open Go.RowKit
theorem tdivN (a b : Nat) : (a : Int).tdiv b = ((a / b : Nat) : Int) := by rw [Int.tdiv_eq_ediv_of_nonneg (by omega)]; rfl
theorem wquoN {a b : Nat} (h : a ≤ 9223372036854775807) : IntKind.i64.wrap ((a : Int).tdiv b) = ((a / b : Nat) : Int) := by
  rw [tdivN]; have := Nat.div_le_self a b; generalize a / b = q at *; exact w64 (by omega) (by omega)
section
variable {P : Program} {T : AT} {H : AH} {nx : Nat}
end
section ops
variable {C : Ctx} {T : AT} {H : AH} {nx : Nat} {d : Option Tmp} {ty : TypeId} {pos : String} {after : Array Edge} {g : Option (Nat × Bool)}
end ops
end Go.AE
end

section
namespace Go.Proofs.Ythlolelbmhfdbaa
set_option maxRecDepth 20000
open Go.AE
theorem any_false {α : Type} {p : α → Bool} {l : List α} (h : ∀ j (hj : j < l.length), p l[j] = false) : l.any p = false := by
  rw [List.any_eq_false]; intro x hx; obtain ⟨j, hj, rfl⟩ := List.getElem_of_mem hx; rw [h j hj]; simp
end Go.Proofs.Ythlolelbmhfdbaa
end

section
namespace Go.Proofs.Ythlolelbmhfdbaa
set_option maxRecDepth 20000
open Go.AE
theorem any_f {α : Type} {p : α → Bool} {l : List α} (h : ∀ j (hj : j < l.length), p l[j] = false) : l.any p = false := any_false h
theorem bef_succ {α : Type} {p : α → Bool} {l : List α} {k : Nat} (h : ∀ j (hj : j < l.length), j < k → p l[j] = false) (hk : k < l.length) (hp : p l[k] = false) : ∀ j (hj : j < l.length), j < k + 1 → p l[j] = false := fun j hj h2 => by
  rcases Nat.lt_succ_iff_lt_or_eq.1 h2 with h2 | rfl
  · exact h j hj h2
  · exact hp
theorem isBR_p (b : Bx) (H Z : Int) (hH : 1 ≤ H ∧ H ≤ 48) (hZ : 1 ≤ Z ∧ Z ≤ 24) : Pure Try.prog 74 [bxA b, i64 H, i64 Z] (.bool (isB b H Z)) := by
  refine pure_of_body Try.func74 (c := body Try.f74) rfl (by simp [Try.ntmps74]) fun w0 Φ0 => ?_
  refine W_seq rfl ?_
  refine W_reg rfl ?_
  refine Rv rfl rfl rfl (U_boxF rfl rfl rfl) rfl rfl ?_
  refine Rv rfl rfl rfl (U_assign rfl) rfl rfl ?_
  refine Re rfl ?_
  refine thenQ_n ?_
  refine W_seq rfl ?_
  refine W_seq rfl ?_
  refine Wjoin ⟨[(2, i64 Z), (3, .rop [i64 b.fr, i64 b.wd, i64 b.lo, i64 b.hi] 0), (26, .bool ((decide (b.fr < 0)) || ((decide (H ≤ b.fr)) || ((decide (b.wd < 1)) || (decide (H < b.wd))))))], [], 0, []⟩ ?_ ?_
  · refine W_reg rfl ?_
    refine Rv rfl rfl rfl (U_fieldAddrR rfl) rfl rfl ?_
    refine Rv rfl rfl rfl (U_load1 rfl rfl rfl) rfl rfl ?_
    refine Rv rfl rfl rfl (U_lss rfl rfl) rfl rfl ?_
    refine Rv rfl rfl rfl (U_move rfl) rfl rfl ?_
    refine Rsplit (t := 10) rfl (fun hg1 => ?_) (fun hg1 => ?_)
    · rw [hg1]
      have hg1' : b.fr < 0 := of_decide_eq_true hg1
      refine Rs rfl rfl rfl rfl rfl ?_
      refine Rs rfl rfl rfl rfl rfl ?_
      refine Rs rfl rfl rfl rfl rfl ?_
      refine Rs rfl rfl rfl rfl rfl ?_
      refine Rv rfl rfl rfl (U_pick_t rfl rfl) rfl rfl ?_
      refine Rv rfl rfl rfl (U_move rfl) rfl rfl ?_
      refine Rs rfl rfl rfl rfl rfl ?_
      refine Rs rfl rfl rfl rfl rfl ?_
      refine Rs rfl rfl rfl rfl rfl ?_
      refine Rv rfl rfl rfl (U_pick_t rfl rfl) rfl rfl ?_
      refine Rv rfl rfl rfl (U_move rfl) rfl rfl ?_
      refine Rs rfl rfl rfl rfl rfl ?_
      refine Rs rfl rfl rfl rfl rfl ?_
      refine Rs rfl rfl rfl rfl rfl ?_
      refine Rs rfl rfl rfl rfl rfl ?_
      refine Rv rfl rfl rfl (U_pick_t rfl rfl) rfl rfl ?_
      refine Re rfl ?_
      exact joinTo id ⟨eD rfl rfl, eD rfl rfl, eD rfl rfl, trivial⟩ trivial rfl rfl rfl rfl (fun _ _ => rfl)
    · rw [hg1]
      have hg1' : ¬ (b.fr < 0) := of_decide_eq_false hg1
      refine Rv rfl rfl rfl (U_fieldAddrR rfl) rfl rfl ?_
      refine Rv rfl rfl rfl (U_load1 rfl rfl rfl) rfl rfl ?_
      refine Rv rfl rfl rfl (U_move rfl) rfl rfl ?_
      refine Rv rfl rfl rfl (U_geq rfl rfl) rfl rfl ?_
      refine Rv rfl rfl rfl (U_pick_f rfl rfl) rfl rfl ?_
      refine Rv rfl rfl rfl (U_move rfl) rfl rfl ?_
      refine Rsplit (t := 16) rfl (fun hg2 => ?_) (fun hg2 => ?_)
      · rw [hg2]
        have hg2' : H ≤ b.fr := of_decide_eq_true hg2
        refine Rs rfl rfl rfl rfl rfl ?_
        refine Rs rfl rfl rfl rfl rfl ?_
        refine Rs rfl rfl rfl rfl rfl ?_
        refine Rv rfl rfl rfl (U_pick_t rfl rfl) rfl rfl ?_
        refine Rv rfl rfl rfl (U_move rfl) rfl rfl ?_
        refine Rs rfl rfl rfl rfl rfl ?_
        refine Rs rfl rfl rfl rfl rfl ?_
        refine Rs rfl rfl rfl rfl rfl ?_
        refine Rs rfl rfl rfl rfl rfl ?_
        refine Rv rfl rfl rfl (U_pick_t rfl rfl) rfl rfl ?_
        refine Re rfl ?_
        exact joinTo id ⟨eD rfl rfl, eD rfl rfl, eD rfl rfl, trivial⟩ trivial rfl rfl rfl rfl (fun _ _ => rfl)
      · rw [hg2]
        have hg2' : ¬ (H ≤ b.fr) := of_decide_eq_false hg2
        refine Rv rfl rfl rfl (U_fieldAddrR rfl) rfl rfl ?_
        refine Rv rfl rfl rfl (U_load1 rfl rfl rfl) rfl rfl ?_
        refine Rv rfl rfl rfl (U_lss rfl rfl) rfl rfl ?_
        refine Rv rfl rfl rfl (U_pick_f rfl rfl) rfl rfl ?_
        refine Rv rfl rfl rfl (U_move rfl) rfl rfl ?_
        refine Rsplit (t := 21) rfl (fun hg3 => ?_) (fun hg3 => ?_)
        · rw [hg3]
          have hg3' : b.wd < 1 := of_decide_eq_true hg3
          refine Rs rfl rfl rfl rfl rfl ?_
          refine Rs rfl rfl rfl rfl rfl ?_
          refine Rs rfl rfl rfl rfl rfl ?_
          refine Rs rfl rfl rfl rfl rfl ?_
          refine Rv rfl rfl rfl (U_pick_t rfl rfl) rfl rfl ?_
          refine Re rfl ?_
          exact joinTo id ⟨eD rfl rfl, eD rfl rfl, eD rfl rfl, trivial⟩ trivial rfl rfl rfl rfl (fun _ _ => rfl)
        · rw [hg3]
          have hg3' : ¬ (b.wd < 1) := of_decide_eq_false hg3
          refine Rv rfl rfl rfl (U_fieldAddrR rfl) rfl rfl ?_
          refine Rv rfl rfl rfl (U_load1 rfl rfl rfl) rfl rfl ?_
          refine Rv rfl rfl rfl (U_move rfl) rfl rfl ?_
          refine Rv rfl rfl rfl (U_gtr rfl rfl) rfl rfl ?_
          refine Rv rfl rfl rfl (U_pick_f rfl rfl) rfl rfl ?_
          refine Re rfl ?_
          exact joinTo id ⟨eD rfl rfl, eD rfl rfl, eD rfl rfl, trivial⟩ trivial rfl rfl rfl rfl (fun _ _ => rfl)
  refine thenQ_n ?_
  refine Wcond rfl rfl (fun hc0 => ?_) (fun hc0 => ?_)
  · refine W_seq rfl ?_
    refine W_reg rfl ?_
    refine Rv rfl rfl rfl (U_assign rfl) rfl rfl ?_
    refine Re rfl ?_
    refine thenQ_n ?_
    refine W_ret rfl ?_
    refine thenQ_r ?_
    exact retL (rlT rfl rl0) (by first | rfl | (simp only [packA]; congr 1; symm; unfold isB; rw [inL1, inL1, inL1, inL1, Bool.eq_false_iff]; intro h; simp at h hc0; omega; first | done | rfl) | (simp only [packA]; congr 1; unfold isB; rw [inL1, inL1, inL1, inL1, Bool.eq_iff_iff]; simp at hc0 ⊢; omega; first | done | rfl)) rfl
  · have hc0' := Bool.eq_false_iff.1 hc0
    refine W_skip rfl ?_
    refine thenQ_n ?_
    refine W_seq rfl ?_
    refine Wjoin ⟨[(6, .bool ((decide (0 ≤ b.lo)) && ((decide (b.lo < b.hi)) && (decide (b.hi ≤ Z)))))], [], 0, []⟩ ?_ ?_
    · refine W_reg rfl ?_
      refine Rv rfl rfl rfl (U_fieldAddrR rfl) rfl rfl ?_
      refine Rv rfl rfl rfl (U_load1 rfl rfl rfl) rfl rfl ?_
      refine Rv rfl rfl rfl (U_geq rfl rfl) rfl rfl ?_
      refine Rv rfl rfl rfl (U_move rfl) rfl rfl ?_
      refine Rsplit (t := 30) rfl (fun hg4 => ?_) (fun hg4 => ?_)
      · rw [hg4]
        have hg4' : 0 ≤ b.lo := of_decide_eq_true hg4
        refine Rv rfl rfl rfl (U_fieldAddrR rfl) rfl rfl ?_
        refine Rv rfl rfl rfl (U_load1 rfl rfl rfl) rfl rfl ?_
        refine Rv rfl rfl rfl (U_fieldAddrR rfl) rfl rfl ?_
        refine Rv rfl rfl rfl (U_load1 rfl rfl rfl) rfl rfl ?_
        refine Rv rfl rfl rfl (U_lss rfl rfl) rfl rfl ?_
        refine Rv rfl rfl rfl (U_pick_t rfl rfl) rfl rfl ?_
        refine Rv rfl rfl rfl (U_move rfl) rfl rfl ?_
        refine Rsplit (t := 37) rfl (fun hg5 => ?_) (fun hg5 => ?_)
        · rw [hg5]
          have hg5' : b.lo < b.hi := of_decide_eq_true hg5
          refine Rv rfl rfl rfl (U_fieldAddrR rfl) rfl rfl ?_
          refine Rv rfl rfl rfl (U_load1 rfl rfl rfl) rfl rfl ?_
          refine Rv rfl rfl rfl (U_move rfl) rfl rfl ?_
          refine Rv rfl rfl rfl (U_leq rfl rfl) rfl rfl ?_
          refine Rv rfl rfl rfl (U_pick_t rfl rfl) rfl rfl ?_
          refine Rv rfl rfl rfl (U_assign rfl) rfl rfl ?_
          refine Re rfl ?_
          exact joinTo id ⟨eD rfl rfl, trivial⟩ trivial rfl rfl rfl rfl (fun _ _ => rfl)
        · rw [hg5]
          have hg5' : ¬ (b.lo < b.hi) := of_decide_eq_false hg5
          refine Rs rfl rfl rfl rfl rfl ?_
          refine Rs rfl rfl rfl rfl rfl ?_
          refine Rs rfl rfl rfl rfl rfl ?_
          refine Rs rfl rfl rfl rfl rfl ?_
          refine Rv rfl rfl rfl (U_pick_f rfl rfl) rfl rfl ?_
          refine Rv rfl rfl rfl (U_assign rfl) rfl rfl ?_
          refine Re rfl ?_
          exact joinTo id ⟨eD rfl rfl, trivial⟩ trivial rfl rfl rfl rfl (fun _ _ => rfl)
      · rw [hg4]
        have hg4' : ¬ (0 ≤ b.lo) := of_decide_eq_false hg4
        refine Rs rfl rfl rfl rfl rfl ?_
        refine Rs rfl rfl rfl rfl rfl ?_
        refine Rs rfl rfl rfl rfl rfl ?_
        refine Rs rfl rfl rfl rfl rfl ?_
        refine Rs rfl rfl rfl rfl rfl ?_
        refine Rv rfl rfl rfl (U_pick_f rfl rfl) rfl rfl ?_
        refine Rv rfl rfl rfl (U_move rfl) rfl rfl ?_
        refine Rs rfl rfl rfl rfl rfl ?_
        refine Rs rfl rfl rfl rfl rfl ?_
        refine Rs rfl rfl rfl rfl rfl ?_
        refine Rs rfl rfl rfl rfl rfl ?_
        refine Rv rfl rfl rfl (U_pick_f rfl rfl) rfl rfl ?_
        refine Rv rfl rfl rfl (U_assign rfl) rfl rfl ?_
        refine Re rfl ?_
        exact joinTo id ⟨eD rfl rfl, trivial⟩ trivial rfl rfl rfl rfl (fun _ _ => rfl)
    refine thenQ_n ?_
    refine W_ret rfl ?_
    exact retL (rlT rfl rl0) (by first | rfl | (simp only [packA]; congr 1; symm; unfold isB; rw [inL1, inL1, inL1, inL1, Bool.eq_false_iff]; intro h; simp at h hc0; omega; first | done | rfl) | (simp only [packA]; congr 1; unfold isB; rw [inL1, inL1, inL1, inL1, Bool.eq_iff_iff]; simp at hc0 ⊢; omega; first | done | rfl)) rfl
theorem chkSR_p (s : Sk) (c : Option Nat) (hl : s.ls.length ≤ 1000000) (hbl : ∀ l ∈ s.ls, l.length ≤ 1000000) : Pure Try.prog 23 [.agg [i64 s.h, i64 s.z, landsA s.ls c]] (i64 (chkS s)) := by
  refine pure_of_body Try.func23 (c := body Try.f23) rfl (by simp [Try.ntmps23]) fun w0 Φ0 => ?_
  refine W_seq rfl ?_
  refine W_reg rfl ?_
  refine Rv rfl rfl rfl (U_boxF rfl rfl rfl) rfl rfl ?_
  refine Rv rfl rfl rfl (U_assign rfl) rfl rfl ?_
  refine Re rfl ?_
  refine thenQ_n ?_
  refine W_seq rfl ?_
  refine W_seq rfl ?_
  refine Wjoin ⟨[(1, .rop [i64 s.h, i64 s.z, .ros (s.ls.map boxesL) s.ls.length c] 0), (23, .bool ((decide (s.h < 1)) || ((decide (48 < s.h)) || ((decide (s.z < 1)) || (decide (24 < s.z))))))], [], 0, []⟩ ?_ ?_
  · refine W_reg rfl ?_
    refine Rv rfl rfl rfl (U_fieldAddrR rfl) rfl rfl ?_
    refine Rv rfl rfl rfl (U_load1 rfl rfl rfl) rfl rfl ?_
    refine Rv rfl rfl rfl (U_lss rfl rfl) rfl rfl ?_
    refine Rv rfl rfl rfl (U_move rfl) rfl rfl ?_
    refine Rsplit (t := 9) rfl (fun hg1 => ?_) (fun hg1 => ?_)
    · rw [hg1]
      have hg1' : s.h < 1 := of_decide_eq_true hg1
      refine Rs rfl rfl rfl rfl rfl ?_
      refine Rs rfl rfl rfl rfl rfl ?_
      refine Rs rfl rfl rfl rfl rfl ?_
      refine Rv rfl rfl rfl (U_pick_t rfl rfl) rfl rfl ?_
      refine Rv rfl rfl rfl (U_move rfl) rfl rfl ?_
      refine Rs rfl rfl rfl rfl rfl ?_
      refine Rs rfl rfl rfl rfl rfl ?_
      refine Rs rfl rfl rfl rfl rfl ?_
      refine Rv rfl rfl rfl (U_pick_t rfl rfl) rfl rfl ?_
      refine Rv rfl rfl rfl (U_move rfl) rfl rfl ?_
      refine Rs rfl rfl rfl rfl rfl ?_
      refine Rs rfl rfl rfl rfl rfl ?_
      refine Rs rfl rfl rfl rfl rfl ?_
      refine Rv rfl rfl rfl (U_pick_t rfl rfl) rfl rfl ?_
      refine Re rfl ?_
      exact joinTo id ⟨eD rfl rfl, eD rfl rfl, trivial⟩ trivial rfl rfl rfl rfl (fun _ _ => rfl)
    · rw [hg1]
      have hg1' : ¬ (s.h < 1) := of_decide_eq_false hg1
      refine Rv rfl rfl rfl (U_fieldAddrR rfl) rfl rfl ?_
      refine Rv rfl rfl rfl (U_load1 rfl rfl rfl) rfl rfl ?_
      refine Rv rfl rfl rfl (U_gtr rfl rfl) rfl rfl ?_
      refine Rv rfl rfl rfl (U_pick_f rfl rfl) rfl rfl ?_
      refine Rv rfl rfl rfl (U_move rfl) rfl rfl ?_
      refine Rsplit (t := 14) rfl (fun hg2 => ?_) (fun hg2 => ?_)
      · rw [hg2]
        have hg2' : 48 < s.h := of_decide_eq_true hg2
        refine Rs rfl rfl rfl rfl rfl ?_
        refine Rs rfl rfl rfl rfl rfl ?_
        refine Rs rfl rfl rfl rfl rfl ?_
        refine Rv rfl rfl rfl (U_pick_t rfl rfl) rfl rfl ?_
        refine Rv rfl rfl rfl (U_move rfl) rfl rfl ?_
        refine Rs rfl rfl rfl rfl rfl ?_
        refine Rs rfl rfl rfl rfl rfl ?_
        refine Rs rfl rfl rfl rfl rfl ?_
        refine Rv rfl rfl rfl (U_pick_t rfl rfl) rfl rfl ?_
        refine Re rfl ?_
        exact joinTo id ⟨eD rfl rfl, eD rfl rfl, trivial⟩ trivial rfl rfl rfl rfl (fun _ _ => rfl)
      · rw [hg2]
        have hg2' : ¬ (48 < s.h) := of_decide_eq_false hg2
        refine Rv rfl rfl rfl (U_fieldAddrR rfl) rfl rfl ?_
        refine Rv rfl rfl rfl (U_load1 rfl rfl rfl) rfl rfl ?_
        refine Rv rfl rfl rfl (U_lss rfl rfl) rfl rfl ?_
        refine Rv rfl rfl rfl (U_pick_f rfl rfl) rfl rfl ?_
        refine Rv rfl rfl rfl (U_move rfl) rfl rfl ?_
        refine Rsplit (t := 19) rfl (fun hg3 => ?_) (fun hg3 => ?_)
        · rw [hg3]
          have hg3' : s.z < 1 := of_decide_eq_true hg3
          refine Rs rfl rfl rfl rfl rfl ?_
          refine Rs rfl rfl rfl rfl rfl ?_
          refine Rs rfl rfl rfl rfl rfl ?_
          refine Rv rfl rfl rfl (U_pick_t rfl rfl) rfl rfl ?_
          refine Re rfl ?_
          exact joinTo id ⟨eD rfl rfl, eD rfl rfl, trivial⟩ trivial rfl rfl rfl rfl (fun _ _ => rfl)
        · rw [hg3]
          have hg3' : ¬ (s.z < 1) := of_decide_eq_false hg3
          refine Rv rfl rfl rfl (U_fieldAddrR rfl) rfl rfl ?_
          refine Rv rfl rfl rfl (U_load1 rfl rfl rfl) rfl rfl ?_
          refine Rv rfl rfl rfl (U_gtr rfl rfl) rfl rfl ?_
          refine Rv rfl rfl rfl (U_pick_f rfl rfl) rfl rfl ?_
          refine Re rfl ?_
          exact joinTo id ⟨eD rfl rfl, eD rfl rfl, trivial⟩ trivial rfl rfl rfl rfl (fun _ _ => rfl)
  refine thenQ_n ?_
  refine Wcond rfl rfl (fun hc0 => ?_) (fun hc0 => ?_)
  · have hce : chkS s = 3 := by rw [chkS, if_pos (by rw [inL1, inL1]; simp at hc0 ⊢; omega)]
    refine W_seq rfl ?_
    refine W_reg rfl ?_
    refine Rv rfl rfl rfl (U_assign rfl) rfl rfl ?_
    refine Re rfl ?_
    refine thenQ_n ?_
    refine W_ret rfl ?_
    refine thenQ_r ?_
    exact retL (rlT rfl rl0) (by first | rfl | (simp only [packA]; rw [hce]; first | done | rfl)) rfl
  · have hc0' := Bool.eq_false_iff.1 hc0
    have hr : (1 ≤ s.h ∧ s.h ≤ 48) ∧ 1 ≤ s.z ∧ s.z ≤ 24 := by simp at hc0; omega
    obtain ⟨hh, hz⟩ := hr
    refine W_skip rfl ?_
    refine thenQ_n ?_
    refine W_seq rfl ?_
    refine W_seq rfl ?_
    refine W_reg rfl ?_
    refine Rv rfl rfl rfl (U_fieldAddrR rfl) rfl rfl ?_
    refine Rv rfl rfl rfl (U_load1 rfl rfl rfl) rfl rfl ?_
    refine Rv rfl rfl rfl (U_lenOf rfl len_ros) rfl rfl ?_
    refine Rv rfl rfl rfl (U_gtr rfl rfl) rfl rfl ?_
    refine Re rfl ?_
    refine thenQ_n ?_
    refine WcondP rfl rfl (fun hc1 => ?_) (fun hc1 => ?_)
    · have hce : chkS s = 6 := by rw [chkS, if_neg (by rw [inL1, inL1]; simp; omega), if_pos (by simp; omega)]
      refine W_seq rfl ?_
      refine W_reg rfl ?_
      refine Rv rfl rfl rfl (U_assign rfl) rfl rfl ?_
      refine Re rfl ?_
      refine thenQ_n ?_
      refine W_ret rfl ?_
      refine thenQ_r ?_
      exact retL (rlT rfl rl0) (by first | rfl | (simp only [packA]; rw [hce]; first | done | rfl)) rfl
    · refine W_skip rfl ?_
      refine thenQ_n ?_
      refine W_seq rfl ?_
      refine W_seq rfl ?_
      refine W_reg rfl ?_
      refine Rv rfl rfl rfl (U_assign rfl) rfl rfl ?_
      refine Re rfl ?_
      refine thenQ_n ?_
      refine W_block rfl ?_
      refine LoopTo (T' := [(1, .rop [i64 s.h, i64 s.z, .ros (s.ls.map boxesL) s.ls.length c] 0), (3, i64 ((0 : Nat) : Int))]) (H' := []) (n := 0) rfl (fun mz_ qz_ => ∃ (k : Nat), k ≤ s.ls.length ∧ (∀ j (hj : j < s.ls.length), j < k → decide ((600 : Int) < ((s.ls[j].length : Nat) : Int)) = false) ∧ mz_ = s.ls.length - k ∧ qz_ = ⟨[(1, .rop [i64 s.h, i64 s.z, .ros (s.ls.map boxesL) s.ls.length c] 0), (3, i64 ((k : Nat) : Int))], [], 0, []⟩) ⟨0, (by omega), (fun j hj h => absurd h (Nat.not_lt_zero _)), rfl, rfl⟩ id ⟨eD rfl rfl, eD rfl rfl, trivial⟩ trivial rfl rfl rfl rfl (fun _ _ => rfl) ?_
      rintro _ _ ⟨k, hi0_0, hi0_1, rfl, rfl⟩
      refine W_seq rfl ?_
      refine W_seq rfl ?_
      refine W_reg rfl ?_
      refine Rv rfl rfl rfl (U_move rfl) rfl rfl ?_
      refine Rv rfl rfl rfl (U_fieldAddrR rfl) rfl rfl ?_
      refine Rv rfl rfl rfl (U_load1 rfl rfl rfl) rfl rfl ?_
      refine Rv rfl rfl rfl (U_lenOf rfl len_ros) rfl rfl ?_
      refine Rv rfl rfl rfl (U_lss rfl rfl) rfl rfl ?_
      refine Re rfl ?_
      refine thenQ_n ?_
      refine WcondP rfl rfl (fun hc2 => ?_) (fun hc2 => ?_)
      · have hck : k < s.ls.length := by omega
        refine W_skip rfl ?_
        refine thenQ_n ?_
        refine W_seq rfl ?_
        refine W_block rfl ?_
        refine W_seq rfl ?_
        refine W_reg rfl ?_
        refine Rv rfl rfl rfl (U_fieldAddrR rfl) rfl rfl ?_
        refine Rv rfl rfl rfl (U_load1 rfl rfl rfl) rfl rfl ?_
        refine Rv rfl rfl rfl (U_move rfl) rfl rfl ?_
        have hx4 : k < s.ls.length := by omega
        refine Rv rfl rfl rfl (U_indexR (j := k) rfl rfl rfl hx4) rfl rfl ?_
        refine Rv rfl rfl rfl (U_load1 rfl rfl (getM hx4)) rfl rfl ?_
        refine Rv rfl rfl rfl (U_lenOf rfl len_ros) rfl rfl ?_
        refine Rv rfl rfl rfl (U_gtr rfl rfl) rfl rfl ?_
        refine Re rfl ?_
        refine thenQ_n ?_
        refine WcondP rfl rfl (fun hc3 => ?_) (fun hc3 => ?_)
        · have h600 : (s.ls.any fun l => decide ((600 : Int) < ((l.length : Nat) : Int))) = true := any_true hck (by simpa using hc3)
          have hce : chkS s = 6 := by rw [chkS, if_neg (by rw [inL1, inL1]; simp; omega), if_pos (by rw [h600]; simp)]
          refine W_seq rfl ?_
          refine W_reg rfl ?_
          refine Rv rfl rfl rfl (U_assign rfl) rfl rfl ?_
          refine Re rfl ?_
          refine thenQ_n ?_
          refine W_ret rfl ?_
          refine blkQ_r ?_
          refine thenQ_r ?_
          refine thenQ_r ?_
          refine blkQ_r ?_
          refine thenQ_r ?_
          exact retL (rlT rfl rl0) (by first | rfl | (simp only [packA]; rw [hce]; first | done | rfl)) rfl
        · refine W_skip rfl ?_
          refine blkQ_n ?_
          refine thenQ_n ?_
          refine W_reg rfl ?_
          refine Rv rfl rfl rfl (U_move rfl) rfl rfl ?_
          refine Rv rfl rfl rfl (U_add rfl rfl (w64e (m := ((k + 1 : Nat) : Int)) (by omega) (by omega) (by omega))) rfl rfl ?_
          refine Rv rfl rfl rfl (U_assign rfl) rfl rfl ?_
          refine Re rfl ?_
          refine thenQ_n ?_
          exact againTo (T' := [(1, .rop [i64 s.h, i64 s.z, .ros (s.ls.map boxesL) s.ls.length c] 0), (3, i64 (((k + 1) : Nat) : Int))]) (H' := []) (n := 0) (s.ls.length - (k + 1)) ⟨k + 1, (by omega), (bef_succ (p := fun l : List Bx => decide ((600 : Int) < ((l.length : Nat) : Int))) hi0_1 hck (by simp; omega)), rfl, rfl⟩ (by omega) id ⟨eD rfl rfl, eD rfl rfl, trivial⟩ trivial rfl rfl rfl rfl (fun _ _ => rfl)
      · have h600 : (s.ls.any fun l => decide ((600 : Int) < ((l.length : Nat) : Int))) = false := any_f fun j hj => hi0_1 j hj (by omega)
        refine W_exit rfl ?_
        refine thenQ_x ?_
        refine thenQ_x ?_
        refine blkQ_x rfl ?_
        refine thenQ_n ?_
        refine W_seq rfl ?_
        refine W_seq rfl ?_
        refine W_reg rfl ?_
        refine Rv rfl rfl rfl (U_assign rfl) rfl rfl ?_
        refine Re rfl ?_
        refine thenQ_n ?_
        refine W_block rfl ?_
        refine LoopTo (T' := [(1, .rop [i64 s.h, i64 s.z, .ros (s.ls.map boxesL) s.ls.length c] 0), (4, i64 ((0 : Nat) : Int))]) (H' := []) (n := 0) rfl (fun mz_ qz_ => ∃ (m : Nat), m ≤ s.ls.length ∧ (∀ j (hj : j < s.ls.length), j < m → (s.ls[j].any fun b => !isB b s.h s.z) = false) ∧ mz_ = s.ls.length - m ∧ qz_ = ⟨[(1, .rop [i64 s.h, i64 s.z, .ros (s.ls.map boxesL) s.ls.length c] 0), (4, i64 ((m : Nat) : Int))], [], 0, []⟩) ⟨0, (by omega), (fun j hj h => absurd h (Nat.not_lt_zero _)), rfl, rfl⟩ id ⟨eD rfl rfl, eD rfl rfl, trivial⟩ trivial rfl rfl rfl rfl (fun _ _ => rfl) ?_
        rintro _ _ ⟨m, hi1_0, hi1_1, rfl, rfl⟩
        refine W_seq rfl ?_
        refine W_seq rfl ?_
        refine W_reg rfl ?_
        refine Rv rfl rfl rfl (U_move rfl) rfl rfl ?_
        refine Rv rfl rfl rfl (U_fieldAddrR rfl) rfl rfl ?_
        refine Rv rfl rfl rfl (U_load1 rfl rfl rfl) rfl rfl ?_
        refine Rv rfl rfl rfl (U_lenOf rfl len_ros) rfl rfl ?_
        refine Rv rfl rfl rfl (U_lss rfl rfl) rfl rfl ?_
        refine Re rfl ?_
        refine thenQ_n ?_
        refine WcondP rfl rfl (fun hc4 => ?_) (fun hc4 => ?_)
        · have hcm : m < s.ls.length := by omega
          have hbm := hbl _ (List.getElem_mem hcm)
          refine W_skip rfl ?_
          refine thenQ_n ?_
          refine W_seq rfl ?_
          refine W_block rfl ?_
          refine W_seq rfl ?_
          refine W_reg rfl ?_
          refine Rv rfl rfl rfl (U_assign rfl) rfl rfl ?_
          refine Re rfl ?_
          refine thenQ_n ?_
          refine W_block rfl ?_
          refine LoopTo (T' := [(1, .rop [i64 s.h, i64 s.z, .ros (s.ls.map boxesL) s.ls.length c] 0), (4, i64 ((m : Nat) : Int)), (5, i64 ((0 : Nat) : Int))]) (H' := []) (n := 0) rfl (fun mz_ qz_ => ∃ (i : Nat), i ≤ s.ls[m].length ∧ (∀ j (hj : j < s.ls[m].length), j < i → (!isB s.ls[m][j] s.h s.z) = false) ∧ mz_ = s.ls[m].length - i ∧ qz_ = ⟨[(1, .rop [i64 s.h, i64 s.z, .ros (s.ls.map boxesL) s.ls.length c] 0), (4, i64 ((m : Nat) : Int)), (5, i64 ((i : Nat) : Int))], [], 0, []⟩) ⟨0, (by omega), (fun j hj h => absurd h (Nat.not_lt_zero _)), rfl, rfl⟩ id ⟨eD rfl rfl, eD rfl rfl, eD rfl rfl, trivial⟩ trivial rfl rfl rfl rfl (fun _ _ => rfl) ?_
          rintro _ _ ⟨i, hi2_0, hi2_1, rfl, rfl⟩
          refine W_seq rfl ?_
          refine W_seq rfl ?_
          refine W_reg rfl ?_
          refine Rv rfl rfl rfl (U_move rfl) rfl rfl ?_
          refine Rv rfl rfl rfl (U_fieldAddrR rfl) rfl rfl ?_
          refine Rv rfl rfl rfl (U_load1 rfl rfl rfl) rfl rfl ?_
          refine Rv rfl rfl rfl (U_move rfl) rfl rfl ?_
          have hx5 : m < s.ls.length := by omega
          refine Rv rfl rfl rfl (U_indexR (j := m) rfl rfl rfl hx5) rfl rfl ?_
          refine Rv rfl rfl rfl (U_load1 rfl rfl (getM hx5)) rfl rfl ?_
          refine Rv rfl rfl rfl (U_lenOf rfl len_ros) rfl rfl ?_
          refine Rv rfl rfl rfl (U_lss rfl rfl) rfl rfl ?_
          refine Re rfl ?_
          refine thenQ_n ?_
          refine WcondP rfl rfl (fun hc5 => ?_) (fun hc5 => ?_)
          · have hci : i < s.ls[m].length := by omega
            refine W_skip rfl ?_
            refine thenQ_n ?_
            refine W_seq rfl ?_
            refine W_block rfl ?_
            refine W_seq rfl ?_
            refine Wdraw rfl (by kernel_rfl) (by kernel_rfl) ?_
            refine Dv rfl rfl rfl (U_fieldAddrR rfl) rfl rfl ?_
            refine Dv rfl rfl rfl (U_load1 rfl rfl rfl) rfl rfl ?_
            refine Dv rfl rfl rfl (U_move rfl) rfl rfl ?_
            refine Dv rfl rfl rfl (U_indexR (j := m) rfl rfl rfl hx5) rfl rfl ?_
            refine Dv rfl rfl rfl (U_load1 rfl rfl (getM hx5)) rfl rfl ?_
            refine Dv rfl rfl rfl (U_move rfl) rfl rfl ?_
            have hx6 : i < s.ls[m].length := by omega
            refine Dv rfl rfl rfl (U_indexR (j := i) rfl rfl rfl hx6) rfl rfl ?_
            refine Dv rfl rfl rfl (U_load4 rfl rfl (bxG0 hx6) (bxG1 hx6) (bxG2 hx6) (bxG3 hx6)) rfl rfl ?_
            refine Dv rfl rfl rfl (U_fieldAddrR rfl) rfl rfl ?_
            refine Dv rfl rfl rfl (U_load1 rfl rfl rfl) rfl rfl ?_
            refine Dv rfl rfl rfl (U_fieldAddrR rfl) rfl rfl ?_
            refine Dv rfl rfl rfl (U_load1 rfl rfl rfl) rfl rfl ?_
            refine Dv rfl rfl rfl (U_call rfl rfl (isBR_p (s.ls[m][i]) s.h s.z (by assumption) (by assumption)) rfl) rfl rfl ?_
            refine Dv rfl rfl rfl (U_not rfl) rfl rfl ?_
            refine Dr.nil rfl ?_
            refine thenQ_n ?_
            refine Wcond rfl rfl (fun hc6 => ?_) (fun hc6 => ?_)
            · have hst : (s.ls.any fun l => l.any fun b => !isB b s.h s.z) = true := any_true hcm (any_true hci (by simpa using hc6))
              have hce : chkS s = 2 := by rw [chkS, if_neg (by rw [inL1, inL1]; simp; omega), if_neg (by rw [h600]; simp; omega), if_pos hst]
              refine W_seq rfl ?_
              refine W_reg rfl ?_
              refine Rv rfl rfl rfl (U_assign rfl) rfl rfl ?_
              refine Re rfl ?_
              refine thenQ_n ?_
              refine W_ret rfl ?_
              refine blkQ_r ?_
              refine thenQ_r ?_
              refine thenQ_r ?_
              refine blkQ_r ?_
              refine blkQ_r ?_
              refine thenQ_r ?_
              refine thenQ_r ?_
              refine blkQ_r ?_
              refine thenQ_r ?_
              exact retL (rlT rfl rl0) (by first | rfl | (simp only [packA]; rw [hce]; first | done | rfl)) rfl
            · have hc6' := Bool.eq_false_iff.1 hc6
              refine W_skip rfl ?_
              refine blkQ_n ?_
              refine thenQ_n ?_
              refine W_reg rfl ?_
              refine Rv rfl rfl rfl (U_move rfl) rfl rfl ?_
              refine Rv rfl rfl rfl (U_add rfl rfl (w64e (m := ((i + 1 : Nat) : Int)) (by omega) (by omega) (by omega))) rfl rfl ?_
              refine Rv rfl rfl rfl (U_assign rfl) rfl rfl ?_
              refine Re rfl ?_
              refine thenQ_n ?_
              exact againTo (T' := [(1, .rop [i64 s.h, i64 s.z, .ros (s.ls.map boxesL) s.ls.length c] 0), (4, i64 ((m : Nat) : Int)), (5, i64 (((i + 1) : Nat) : Int))]) (H' := []) (n := 0) (s.ls[m].length - (i + 1)) ⟨i + 1, (by omega), (bef_succ (p := fun b : Bx => !isB b s.h s.z) hi2_1 hci (by simpa using hc6)), rfl, rfl⟩ (by omega) id ⟨eD rfl rfl, eD rfl rfl, eD rfl rfl, trivial⟩ trivial rfl rfl rfl rfl (fun _ _ => rfl)
          · have hla : (s.ls[m].any fun b => !isB b s.h s.z) = false := any_f fun j hj => hi2_1 j hj (by omega)
            refine W_exit rfl ?_
            refine thenQ_x ?_
            refine thenQ_x ?_
            refine blkQ_x rfl ?_
            refine blkQ_n ?_
            refine thenQ_n ?_
            refine W_reg rfl ?_
            refine Rv rfl rfl rfl (U_move rfl) rfl rfl ?_
            refine Rv rfl rfl rfl (U_add rfl rfl (w64e (m := ((m + 1 : Nat) : Int)) (by omega) (by omega) (by omega))) rfl rfl ?_
            refine Rv rfl rfl rfl (U_assign rfl) rfl rfl ?_
            refine Re rfl ?_
            refine thenQ_n ?_
            exact againTo (T' := [(1, .rop [i64 s.h, i64 s.z, .ros (s.ls.map boxesL) s.ls.length c] 0), (4, i64 (((m + 1) : Nat) : Int))]) (H' := []) (n := 0) (s.ls.length - (m + 1)) ⟨m + 1, (by omega), (bef_succ (p := fun l : List Bx => l.any fun b => !isB b s.h s.z) hi1_1 hcm hla), rfl, rfl⟩ (by omega) id ⟨eD rfl rfl, eD rfl rfl, trivial⟩ trivial rfl rfl rfl rfl (fun _ _ => rfl)
        · have hst : (s.ls.any fun l => l.any fun b => !isB b s.h s.z) = false := any_f fun j hj => hi1_1 j hj (by omega)
          have hce : chkS s = 0 := by rw [chkS, if_neg (by rw [inL1, inL1]; simp; omega), if_neg (by rw [h600]; simp; omega), if_neg (by rw [hst]; simp)]
          refine W_exit rfl ?_
          refine thenQ_x ?_
          refine thenQ_x ?_
          refine blkQ_x rfl ?_
          refine thenQ_n ?_
          refine W_seq rfl ?_
          refine W_reg rfl ?_
          refine Rv rfl rfl rfl (U_assign rfl) rfl rfl ?_
          refine Re rfl ?_
          refine thenQ_n ?_
          refine W_ret rfl ?_
          exact retL (rlT rfl rl0) (by first | rfl | (simp only [packA]; rw [hce]; first | done | rfl)) rfl
end Go.Proofs.Ythlolelbmhfdbaa
end

section
namespace Go.Proofs.Ythlolelbmhfdbaa
set_option maxRecDepth 20000
open Go.AE
theorem isPlace_p (H Z : Nat) (ls : List (List Bx)) (c : Option Nat) (h z : Int) : Pure Try.prog 49 [.agg [i64 (H : Nat), i64 (Z : Nat), landsA ls c], i64 h, i64 z] (.bool (decide (0 ≤ h ∧ h < (H : Int) ∧ 0 ≤ z ∧ z < (Z : Int)))) := by
  refine pure_of_body Try.func49 (c := body Try.f49) rfl (by simp [Try.ntmps49]) fun w0 Φ0 => ?_
  refine W_seq rfl ?_
  refine W_reg rfl ?_
  refine Rv rfl rfl rfl (U_boxF rfl rfl rfl) rfl rfl ?_
  refine Rv rfl rfl rfl (U_assign rfl) rfl rfl ?_
  refine Re rfl ?_
  refine thenQ_n ?_
  refine W_seq rfl ?_
  refine Wjoin ⟨[(6, .bool ((decide (0 ≤ h)) && ((decide (h < ((H : Nat) : Int))) && ((decide (0 ≤ z)) && (decide (z < ((Z : Nat) : Int)))))))], [], 0, []⟩ ?_ ?_
  · refine W_reg rfl ?_
    refine Rv rfl rfl rfl (U_move rfl) rfl rfl ?_
    refine Rv rfl rfl rfl (U_geq rfl rfl) rfl rfl ?_
    refine Rv rfl rfl rfl (U_move rfl) rfl rfl ?_
    refine Rsplit (t := 9) rfl (fun hg1 => ?_) (fun hg1 => ?_)
    · rw [hg1]
      have hg1' : 0 ≤ h := of_decide_eq_true hg1
      refine Rv rfl rfl rfl (U_move rfl) rfl rfl ?_
      refine Rv rfl rfl rfl (U_fieldAddrR rfl) rfl rfl ?_
      refine Rv rfl rfl rfl (U_load1 rfl rfl rfl) rfl rfl ?_
      refine Rv rfl rfl rfl (U_lss rfl rfl) rfl rfl ?_
      refine Rv rfl rfl rfl (U_pick_t rfl rfl) rfl rfl ?_
      refine Rv rfl rfl rfl (U_move rfl) rfl rfl ?_
      refine Rsplit (t := 15) rfl (fun hg2 => ?_) (fun hg2 => ?_)
      · rw [hg2]
        have hg2' : h < ((H : Nat) : Int) := of_decide_eq_true hg2
        refine Rv rfl rfl rfl (U_move rfl) rfl rfl ?_
        refine Rv rfl rfl rfl (U_geq rfl rfl) rfl rfl ?_
        refine Rv rfl rfl rfl (U_pick_t rfl rfl) rfl rfl ?_
        refine Rv rfl rfl rfl (U_move rfl) rfl rfl ?_
        refine Rsplit (t := 19) rfl (fun hg3 => ?_) (fun hg3 => ?_)
        · rw [hg3]
          have hg3' : 0 ≤ z := of_decide_eq_true hg3
          refine Rv rfl rfl rfl (U_move rfl) rfl rfl ?_
          refine Rv rfl rfl rfl (U_fieldAddrR rfl) rfl rfl ?_
          refine Rv rfl rfl rfl (U_load1 rfl rfl rfl) rfl rfl ?_
          refine Rv rfl rfl rfl (U_lss rfl rfl) rfl rfl ?_
          refine Rv rfl rfl rfl (U_pick_t rfl rfl) rfl rfl ?_
          refine Rv rfl rfl rfl (U_assign rfl) rfl rfl ?_
          refine Re rfl ?_
          exact joinTo id ⟨eD rfl rfl, trivial⟩ trivial rfl rfl rfl rfl (fun _ _ => rfl)
        · rw [hg3]
          have hg3' : ¬ (0 ≤ z) := of_decide_eq_false hg3
          refine Rs rfl rfl rfl rfl rfl ?_
          refine Rs rfl rfl rfl rfl rfl ?_
          refine Rs rfl rfl rfl rfl rfl ?_
          refine Rs rfl rfl rfl rfl rfl ?_
          refine Rv rfl rfl rfl (U_pick_f rfl rfl) rfl rfl ?_
          refine Rv rfl rfl rfl (U_assign rfl) rfl rfl ?_
          refine Re rfl ?_
          exact joinTo id ⟨eD rfl rfl, trivial⟩ trivial rfl rfl rfl rfl (fun _ _ => rfl)
      · rw [hg2]
        have hg2' : ¬ (h < ((H : Nat) : Int)) := of_decide_eq_false hg2
        refine Rs rfl rfl rfl rfl rfl ?_
        refine Rs rfl rfl rfl rfl rfl ?_
        refine Rv rfl rfl rfl (U_pick_f rfl rfl) rfl rfl ?_
        refine Rv rfl rfl rfl (U_move rfl) rfl rfl ?_
        refine Rs rfl rfl rfl rfl rfl ?_
        refine Rs rfl rfl rfl rfl rfl ?_
        refine Rs rfl rfl rfl rfl rfl ?_
        refine Rs rfl rfl rfl rfl rfl ?_
        refine Rv rfl rfl rfl (U_pick_f rfl rfl) rfl rfl ?_
        refine Rv rfl rfl rfl (U_assign rfl) rfl rfl ?_
        refine Re rfl ?_
        exact joinTo id ⟨eD rfl rfl, trivial⟩ trivial rfl rfl rfl rfl (fun _ _ => rfl)
    · rw [hg1]
      have hg1' : ¬ (0 ≤ h) := of_decide_eq_false hg1
      refine Rs rfl rfl rfl rfl rfl ?_
      refine Rs rfl rfl rfl rfl rfl ?_
      refine Rs rfl rfl rfl rfl rfl ?_
      refine Rs rfl rfl rfl rfl rfl ?_
      refine Rv rfl rfl rfl (U_pick_f rfl rfl) rfl rfl ?_
      refine Rv rfl rfl rfl (U_move rfl) rfl rfl ?_
      refine Rs rfl rfl rfl rfl rfl ?_
      refine Rs rfl rfl rfl rfl rfl ?_
      refine Rv rfl rfl rfl (U_pick_f rfl rfl) rfl rfl ?_
      refine Rv rfl rfl rfl (U_move rfl) rfl rfl ?_
      refine Rs rfl rfl rfl rfl rfl ?_
      refine Rs rfl rfl rfl rfl rfl ?_
      refine Rs rfl rfl rfl rfl rfl ?_
      refine Rs rfl rfl rfl rfl rfl ?_
      refine Rv rfl rfl rfl (U_pick_f rfl rfl) rfl rfl ?_
      refine Rv rfl rfl rfl (U_assign rfl) rfl rfl ?_
      refine Re rfl ?_
      exact joinTo id ⟨eD rfl rfl, trivial⟩ trivial rfl rfl rfl rfl (fun _ _ => rfl)
  refine thenQ_n ?_
  refine W_ret rfl ?_
  exact retL (rlT rfl rl0) (by first | rfl | (simp only [packA]; congr 1; rw [Bool.eq_iff_iff]; simp <;> omega; first | done | rfl)) rfl
end Go.Proofs.Ythlolelbmhfdbaa
end

section
namespace Go.Proofs.Ythlolelbmhfdbaa
set_option maxRecDepth 20000
open Go.AE
def mostQ (ls : List (List Bx)) : Int := ls.foldl (fun m l => max m (l.length : Int)) 0
theorem mostQ_take {ls : List (List Bx)} {i : Nat} (hi : i < ls.length) : mostQ (ls.take (i + 1)) = max (mostQ (ls.take i)) (ls[i].length : Int) := by
  unfold mostQ; rw [List.take_succ_eq_append_getElem hi, List.foldl_append]; rfl
theorem mostF_ge {ls : List (List Bx)} : ∀ {m : Int}, m ≤ ls.foldl (fun m l => max m (l.length : Int)) m := by
  induction ls with
  | nil => intro m; exact Int.le_refl m
  | cons a l ih => intro m; exact Int.le_trans (Int.le_max_left m _) ih
theorem mostF_mem {ls : List (List Bx)} : ∀ {m : Int} {l : List Bx}, l ∈ ls → (l.length : Int) ≤ ls.foldl (fun m l => max m (l.length : Int)) m := by
  induction ls with
  | nil => intro m l h; cases h
  | cons a r ih =>
    intro m l h
    cases h with
    | head => exact Int.le_trans (Int.le_max_right m _) mostF_ge
    | tail _ h => exact ih h
theorem mostQ_mem {ls : List (List Bx)} {l : List Bx} (h : l ∈ ls) : (l.length : Int) ≤ mostQ ls := mostF_mem h
def grt (s : Sk) : Bool := decide (14 < s.ls.length) || (decide (610 < mostQ s.ls) || (decide (chkS s = 0) && (decide (120 < s.h * s.z) || decide (30 < mostQ s.ls))))
theorem chkS_hz {s : Sk} (h : chkS s = 0) : 1 ≤ s.h ∧ s.h ≤ 48 ∧ 1 ≤ s.z ∧ s.z ≤ 24 ∧ 1 ≤ s.h * s.z ∧ s.h * s.z ≤ 1152 := by
  obtain ⟨H, Z, e1, e2, hH, hZ, _⟩ := vs_of h
  have := Int.mul_le_mul (show s.h ≤ 48 by omega) (show s.z ≤ 24 by omega) (by omega) (by omega)
  have := Int.mul_pos (show 0 < s.h by omega) (show 0 < s.z by omega)
  omega
theorem grt_ls {s : Sk} (h : grt s = false) : s.ls.length ≤ 1000000 := by
  simp [grt] at h; omega
theorem grt_bl {s : Sk} (h : grt s = false) : ∀ l ∈ s.ls, l.length ≤ 1000000 := by
  intro l hl; have := mostQ_mem hl; simp [grt] at h; omega
theorem bl_most {ls : List (List Bx)} (h : mostQ ls ≤ 610) : ∀ l ∈ ls, l.length ≤ 1000000 := by
  intro l hl; have := mostQ_mem hl; omega
theorem great_p (s : Sk) (c : Option Nat) : Pure Try.prog 16 [.agg [i64 s.h, i64 s.z, landsA s.ls c]] (.bool (grt s)) := by
  refine pure_of_body Try.func16 (c := body Try.f16) rfl (by simp [Try.ntmps16]) fun w0 Φ0 => ?_
  refine W_seq rfl ?_
  refine W_reg rfl ?_
  refine Rv rfl rfl rfl (U_boxF rfl rfl rfl) rfl rfl ?_
  refine Rv rfl rfl rfl (U_assign rfl) rfl rfl ?_
  refine Re rfl ?_
  refine thenQ_n ?_
  refine W_seq rfl ?_
  refine W_seq rfl ?_
  refine W_reg rfl ?_
  refine Rv rfl rfl rfl (U_fieldAddrR rfl) rfl rfl ?_
  refine Rv rfl rfl rfl (U_load1 rfl rfl rfl) rfl rfl ?_
  refine Rv rfl rfl rfl (U_lenOf rfl len_ros) rfl rfl ?_
  refine Rv rfl rfl rfl (U_gtr rfl rfl) rfl rfl ?_
  refine Re rfl ?_
  refine thenQ_n ?_
  refine WcondP rfl rfl (fun hc0 => ?_) (fun hc0 => ?_)
  · refine W_seq rfl ?_
    refine W_reg rfl ?_
    refine Rv rfl rfl rfl (U_assign rfl) rfl rfl ?_
    refine Re rfl ?_
    refine thenQ_n ?_
    refine W_ret rfl ?_
    refine thenQ_r ?_
    exact retL (rlT rfl rl0) (by first | rfl | (exact congrArg AV.bool (by unfold grt; first | (rw [show decide (14 < s.ls.length) = true from decide_eq_true (by omega)]; rfl) | (rw [show decide (14 < s.ls.length) = false from decide_eq_false (by omega), hmq, Bool.false_or])); done)) rfl
  · refine W_skip rfl ?_
    refine thenQ_n ?_
    refine W_seq rfl ?_
    refine W_reg rfl ?_
    refine Rv rfl rfl rfl (U_assign rfl) rfl rfl ?_
    refine Re rfl ?_
    refine thenQ_n ?_
    refine W_seq rfl ?_
    refine W_seq rfl ?_
    refine W_reg rfl ?_
    refine Rv rfl rfl rfl (U_assign rfl) rfl rfl ?_
    refine Re rfl ?_
    refine thenQ_n ?_
    refine W_block rfl ?_
    refine LoopTo (T' := [(1, .rop [i64 s.h, i64 s.z, .ros (s.ls.map boxesL) s.ls.length c] 0), (3, i64 0), (4, i64 ((0 : Nat) : Int))]) (H' := []) (n := 0) rfl (fun mz_ qz_ => ∃ (i : Nat) (m : Int), i ≤ s.ls.length ∧ m = mostQ (s.ls.take i) ∧ mz_ = s.ls.length - i ∧ qz_ = ⟨[(1, .rop [i64 s.h, i64 s.z, .ros (s.ls.map boxesL) s.ls.length c] 0), (3, i64 m), (4, i64 ((i : Nat) : Int))], [], 0, []⟩) ⟨0, 0, (by omega), rfl, rfl, rfl⟩ id ⟨eD rfl rfl, eD rfl rfl, eD rfl rfl, trivial⟩ trivial rfl rfl rfl rfl (fun _ _ => rfl) ?_
    rintro _ _ ⟨i, m, hi0_0, hi0_1, rfl, rfl⟩
    refine W_seq rfl ?_
    refine W_seq rfl ?_
    refine W_reg rfl ?_
    refine Rv rfl rfl rfl (U_move rfl) rfl rfl ?_
    refine Rv rfl rfl rfl (U_fieldAddrR rfl) rfl rfl ?_
    refine Rv rfl rfl rfl (U_load1 rfl rfl rfl) rfl rfl ?_
    refine Rv rfl rfl rfl (U_lenOf rfl len_ros) rfl rfl ?_
    refine Rv rfl rfl rfl (U_lss rfl rfl) rfl rfl ?_
    refine Re rfl ?_
    refine thenQ_n ?_
    refine WcondP rfl rfl (fun hc1 => ?_) (fun hc1 => ?_)
    · refine W_skip rfl ?_
      refine thenQ_n ?_
      refine W_seq rfl ?_
      refine W_block rfl ?_
      refine W_reg rfl ?_
      refine Rv rfl rfl rfl (U_move rfl) rfl rfl ?_
      refine Rv rfl rfl rfl (U_fieldAddrR rfl) rfl rfl ?_
      refine Rv rfl rfl rfl (U_load1 rfl rfl rfl) rfl rfl ?_
      refine Rv rfl rfl rfl (U_move rfl) rfl rfl ?_
      have hx1 : i < s.ls.length := by omega
      refine Rv rfl rfl rfl (U_indexR (j := i) rfl rfl rfl hx1) rfl rfl ?_
      refine Rv rfl rfl rfl (U_load1 rfl rfl (getM hx1)) rfl rfl ?_
      refine Rv rfl rfl rfl (U_lenOf rfl len_ros) rfl rfl ?_
      refine Rv rfl rfl rfl (U_max rfl rfl rfl) rfl rfl ?_
      refine Rv rfl rfl rfl (U_assign rfl) rfl rfl ?_
      refine Re rfl ?_
      refine blkQ_n ?_
      refine thenQ_n ?_
      refine W_reg rfl ?_
      refine Rv rfl rfl rfl (U_move rfl) rfl rfl ?_
      refine Rv rfl rfl rfl (U_add rfl rfl (w64e (m := ((i + 1 : Nat) : Int)) (by omega) (by omega) (by omega))) rfl rfl ?_
      refine Rv rfl rfl rfl (U_assign rfl) rfl rfl ?_
      refine Re rfl ?_
      refine thenQ_n ?_
      exact againTo (T' := [(1, .rop [i64 s.h, i64 s.z, .ros (s.ls.map boxesL) s.ls.length c] 0), (3, i64 (max m ((s.ls[i].length : Nat) : Int))), (4, i64 (((i + 1) : Nat) : Int))]) (H' := []) (n := 0) (s.ls.length - (i + 1)) ⟨i + 1, max m ((s.ls[i].length : Nat) : Int), (by omega), (by rw [mostQ_take (by omega), ← hi0_1]), rfl, rfl⟩ (by omega) id ⟨eD rfl rfl, eD rfl rfl, eD rfl rfl, trivial⟩ trivial rfl rfl rfl rfl (fun _ _ => rfl)
    · have hmq : m = mostQ s.ls := by rw [hi0_1, show i = s.ls.length by omega, List.take_length]
      refine W_exit rfl ?_
      refine thenQ_x ?_
      refine thenQ_x ?_
      refine blkQ_x rfl ?_
      refine thenQ_n ?_
      refine W_seq rfl ?_
      refine Wjoin ⟨[(2, .bool ((decide (610 < m)) || ((decide ((chkS s) = 0)) && ((decide (120 < (s.h * s.z))) || (decide (30 < m))))))], [], 0, []⟩ ?_ ?_
      · refine W_reg rfl ?_
        refine Rv rfl rfl rfl (U_move rfl) rfl rfl ?_
        refine Rv rfl rfl rfl (U_gtr rfl rfl) rfl rfl ?_
        refine Rv rfl rfl rfl (U_move rfl) rfl rfl ?_
        refine Rsplit (t := 26) rfl (fun hg2 => ?_) (fun hg2 => ?_)
        · rw [hg2]
          have hg2' : 610 < m := of_decide_eq_true hg2
          refine Rs rfl rfl rfl rfl rfl ?_
          refine Rs rfl rfl rfl rfl rfl ?_
          refine Rs rfl rfl rfl rfl rfl ?_
          refine Rs rfl rfl rfl rfl rfl ?_
          refine Rs rfl rfl rfl rfl rfl ?_
          refine Rs rfl rfl rfl rfl rfl ?_
          refine Rs rfl rfl rfl rfl rfl ?_
          refine Rs rfl rfl rfl rfl rfl ?_
          refine Rs rfl rfl rfl rfl rfl ?_
          refine Rs rfl rfl rfl rfl rfl ?_
          refine Rs rfl rfl rfl rfl rfl ?_
          refine Rs rfl rfl rfl rfl rfl ?_
          refine Rs rfl rfl rfl rfl rfl ?_
          refine Rs rfl rfl rfl rfl rfl ?_
          refine Rs rfl rfl rfl rfl rfl ?_
          refine Rv rfl rfl rfl (U_pick_t rfl rfl) rfl rfl ?_
          refine Rv rfl rfl rfl (U_assign rfl) rfl rfl ?_
          refine Re rfl ?_
          exact joinTo id ⟨eD rfl rfl, trivial⟩ trivial rfl rfl rfl rfl (fun _ _ => rfl)
        · rw [hg2]
          have hg2' : ¬ (610 < m) := of_decide_eq_false hg2
          have hbl := bl_most (ls := s.ls) (by omega)
          have hl : s.ls.length ≤ 1000000 := by omega
          refine Rv rfl rfl rfl (U_load3 rfl rfl rfl rfl rfl) rfl rfl ?_
          refine Rv rfl rfl rfl (U_call rfl rfl (chkSR_p s c hl hbl) rfl) rfl rfl ?_
          refine Rv rfl rfl rfl (U_eql rfl rfl) rfl rfl ?_
          refine Rv rfl rfl rfl (U_move rfl) rfl rfl ?_
          refine Rsplit (t := 30) rfl (fun hg3 => ?_) (fun hg3 => ?_)
          · rw [hg3]
            have hg3' : (chkS s) = 0 := of_decide_eq_true hg3
            have hhz := chkS_hz hg3'
            refine Rv rfl rfl rfl (U_fieldAddrR rfl) rfl rfl ?_
            refine Rv rfl rfl rfl (U_load1 rfl rfl rfl) rfl rfl ?_
            refine Rv rfl rfl rfl (U_fieldAddrR rfl) rfl rfl ?_
            refine Rv rfl rfl rfl (U_load1 rfl rfl rfl) rfl rfl ?_
            refine Rv rfl rfl rfl (U_mul rfl rfl (w64 (by omega) (by omega))) rfl rfl ?_
            refine Rv rfl rfl rfl (U_gtr rfl rfl) rfl rfl ?_
            refine Rv rfl rfl rfl (U_move rfl) rfl rfl ?_
            refine Rsplit (t := 37) rfl (fun hg4 => ?_) (fun hg4 => ?_)
            · rw [hg4]
              have hg4' : 120 < (s.h * s.z) := of_decide_eq_true hg4
              refine Rs rfl rfl rfl rfl rfl ?_
              refine Rs rfl rfl rfl rfl rfl ?_
              refine Rv rfl rfl rfl (U_pick_t rfl rfl) rfl rfl ?_
              refine Rv rfl rfl rfl (U_pick_t rfl rfl) rfl rfl ?_
              refine Rv rfl rfl rfl (U_pick_f rfl rfl) rfl rfl ?_
              refine Rv rfl rfl rfl (U_assign rfl) rfl rfl ?_
              refine Re rfl ?_
              exact joinTo id ⟨eD rfl rfl, trivial⟩ trivial rfl rfl rfl rfl (fun _ _ => rfl)
            · rw [hg4]
              have hg4' : ¬ (120 < (s.h * s.z)) := of_decide_eq_false hg4
              refine Rv rfl rfl rfl (U_move rfl) rfl rfl ?_
              refine Rv rfl rfl rfl (U_gtr rfl rfl) rfl rfl ?_
              refine Rv rfl rfl rfl (U_pick_f rfl rfl) rfl rfl ?_
              refine Rv rfl rfl rfl (U_pick_t rfl rfl) rfl rfl ?_
              refine Rv rfl rfl rfl (U_pick_f rfl rfl) rfl rfl ?_
              refine Rv rfl rfl rfl (U_assign rfl) rfl rfl ?_
              refine Re rfl ?_
              exact joinTo id ⟨eD rfl rfl, trivial⟩ trivial rfl rfl rfl rfl (fun _ _ => rfl)
          · rw [hg3]
            have hg3' : ¬ ((chkS s) = 0) := of_decide_eq_false hg3
            refine Rs rfl rfl rfl rfl rfl ?_
            refine Rs rfl rfl rfl rfl rfl ?_
            refine Rs rfl rfl rfl rfl rfl ?_
            refine Rs rfl rfl rfl rfl rfl ?_
            refine Rs rfl rfl rfl rfl rfl ?_
            refine Rs rfl rfl rfl rfl rfl ?_
            refine Rs rfl rfl rfl rfl rfl ?_
            refine Rs rfl rfl rfl rfl rfl ?_
            refine Rs rfl rfl rfl rfl rfl ?_
            refine Rs rfl rfl rfl rfl rfl ?_
            refine Rv rfl rfl rfl (U_pick_f rfl rfl) rfl rfl ?_
            refine Rv rfl rfl rfl (U_pick_f rfl rfl) rfl rfl ?_
            refine Rv rfl rfl rfl (U_assign rfl) rfl rfl ?_
            refine Re rfl ?_
            exact joinTo id ⟨eD rfl rfl, trivial⟩ trivial rfl rfl rfl rfl (fun _ _ => rfl)
      refine thenQ_n ?_
      refine W_ret rfl ?_
      exact retL (rlT rfl rl0) (by first | rfl | (exact congrArg AV.bool (by unfold grt; first | (rw [show decide (14 < s.ls.length) = true from decide_eq_true (by omega)]; rfl) | (rw [show decide (14 < s.ls.length) = false from decide_eq_false (by omega), hmq, Bool.false_or])); done)) rfl
theorem fine_p (s : Sk) (c : Option Nat) : Pure Try.prog 47 [.agg [i64 s.h, i64 s.z, landsA s.ls c]] (.bool (!grt s && decide (chkS s = 0))) := by
  refine pure_of_body Try.func47 (c := body Try.f47) rfl (by simp [Try.ntmps47]) fun w0 Φ0 => ?_
  refine W_seq rfl ?_
  refine W_reg rfl ?_
  refine Rv rfl rfl rfl (U_boxF rfl rfl rfl) rfl rfl ?_
  refine Rv rfl rfl rfl (U_assign rfl) rfl rfl ?_
  refine Re rfl ?_
  refine thenQ_n ?_
  refine W_seq rfl ?_
  refine Wjoin ⟨[(2, .bool ((!(grt s)) && (decide ((chkS s) = 0))))], [], 0, []⟩ ?_ ?_
  · refine W_reg rfl ?_
    refine Rv rfl rfl rfl (U_load3 rfl rfl rfl rfl rfl) rfl rfl ?_
    refine Rv rfl rfl rfl (U_call rfl rfl (great_p s c) rfl) rfl rfl ?_
    refine Rv rfl rfl rfl (U_not rfl) rfl rfl ?_
    refine Rv rfl rfl rfl (U_move rfl) rfl rfl ?_
    refine Rsplit (t := 6) rfl (fun hg1 => ?_) (fun hg1 => ?_)
    · rw [hg1]
      have hgr : grt s = false := by simpa using hg1
      have hl := grt_ls hgr
      have hbl := grt_bl hgr
      refine Rv rfl rfl rfl (U_load3 rfl rfl rfl rfl rfl) rfl rfl ?_
      refine Rv rfl rfl rfl (U_call rfl rfl (chkSR_p s c hl hbl) rfl) rfl rfl ?_
      refine Rv rfl rfl rfl (U_eql rfl rfl) rfl rfl ?_
      refine Rv rfl rfl rfl (U_pick_t rfl rfl) rfl rfl ?_
      refine Rv rfl rfl rfl (U_assign rfl) rfl rfl ?_
      refine Re rfl ?_
      exact joinTo id ⟨eD rfl rfl, trivial⟩ trivial rfl rfl rfl rfl (fun _ _ => rfl)
    · rw [hg1]
      refine Rs rfl rfl rfl rfl rfl ?_
      refine Rs rfl rfl rfl rfl rfl ?_
      refine Rs rfl rfl rfl rfl rfl ?_
      refine Rv rfl rfl rfl (U_pick_f rfl rfl) rfl rfl ?_
      refine Rv rfl rfl rfl (U_assign rfl) rfl rfl ?_
      refine Re rfl ?_
      exact joinTo id ⟨eD rfl rfl, trivial⟩ trivial rfl rfl rfl rfl (fun _ _ => rfl)
  refine thenQ_n ?_
  refine W_ret rfl ?_
  exact retL (rlT rfl rl0) rfl rfl
end Go.Proofs.Ythlolelbmhfdbaa
end

section
namespace Go.Proofs.Ythlolelbmhfdbaa
set_option maxRecDepth 20000
open Go.AE
theorem sumS_add {α : Type} {f g : α → Nat} : ∀ {l : List α}, (l.map fun x => f x + g x).sum = (l.map f).sum + (l.map g).sum
  | [] => rfl
  | a :: l => by simp only [List.map_cons, List.sum_cons, sumS_add (l := l)]; omega
theorem sumS_congr {α : Type} {f g : α → Nat} {l : List α} (h : ∀ x ∈ l, f x = g x) : (l.map f).sum = (l.map g).sum := by rw [List.map_congr_left h]
theorem sumS_0 {α : Type} {f : α → Nat} {l : List α} (h : ∀ x ∈ l, f x = 0) : (l.map f).sum = 0 := by
  rw [sumS_congr (g := fun _ => 0) h]; induction l with
  | nil => rfl
  | cons a l ih => simp [ih fun x hx => h x (.tail _ hx)]
theorem sumS_swap {α β : Type} {f : α → β → Nat} {Q : List β} : ∀ {P : List α}, (P.map fun p => (Q.map fun q => f p q).sum).sum = (Q.map fun q => (P.map fun p => f p q).sum).sum
  | [] => (sumS_0 (fun _ _ => rfl)).symm
  | a :: P => by simp only [List.map_cons, List.sum_cons, sumS_add, sumS_swap (P := P)]
theorem sizQ_plc {Z H : Nat} {l : List Bx} : sizQ Z H l = ((plcQ Z H).map fun p => bitQ l H p.1 p.2).sum := by
  unfold sizQ fldQ plcQ; rw [List.map_map]; rfl
end Go.Proofs.Ythlolelbmhfdbaa
end

section
namespace Go.Proofs.Ythlolelbmhfdbaa
set_option maxRecDepth 20000
open Go.AE
theorem sk_ok {s : Sk} (h : chkS s = 0) : ∃ (H Z : Nat) (ls : List (List Bx)), s = ⟨H, Z, ls⟩ ∧ VS ⟨H, Z, ls⟩ H Z := by
  obtain ⟨H, Z, hv⟩ := vs_of h
  obtain ⟨h', z', ls⟩ := s
  have e1 := hv.h; have e2 := hv.z
  simp only at e1 e2
  subst e1; subst e2
  exact ⟨H, Z, ls, rfl, hv⟩
theorem fineF_p (s : Sk) (c : Option Nat) (h : (!grt s && decide (chkS s = 0)) = false) : Pure Try.prog 47 [.agg [i64 s.h, i64 s.z, landsA s.ls c]] (.bool false) := by
  have := fine_p s c; rwa [h] at this
theorem fineT_p (H Z : Nat) (ls : List (List Bx)) (c : Option Nat) (hg : grt ⟨H, Z, ls⟩ = false) (hc : chkS ⟨H, Z, ls⟩ = 0) : Pure Try.prog 47 [.agg [i64 (H : Nat), i64 (Z : Nat), landsA ls c]] (.bool true) := by
  have := fine_p ⟨H, Z, ls⟩ c; rwa [hg, hc] at this
theorem sizQ_le {Z H : Nat} {l : List Bx} : sizQ Z H l ≤ Z * H := by
  have := fldQ_sum_le (Z := Z) (H := H) (l := l) (Z * H)
  rwa [List.take_of_length_le (by rw [fldQ_len]; exact Nat.le_refl _)] at this
end Go.Proofs.Ythlolelbmhfdbaa
end

section
namespace Go.Proofs.Ythlolelbmhfdbaa
set_option maxRecDepth 20000
open Go.AE
def szsQ (Z H : Nat) (ls : List (List Bx)) : Nat := (ls.map (sizQ Z H)).sum
def szsK (Z H : Nat) (ls : List (List Bx)) (k : Nat) : Nat := ((ls.take k).map (sizQ Z H)).sum
theorem szsK_succ {Z H : Nat} {ls : List (List Bx)} {k : Nat} (hk : k < ls.length) : szsK Z H ls (k + 1) = szsK Z H ls k + sizQ Z H ls[k] := sum_snoc hk
theorem szsK_le {Z H : Nat} {ls : List (List Bx)} {k : Nat} : szsK Z H ls k ≤ k * (Z * H) := by
  have := sum_le (f := sizQ Z H) (l := ls.take k) (m := Z * H) fun _ _ => sizQ_le
  have h2 : (ls.take k).length ≤ k := by simp; omega
  exact Nat.le_trans this (Nat.mul_le_mul_right _ h2)
theorem cntF {p : Nat → Bool} : ∀ {n : Nat}, ((List.range n).filter p).length = ((List.range n).map fun i => if p i = true then 1 else 0).sum
  | 0 => rfl
  | n + 1 => by
    rw [List.range_succ, List.filter_append, List.length_append, List.map_append, List.sum_append, cntF (n := n)]
    congr 1
    by_cases h : p n = true
    · simp [h]
    · simp [h]
theorem range_getD {α : Type} {f : α → Nat} {d : α} {l : List α} : ((List.range l.length).map fun i => f (l.getD i d)) = l.map f := by
  apply List.ext_getElem (by simp)
  intro i h1 h2
  simp at h1 h2
  simp [List.getD_eq_getElem?_getD, List.getElem?_eq_getElem, h1]
theorem cntQ_sum {ls : List (List Bx)} {H : Nat} {p : Nat × Nat} : cntQ ls H p = (ls.map fun l => bitQ l H p.1 p.2).sum := by
  unfold cntQ ofQ
  rw [List.length_map, cntF]
  have : ((List.range ls.length).map fun i => if inL' (ls.getD i []) H p.1 p.2 = true then 1 else 0) = (List.range ls.length).map fun i => (fun l => bitQ l H p.1 p.2) (ls.getD i []) := rfl
  rw [this, range_getD (f := fun l => bitQ l H p.1 p.2)]
theorem szs_cnt {Z H : Nat} {ls : List (List Bx)} : szsQ Z H ls = ((plcQ Z H).map fun p => cntQ ls H p).sum := by
  unfold szsQ
  rw [sumS_congr (g := fun l => ((plcQ Z H).map fun p => bitQ l H p.1 p.2).sum) (fun l _ => sizQ_plc), sumS_swap]
  exact sumS_congr fun p _ => cntQ_sum.symm
def cpK (Z H : Nat) (p : Nat × Nat → Bool) (k : Nat) : Nat := ((List.range k).filter fun i => p (i / H, i % H)).length
theorem cpK_t {Z H k : Nat} {p : Nat × Nat → Bool} (h : p (k / H, k % H) = true) : cpK Z H p (k + 1) = cpK Z H p k + 1 := by
  unfold cpK; rw [List.range_succ, List.filter_append, List.length_append, show (List.filter (fun i => p (i / H, i % H)) [k]) = [k] by simp [h]]; rfl
theorem cpK_f {Z H k : Nat} {p : Nat × Nat → Bool} (h : ¬ p (k / H, k % H) = true) : cpK Z H p (k + 1) = cpK Z H p k := by
  unfold cpK; rw [List.range_succ, List.filter_append, List.length_append, show (List.filter (fun i => p (i / H, i % H)) [k]) = [] by simp [h]]; rfl
theorem cpK_le {Z H k : Nat} {p : Nat × Nat → Bool} : cpK Z H p k ≤ k := by
  unfold cpK; have := List.length_filter_le (fun i => p (i / H, i % H)) (List.range k); simpa using this
theorem cpK_all {Z H : Nat} {p : Nat × Nat → Bool} : cpK Z H p (Z * H) = ((plcQ Z H).map fun q => if p q = true then 1 else 0).sum := by
  unfold cpK plcQ; rw [cntF, List.map_map]; rfl
theorem sum_pos {α : Type} {f : α → Nat} : ∀ {l : List α} {x : α}, x ∈ l → f x ≤ (l.map f).sum
  | a :: l, x, h => by
    simp only [List.map_cons, List.sum_cons]
    cases h with
    | head => omega
    | tail _ h => have := sum_pos (f := f) h; omega
abbrev nonP (ls : List (List Bx)) (H : Nat) (p : Nat × Nat) : Bool := decide (cntQ ls H p = 0)
abbrev sevP (ls : List (List Bx)) (H : Nat) (p : Nat × Nat) : Bool := decide (1 < cntQ ls H p)
theorem plcQ_len' {Z H : Nat} : (plcQ Z H).length = Z * H := by simp [plcQ]
theorem sum_const {α : Type} {l : List α} : (l.map fun _ => 1).sum = l.length := by
  induction l with
  | nil => rfl
  | cons a l ih => rw [List.map_cons, List.sum_cons, ih, List.length_cons]; omega
theorem once_sum {Z H : Nat} {ls : List (List Bx)} (h : cpK Z H (sevP ls H) (Z * H) = 0) : szsQ Z H ls + cpK Z H (nonP ls H) (Z * H) = Z * H := by
  rw [cpK_all] at h ⊢
  rw [szs_cnt, ← sumS_add, ← plcQ_len', ← sum_const]
  refine sumS_congr fun p hp => ?_
  have := sum_pos (f := fun q => if sevP ls H q = true then 1 else 0) hp
  rw [h] at this
  simp only [sevP, decide_eq_true_eq] at this
  have h3 : ¬ 1 < cntQ ls H p := fun h => by rw [if_pos h] at this; omega
  simp only [nonP, decide_eq_true_eq]
  split <;> omega
theorem once_none {Z H : Nat} {ls : List (List Bx)} (h : fltQ Z H ls = none) : cpK Z H (sevP ls H) (Z * H) = 0 ∧ cpK Z H (nonP ls H) (Z * H) = 0 := by
  have h1 : ∀ p ∈ plcQ Z H, cntQ ls H p = 1 := fun p hp => by
    have := List.find?_eq_none.1 h p hp; simpa using this
  rw [cpK_all, cpK_all]
  exact ⟨sumS_0 fun p hp => by simp [h1 p hp], sumS_0 fun p hp => by simp [h1 p hp]⟩
theorem once_some {Z H : Nat} {ls : List (List Bx)} {p : Nat × Nat} (h : fltQ Z H ls = some p) : (p.1 < Z ∧ p.2 < H) ∧ cntQ ls H p ≠ 1 ∧ cpK Z H (sevP ls H) (Z * H) + cpK Z H (nonP ls H) (Z * H) ≠ 0 := by
  have h1 := List.mem_of_find?_eq_some h
  have h2 : cntQ ls H p ≠ 1 := by have := List.find?_some h; simpa using this
  refine ⟨plcQ_in h1, h2, ?_⟩
  rw [cpK_all, cpK_all]
  have a := sum_pos (f := fun q => if sevP ls H q = true then 1 else 0) h1
  have b := sum_pos (f := fun q => if nonP ls H q = true then 1 else 0) h1
  simp only [sevP, nonP, decide_eq_true_eq] at a b ⊢
  by_cases e : cntQ ls H p = 0
  · rw [if_pos e] at b; omega
  · rw [if_pos (show 1 < cntQ ls H p by omega)] at a; omega
theorem szsQ_K {Z H : Nat} {ls : List (List Bx)} : szsK Z H ls ls.length = szsQ Z H ls := by unfold szsK szsQ; rw [List.take_length]
end Go.Proofs.Ythlolelbmhfdbaa
end

section
namespace Go.Proofs.Ythlolelbmhfdbaa
set_option maxRecDepth 20000
open Go.AE
theorem onceN {H Z : Nat} {ls : List (List Bx)} (hc : chkS ⟨H, Z, ls⟩ = 0) (hn : fltQ Z H ls = none) : onceQ ⟨H, Z, ls⟩ = 0 := by unfold onceQ; rw [fltR_n hc hn]; rfl
theorem onceS {H Z : Nat} {ls : List (List Bx)} {p : Nat × Nat} (hc : chkS ⟨H, Z, ls⟩ = 0) (hn : fltQ Z H ls = some p) : onceQ ⟨H, Z, ls⟩ = 19 := by unfold onceQ; rw [fltR_s hc hn]; rfl
theorem vs_bl {H Z : Nat} {ls : List (List Bx)} (hv : VS ⟨H, Z, ls⟩ H Z) : ∀ l ∈ ls, l.length ≤ 1000000 := fun l hl => Nat.le_trans (hv.lb l hl) (by decide)
theorem vs_ln {H Z : Nat} {ls : List (List Bx)} (hv : VS ⟨H, Z, ls⟩ H Z) : ls.length ≤ 1000000 := Nat.le_trans hv.ln (by decide)
theorem onceN_p (H Z : Nat) (ls : List (List Bx)) (c : Option Nat) (hc : chkS ⟨H, Z, ls⟩ = 0) (hv : VS ⟨H, Z, ls⟩ H Z) (hn : fltQ Z H ls = none) : Pure Try.prog 25 [.agg [i64 (H : Nat), i64 (Z : Nat), landsA ls c]] (i64 0) := by
  have := onceA_p ⟨H, Z, ls⟩ c (vs_ln hv) (vs_bl hv); rwa [onceN hc hn] at this
theorem onceS_p (H Z : Nat) (ls : List (List Bx)) (c : Option Nat) (hc : chkS ⟨H, Z, ls⟩ = 0) (hv : VS ⟨H, Z, ls⟩ H Z) {p : Nat × Nat} (hn : fltQ Z H ls = some p) : Pure Try.prog 25 [.agg [i64 (H : Nat), i64 (Z : Nat), landsA ls c]] (i64 19) := by
  have := onceA_p ⟨H, Z, ls⟩ c (vs_ln hv) (vs_bl hv); rwa [onceS hc hn] at this
theorem fltN_p (H Z : Nat) (ls : List (List Bx)) (c : Option Nat) (hc : chkS ⟨H, Z, ls⟩ = 0) (hv : VS ⟨H, Z, ls⟩ H Z) (hn : fltQ Z H ls = none) : Pure Try.prog 20 [.agg [i64 (H : Nat), i64 (Z : Nat), landsA ls c]] (.tup [i64 0, i64 0, i64 0, i64 5]) := by
  have := flt_g H Z ls c hc hv; rwa [fltR_n hc hn] at this
theorem fltS_p (H Z : Nat) (ls : List (List Bx)) (c : Option Nat) (hc : chkS ⟨H, Z, ls⟩ = 0) (hv : VS ⟨H, Z, ls⟩ H Z) (p : Nat × Nat) (hn : fltQ Z H ls = some p) : Pure Try.prog 20 [.agg [i64 (H : Nat), i64 (Z : Nat), landsA ls c]] (.tup [i64 (p.2 : Nat), i64 (p.1 : Nat), i64 (cntQ ls H p : Nat), i64 0]) := by
  have := flt_g H Z ls c hc hv; rwa [fltR_s hc hn] at this
theorem sizes_p (H Z : Nat) (ls : List (List Bx)) (c : Option Nat) (hc : chkS ⟨H, Z, ls⟩ = 0) (hv : VS ⟨H, Z, ls⟩ H Z) : Pure Try.prog 48 [.agg [i64 (H : Nat), i64 (Z : Nat), landsA ls c]] (.tup [i64 ((szsQ Z H ls : Nat) : Int), .bool true]) := by
  have hv' := hv
  obtain ⟨_, _, hH, hZ1, hln, hlb, hbx⟩ := hv'
  simp only at hln hlb hbx
  have hZ := hZ1.2
  have hHZ : Z * H ≤ 1152 := Nat.mul_le_mul hZ hH.2
  have hHZc : H * Z = Z * H := Nat.mul_comm _ _
  refine pure_of_body Try.func48 (c := body Try.f48) rfl (by simp [Try.ntmps48]) fun w0 Φ0 => ?_
  refine W_seq rfl ?_
  refine W_reg rfl ?_
  refine Rv rfl rfl rfl (U_boxF rfl rfl rfl) rfl rfl ?_
  refine Rv rfl rfl rfl (U_assign rfl) rfl rfl ?_
  refine Rv rfl rfl rfl (U_assign rfl) rfl rfl ?_
  refine Re rfl ?_
  refine thenQ_n ?_
  refine W_seq rfl ?_
  refine W_reg rfl ?_
  refine Rv rfl rfl rfl (U_assign rfl) rfl rfl ?_
  refine Re rfl ?_
  refine thenQ_n ?_
  refine W_seq rfl ?_
  refine W_seq rfl ?_
  refine W_reg rfl ?_
  refine Rv rfl rfl rfl (U_assign rfl) rfl rfl ?_
  refine Re rfl ?_
  refine thenQ_n ?_
  refine W_block rfl ?_
  refine LoopTo (T' := [(1, .rop [i64 ((H : Nat) : Int), i64 ((Z : Nat) : Int), .ros (ls.map boxesL) ls.length c] 0), (4, i64 ((0 : Nat) : Int)), (5, i64 ((0 : Nat) : Int))]) (H' := []) (n := 0) rfl (fun mz_ qz_ => ∃ (i : Nat) (n : Nat), i ≤ ls.length ∧ n = szsK Z H ls i ∧ mz_ = ls.length - i ∧ qz_ = ⟨[(1, .rop [i64 ((H : Nat) : Int), i64 ((Z : Nat) : Int), .ros (ls.map boxesL) ls.length c] 0), (4, i64 ((n : Nat) : Int)), (5, i64 ((i : Nat) : Int))], [], 0, []⟩) ⟨0, 0, (by omega), rfl, rfl, rfl⟩ id ⟨eD rfl rfl, eD rfl rfl, eD rfl rfl, trivial⟩ trivial rfl rfl rfl rfl (fun _ _ => rfl) ?_
  rintro _ _ ⟨i, n, hi0_0, hi0_1, rfl, rfl⟩
  have hsk := szsK_le (Z := Z) (H := H) (ls := ls) (k := i)
  have hsm := Nat.mul_le_mul (show i ≤ 10 by omega) hHZ
  refine W_seq rfl ?_
  refine W_seq rfl ?_
  refine W_reg rfl ?_
  refine Rv rfl rfl rfl (U_move rfl) rfl rfl ?_
  refine Rv rfl rfl rfl (U_fieldAddrR rfl) rfl rfl ?_
  refine Rv rfl rfl rfl (U_load1 rfl rfl rfl) rfl rfl ?_
  refine Rv rfl rfl rfl (U_lenOf rfl len_ros) rfl rfl ?_
  refine Rv rfl rfl rfl (U_lss rfl rfl) rfl rfl ?_
  refine Re rfl ?_
  refine thenQ_n ?_
  refine WcondP rfl rfl (fun hc0 => ?_) (fun hc0 => ?_)
  · have hsq := sizQ_le (Z := Z) (H := H) (l := ls[i])
    refine W_skip rfl ?_
    refine thenQ_n ?_
    refine W_seq rfl ?_
    refine W_block rfl ?_
    refine W_seq rfl ?_
    refine W_reg rfl ?_
    refine Rv rfl rfl rfl (U_load3 rfl rfl rfl rfl rfl) rfl rfl ?_
    refine Rv rfl rfl rfl (U_move rfl) rfl rfl ?_
    refine Rv rfl rfl rfl (U_call rfl rfl (siz_g H Z ls c hc hv i (by omega)) rfl) rfl rfl ?_
    refine Rv rfl rfl rfl (U_move rfl) rfl rfl ?_
    refine Rv rfl rfl rfl (U_extract rfl rfl) rfl rfl ?_
    refine Rv rfl rfl rfl (U_extract rfl rfl) rfl rfl ?_
    refine Rv rfl rfl rfl (U_assign rfl) rfl rfl ?_
    refine Rv rfl rfl rfl (U_assign rfl) rfl rfl ?_
    refine Re rfl ?_
    refine thenQ_n ?_
    refine W_seq rfl ?_
    refine W_seq rfl ?_
    refine Wjoin ⟨[(1, .rop [i64 ((H : Nat) : Int), i64 ((Z : Nat) : Int), .ros (ls.map boxesL) ls.length c] 0), (4, i64 ((n : Nat) : Int)), (5, i64 ((i : Nat) : Int)), (6, i64 ((sizQ Z H ls[i] : Nat) : Int)), (35, .bool ((decide (((sizQ Z H ls[i] : Nat) : Int) < 0)) || (decide ((((H : Nat) : Int) * ((Z : Nat) : Int)) < ((sizQ Z H ls[i] : Nat) : Int)))))], [], 0, []⟩ ?_ ?_
    · refine W_reg rfl ?_
      refine Rv rfl rfl rfl (U_move rfl) rfl rfl ?_
      refine Rv rfl rfl rfl (U_neq rfl rfl) rfl rfl ?_
      refine Rv rfl rfl rfl (U_move rfl) rfl rfl ?_
      refine Rv rfl rfl rfl (U_move rfl) rfl rfl ?_
      refine Rv rfl rfl rfl (U_lss rfl rfl) rfl rfl ?_
      refine Rv rfl rfl rfl (U_pick_f rfl rfl) rfl rfl ?_
      refine Rv rfl rfl rfl (U_move rfl) rfl rfl ?_
      refine Rsplit (t := 27) rfl (fun hg1 => ?_) (fun hg1 => ?_)
      · rw [hg1]
        have hg1' : ((sizQ Z H ls[i] : Nat) : Int) < 0 := of_decide_eq_true hg1
        refine Rs rfl rfl rfl rfl rfl ?_
        refine Rs rfl rfl rfl rfl rfl ?_
        refine Rs rfl rfl rfl rfl rfl ?_
        refine Rs rfl rfl rfl rfl rfl ?_
        refine Rs rfl rfl rfl rfl rfl ?_
        refine Rs rfl rfl rfl rfl rfl ?_
        refine Rs rfl rfl rfl rfl rfl ?_
        refine Rv rfl rfl rfl (U_pick_t rfl rfl) rfl rfl ?_
        refine Re rfl ?_
        exact joinTo id ⟨eD rfl rfl, eD rfl rfl, eD rfl rfl, eD rfl rfl, eD rfl rfl, trivial⟩ trivial rfl rfl rfl rfl (fun _ _ => rfl)
      · rw [hg1]
        have hg1' : ¬ (((sizQ Z H ls[i] : Nat) : Int) < 0) := of_decide_eq_false hg1
        refine Rv rfl rfl rfl (U_move rfl) rfl rfl ?_
        refine Rv rfl rfl rfl (U_fieldAddrR rfl) rfl rfl ?_
        refine Rv rfl rfl rfl (U_load1 rfl rfl rfl) rfl rfl ?_
        refine Rv rfl rfl rfl (U_fieldAddrR rfl) rfl rfl ?_
        refine Rv rfl rfl rfl (U_load1 rfl rfl rfl) rfl rfl ?_
        refine Rv rfl rfl rfl (U_mul rfl rfl (w64 (by omega) (by omega))) rfl rfl ?_
        refine Rv rfl rfl rfl (U_gtr rfl rfl) rfl rfl ?_
        refine Rv rfl rfl rfl (U_pick_f rfl rfl) rfl rfl ?_
        refine Re rfl ?_
        exact joinTo id ⟨eD rfl rfl, eD rfl rfl, eD rfl rfl, eD rfl rfl, eD rfl rfl, trivial⟩ trivial rfl rfl rfl rfl (fun _ _ => rfl)
    refine thenQ_n ?_
    refine Wcond rfl rfl (fun hc1 => absurd hc1 (by simp; omega)) (fun hc1 => ?_)
    refine W_skip rfl ?_
    refine thenQ_n ?_
    refine W_reg rfl ?_
    refine Rv rfl rfl rfl (U_move rfl) rfl rfl ?_
    refine Rv rfl rfl rfl (U_move rfl) rfl rfl ?_
    refine Rv rfl rfl rfl (U_add rfl rfl (w64e (m := ((n + sizQ Z H ls[i] : Nat) : Int)) (by omega) (by omega) (by omega))) rfl rfl ?_
    refine Rv rfl rfl rfl (U_assign rfl) rfl rfl ?_
    refine Re rfl ?_
    refine blkQ_n ?_
    refine thenQ_n ?_
    refine W_reg rfl ?_
    refine Rv rfl rfl rfl (U_move rfl) rfl rfl ?_
    refine Rv rfl rfl rfl (U_add rfl rfl (w64e (m := ((i + 1 : Nat) : Int)) (by omega) (by omega) (by omega))) rfl rfl ?_
    refine Rv rfl rfl rfl (U_assign rfl) rfl rfl ?_
    refine Re rfl ?_
    refine thenQ_n ?_
    exact againTo (T' := [(1, .rop [i64 ((H : Nat) : Int), i64 ((Z : Nat) : Int), .ros (ls.map boxesL) ls.length c] 0), (4, i64 (((n + sizQ Z H ls[i]) : Nat) : Int)), (5, i64 (((i + 1) : Nat) : Int))]) (H' := []) (n := 0) (ls.length - (i + 1)) ⟨i + 1, n + sizQ Z H ls[i], (by omega), (by rw [szsK_succ (by omega), ← hi0_1]), rfl, rfl⟩ (by omega) id ⟨eD rfl rfl, eD rfl rfl, eD rfl rfl, trivial⟩ trivial rfl rfl rfl rfl (fun _ _ => rfl)
  · refine W_exit rfl ?_
    refine thenQ_x ?_
    refine thenQ_x ?_
    refine blkQ_x rfl ?_
    refine thenQ_n ?_
    refine W_seq rfl ?_
    refine W_reg rfl ?_
    refine Rv rfl rfl rfl (U_move rfl) rfl rfl ?_
    refine Rv rfl rfl rfl (U_assign rfl) rfl rfl ?_
    refine Rv rfl rfl rfl (U_assign rfl) rfl rfl ?_
    refine Re rfl ?_
    refine thenQ_n ?_
    refine W_ret rfl ?_
    exact retL (rlT rfl (rlT rfl rl0)) (by first | rfl | (simp only [packA]; rw [hi0_1, show i = ls.length by omega, szsQ_K]; first | done | rfl)) rfl
theorem borderOnce1_p (H Z : Nat) (ls : List (List Bx)) (c : Option Nat) (hc : chkS ⟨H, Z, ls⟩ = 0) (hv : VS ⟨H, Z, ls⟩ H Z) (hg : grt ⟨H, Z, ls⟩ = false) (hn : fltQ Z H ls = none) : Pure Try.prog 7 [.agg [i64 (H : Nat), i64 (Z : Nat), landsA ls c]] (.bool true) := by
  have hv' := hv
  obtain ⟨_, _, hH, hZ1, hln, hlb, hbx⟩ := hv'
  simp only at hln hlb hbx
  have hZ := hZ1.2
  have hHZ : Z * H ≤ 1152 := Nat.mul_le_mul hZ hH.2
  have hHZc : H * Z = Z * H := Nat.mul_comm _ _
  have hsz := szsK_le (Z := Z) (H := H) (ls := ls) (k := ls.length)
  rw [szsQ_K] at hsz
  have hsz2 := Nat.mul_le_mul hln hHZ
  have hon := once_none hn
  have hsu := once_sum hon.1
  refine pure_of_body Try.func7 (c := body Try.f7) rfl (by simp [Try.ntmps7]) fun w0 Φ0 => ?_
  refine W_seq rfl ?_
  refine W_reg rfl ?_
  refine Rv rfl rfl rfl (U_boxF rfl rfl rfl) rfl rfl ?_
  refine Rv rfl rfl rfl (U_assign rfl) rfl rfl ?_
  refine Re rfl ?_
  refine thenQ_n ?_
  refine W_seq rfl ?_
  refine W_seq rfl ?_
  refine W_reg rfl ?_
  refine Rv rfl rfl rfl (U_load3 rfl rfl rfl rfl rfl) rfl rfl ?_
  refine Rv rfl rfl rfl (U_call rfl rfl (fineT_p H Z ls c hg hc) rfl) rfl rfl ?_
  refine Rv rfl rfl rfl (U_not rfl) rfl rfl ?_
  refine Re rfl ?_
  refine thenQ_n ?_
  refine Wcond rfl rfl (fun h => nomatch h) (fun _ => ?_)
  refine W_skip rfl ?_
  refine thenQ_n ?_
  refine W_seq rfl ?_
  refine W_reg rfl ?_
  refine Rv rfl rfl rfl (U_load3 rfl rfl rfl rfl rfl) rfl rfl ?_
  refine Rv rfl rfl rfl (U_call rfl rfl (sizes_p H Z ls c hc hv) rfl) rfl rfl ?_
  refine Rv rfl rfl rfl (U_move rfl) rfl rfl ?_
  refine Rv rfl rfl rfl (U_extract rfl rfl) rfl rfl ?_
  refine Rv rfl rfl rfl (U_extract rfl rfl) rfl rfl ?_
  refine Rv rfl rfl rfl (U_assign rfl) rfl rfl ?_
  refine Rv rfl rfl rfl (U_assign rfl) rfl rfl ?_
  refine Re rfl ?_
  refine thenQ_n ?_
  refine W_seq rfl ?_
  refine W_reg rfl ?_
  refine Rv rfl rfl rfl (U_load3 rfl rfl rfl rfl rfl) rfl rfl ?_
  refine Rv rfl rfl rfl (U_call rfl rfl (onceN_p H Z ls c hc hv hn) rfl) rfl rfl ?_
  refine Rv rfl rfl rfl (U_assign rfl) rfl rfl ?_
  refine Re rfl ?_
  refine thenQ_n ?_
  refine W_seq rfl ?_
  refine W_reg rfl ?_
  refine Rv rfl rfl rfl (U_load3 rfl rfl rfl rfl rfl) rfl rfl ?_
  refine Rv rfl rfl rfl (U_call rfl rfl (fltN_p H Z ls c hc hv hn) rfl) rfl rfl ?_
  refine Rv rfl rfl rfl (U_move rfl) rfl rfl ?_
  refine Rv rfl rfl rfl (U_extract rfl rfl) rfl rfl ?_
  refine Rv rfl rfl rfl (U_extract rfl rfl) rfl rfl ?_
  refine Rv rfl rfl rfl (U_extract rfl rfl) rfl rfl ?_
  refine Rv rfl rfl rfl (U_extract rfl rfl) rfl rfl ?_
  refine Rv rfl rfl rfl (U_assign rfl) rfl rfl ?_
  refine Rv rfl rfl rfl (U_assign rfl) rfl rfl ?_
  refine Rv rfl rfl rfl (U_assign rfl) rfl rfl ?_
  refine Rv rfl rfl rfl (U_assign rfl) rfl rfl ?_
  refine Re rfl ?_
  refine thenQ_n ?_
  refine W_seq rfl ?_
  refine W_seq rfl ?_
  refine W_reg rfl ?_
  refine Rv rfl rfl rfl (U_move rfl) rfl rfl ?_
  refine Rv rfl rfl rfl (U_not rfl) rfl rfl ?_
  refine Re rfl ?_
  refine thenQ_n ?_
  refine Wcond rfl rfl (fun h => nomatch h) (fun _ => ?_)
  refine W_skip rfl ?_
  refine thenQ_n ?_
  refine W_seq rfl ?_
  refine W_seq rfl ?_
  refine Wjoin ⟨[(1, .rop [i64 ((H : Nat) : Int), i64 ((Z : Nat) : Int), .ros (ls.map boxesL) ls.length c] 0), (3, i64 ((szsQ Z H ls : Nat) : Int)), (5, i64 0), (6, i64 0), (7, i64 0), (8, i64 0), (70, .bool (decide (((szsQ Z H ls : Nat) : Int) ≠ (((H : Nat) : Int) * ((Z : Nat) : Int)))))], [], 0, []⟩ ?_ ?_
  · refine W_reg rfl ?_
    refine Rv rfl rfl rfl (U_move rfl) rfl rfl ?_
    refine Rv rfl rfl rfl (U_eql rfl rfl) rfl rfl ?_
    refine Rv rfl rfl rfl (U_move rfl) rfl rfl ?_
    refine Rv rfl rfl rfl (U_move rfl) rfl rfl ?_
    refine Rv rfl rfl rfl (U_neq rfl rfl) rfl rfl ?_
    refine Rv rfl rfl rfl (U_move rfl) rfl rfl ?_
    refine Rv rfl rfl rfl (U_move rfl) rfl rfl ?_
    refine Rv rfl rfl rfl (U_fieldAddrR rfl) rfl rfl ?_
    refine Rv rfl rfl rfl (U_load1 rfl rfl rfl) rfl rfl ?_
    refine Rv rfl rfl rfl (U_fieldAddrR rfl) rfl rfl ?_
    refine Rv rfl rfl rfl (U_load1 rfl rfl rfl) rfl rfl ?_
    refine Rv rfl rfl rfl (U_mul rfl rfl (w64 (by omega) (by omega))) rfl rfl ?_
    refine Rv rfl rfl rfl (U_neq rfl rfl) rfl rfl ?_
    refine Rv rfl rfl rfl (U_pick_f rfl rfl) rfl rfl ?_
    refine Rv rfl rfl rfl (U_pick_t rfl rfl) rfl rfl ?_
    refine Rv rfl rfl rfl (U_move rfl) rfl rfl ?_
    refine Rsplit (t := 52) rfl (fun hg1 => ?_) (fun hg1 => ?_)
    · rw [hg1]
      have hg1' : ((szsQ Z H ls : Nat) : Int) ≠ (((H : Nat) : Int) * ((Z : Nat) : Int)) := of_decide_eq_true hg1
      refine Rs rfl rfl rfl rfl rfl ?_
      refine Rs rfl rfl rfl rfl rfl ?_
      refine Rs rfl rfl rfl rfl rfl ?_
      refine Rs rfl rfl rfl rfl rfl ?_
      refine Rs rfl rfl rfl rfl rfl ?_
      refine Rs rfl rfl rfl rfl rfl ?_
      refine Rs rfl rfl rfl rfl rfl ?_
      refine Rs rfl rfl rfl rfl rfl ?_
      refine Rs rfl rfl rfl rfl rfl ?_
      refine Rs rfl rfl rfl rfl rfl ?_
      refine Rs rfl rfl rfl rfl rfl ?_
      refine Rs rfl rfl rfl rfl rfl ?_
      refine Rs rfl rfl rfl rfl rfl ?_
      refine Rs rfl rfl rfl rfl rfl ?_
      refine Rs rfl rfl rfl rfl rfl ?_
      refine Rs rfl rfl rfl rfl rfl ?_
      refine Rs rfl rfl rfl rfl rfl ?_
      refine Rv rfl rfl rfl (U_pick_t rfl rfl) rfl rfl ?_
      refine Re rfl ?_
      exact joinTo id ⟨eD rfl rfl, eD rfl rfl, eD rfl rfl, eD rfl rfl, eD rfl rfl, eD rfl rfl, eD rfl rfl, trivial⟩ trivial rfl rfl rfl rfl (fun _ _ => rfl)
    · rw [hg1]
      have hg1' : ¬ (((szsQ Z H ls : Nat) : Int) ≠ (((H : Nat) : Int) * ((Z : Nat) : Int))) := of_decide_eq_false hg1
      refine Rv rfl rfl rfl (U_move rfl) rfl rfl ?_
      refine Rv rfl rfl rfl (U_neq rfl rfl) rfl rfl ?_
      refine Rv rfl rfl rfl (U_move rfl) rfl rfl ?_
      refine Rs rfl rfl rfl rfl rfl ?_
      refine Rs rfl rfl rfl rfl rfl ?_
      refine Rs rfl rfl rfl rfl rfl ?_
      refine Rs rfl rfl rfl rfl rfl ?_
      refine Rs rfl rfl rfl rfl rfl ?_
      refine Rs rfl rfl rfl rfl rfl ?_
      refine Rs rfl rfl rfl rfl rfl ?_
      refine Rs rfl rfl rfl rfl rfl ?_
      refine Rs rfl rfl rfl rfl rfl ?_
      refine Rs rfl rfl rfl rfl rfl ?_
      refine Rs rfl rfl rfl rfl rfl ?_
      refine Rs rfl rfl rfl rfl rfl ?_
      refine Rs rfl rfl rfl rfl rfl ?_
      refine Rv rfl rfl rfl (U_pick_f rfl rfl) rfl rfl ?_
      refine Rv rfl rfl rfl (U_pick_f rfl rfl) rfl rfl ?_
      refine Re rfl ?_
      exact joinTo id ⟨eD rfl rfl, eD rfl rfl, eD rfl rfl, eD rfl rfl, eD rfl rfl, eD rfl rfl, eD rfl rfl, trivial⟩ trivial rfl rfl rfl rfl (fun _ _ => rfl)
  refine thenQ_n ?_
  refine WcondP rfl rfl (fun hc2 => absurd hc2 (by simp; omega)) (fun hc2 => ?_)
  refine W_skip rfl ?_
  refine thenQ_n ?_
  refine W_seq rfl ?_
  refine W_seq rfl ?_
  refine W_reg rfl ?_
  refine Rv rfl rfl rfl (U_move rfl) rfl rfl ?_
  refine Rv rfl rfl rfl (U_neq rfl rfl) rfl rfl ?_
  refine Re rfl ?_
  refine thenQ_n ?_
  refine WcondP rfl rfl (fun h => absurd h (by decide)) (fun _ => ?_)
  refine W_skip rfl ?_
  refine thenQ_n ?_
  refine W_seq rfl ?_
  refine W_reg rfl ?_
  refine Rv rfl rfl rfl (U_assign rfl) rfl rfl ?_
  refine Rv rfl rfl rfl (U_assign rfl) rfl rfl ?_
  refine Re rfl ?_
  refine thenQ_n ?_
  refine W_seq rfl ?_
  refine W_seq rfl ?_
  refine W_reg rfl ?_
  refine Rv rfl rfl rfl (U_assign rfl) rfl rfl ?_
  refine Re rfl ?_
  refine thenQ_n ?_
  refine W_block rfl ?_
  refine LoopTo (T' := [(1, .rop [i64 ((H : Nat) : Int), i64 ((Z : Nat) : Int), .ros (ls.map boxesL) ls.length c] 0), (3, i64 ((szsQ Z H ls : Nat) : Int)), (5, i64 0), (12, i64 ((0 : Nat) : Int)), (13, i64 ((0 : Nat) : Int)), (14, i64 ((0 : Nat) : Int))]) (H' := []) (n := 0) rfl (fun mz_ qz_ => ∃ (i : Nat) (m : Nat) (n : Nat), i ≤ H * Z ∧ m = cpK Z H (nonP ls H) i ∧ n = cpK Z H (sevP ls H) i ∧ mz_ = H * Z - i ∧ qz_ = ⟨[(1, .rop [i64 ((H : Nat) : Int), i64 ((Z : Nat) : Int), .ros (ls.map boxesL) ls.length c] 0), (3, i64 ((szsQ Z H ls : Nat) : Int)), (5, i64 0), (12, i64 ((m : Nat) : Int)), (13, i64 ((n : Nat) : Int)), (14, i64 ((i : Nat) : Int))], [], 0, []⟩) ⟨0, 0, 0, (by omega), rfl, rfl, rfl, rfl⟩ id ⟨eD rfl rfl, eD rfl rfl, eD rfl rfl, eD rfl rfl, eD rfl rfl, eD rfl rfl, trivial⟩ trivial rfl rfl rfl rfl (fun _ _ => rfl) ?_
  rintro _ _ ⟨i, m, n, hi0_0, hi0_1, hi0_2, rfl, rfl⟩
  have hck1 := cpK_le (Z := Z) (H := H) (k := i) (p := nonP ls H)
  have hck2 := cpK_le (Z := Z) (H := H) (k := i) (p := sevP ls H)
  refine W_seq rfl ?_
  refine W_seq rfl ?_
  refine W_reg rfl ?_
  refine Rv rfl rfl rfl (U_move rfl) rfl rfl ?_
  refine Rv rfl rfl rfl (U_fieldAddrR rfl) rfl rfl ?_
  refine Rv rfl rfl rfl (U_load1 rfl rfl rfl) rfl rfl ?_
  refine Rv rfl rfl rfl (U_fieldAddrR rfl) rfl rfl ?_
  refine Rv rfl rfl rfl (U_load1 rfl rfl rfl) rfl rfl ?_
  refine Rv rfl rfl rfl (U_mul rfl rfl (w64 (by omega) (by omega))) rfl rfl ?_
  refine Rv rfl rfl rfl (U_lss rfl rfl) rfl rfl ?_
  refine Re rfl ?_
  refine thenQ_n ?_
  refine WcondP rfl rfl (fun hc5 => ?_) (fun hc5 => ?_)
  · have hdv : i / H < Z := Nat.div_lt_of_lt_mul (by omega)
    have hmd : i % H < H := Nat.mod_lt _ (by omega)
    have hcq : cntQ ls H (i / H, i % H) = (ofQ ls H (i / H) (i % H) ls.length).length := rfl
    have hol := ofQ_len (ls := ls) (H := H) (z := i / H) (h := i % H) (k := ls.length)
    refine W_skip rfl ?_
    refine thenQ_n ?_
    refine W_seq rfl ?_
    refine W_block rfl ?_
    refine W_seq rfl ?_
    refine Wdraw rfl (by kernel_rfl) (by kernel_rfl) ?_
    refine Dv rfl rfl rfl (U_load3 rfl rfl rfl rfl rfl) rfl rfl ?_
    refine Dv rfl rfl rfl (U_move rfl) rfl rfl ?_
    refine Dv rfl rfl rfl (U_fieldAddrR rfl) rfl rfl ?_
    refine Dv rfl rfl rfl (U_load1 rfl rfl rfl) rfl rfl ?_
    refine Dv rfl rfl rfl (U_rem (c := ((i % H : Nat) : Int)) rfl rfl (by omega) (tmodN _ _)) rfl rfl ?_
    refine Dv rfl rfl rfl (U_move rfl) rfl rfl ?_
    refine Dv rfl rfl rfl (U_fieldAddrR rfl) rfl rfl ?_
    refine Dv rfl rfl rfl (U_load1 rfl rfl rfl) rfl rfl ?_
    refine Dv rfl rfl rfl (U_quo (c := ((i / H : Nat) : Int)) rfl rfl (by omega) (wquoN (by omega))) rfl rfl ?_
    refine Dv rfl rfl rfl (U_call rfl rfl (of_g H Z ls c hc hv (i % H) (i / H) (by omega) (by omega)) rfl) rfl rfl ?_
    refine Dv rfl rfl rfl (U_move rfl) rfl rfl ?_
    refine Dv rfl rfl rfl (U_extract rfl rfl) rfl rfl ?_
    refine Dv rfl rfl rfl (U_extract rfl rfl) rfl rfl ?_
    refine Dv rfl rfl rfl (U_assign rfl) rfl rfl ?_
    refine Dv rfl rfl rfl (U_assign rfl) rfl rfl ?_
    refine Dr.nil rfl ?_
    refine thenQ_n ?_
    refine W_seq rfl ?_
    refine W_seq rfl ?_
    refine W_reg rfl ?_
    refine Rv rfl rfl rfl (U_move rfl) rfl rfl ?_
    refine Rv rfl rfl rfl (U_neq rfl rfl) rfl rfl ?_
    refine Rv rfl rfl rfl (U_move rfl) rfl rfl ?_
    refine Rv rfl rfl rfl (U_move rfl) rfl rfl ?_
    refine Rv rfl rfl rfl (U_lenOf rfl len_ros) rfl rfl ?_
    refine Rv rfl rfl rfl (U_fieldAddrR rfl) rfl rfl ?_
    refine Rv rfl rfl rfl (U_load1 rfl rfl rfl) rfl rfl ?_
    refine Rv rfl rfl rfl (U_lenOf rfl len_ros) rfl rfl ?_
    refine Rv rfl rfl rfl (U_gtr rfl rfl) rfl rfl ?_
    refine Rv rfl rfl rfl (U_pick_f rfl rfl) rfl rfl ?_
    refine Re rfl ?_
    refine thenQ_n ?_
    refine WcondP rfl rfl (fun hc6 => absurd hc6 (by simp; omega)) (fun hc6 => ?_)
    refine W_skip rfl ?_
    refine thenQ_n ?_
    refine W_seq rfl ?_
    refine W_seq rfl ?_
    refine W_reg rfl ?_
    refine Rv rfl rfl rfl (U_move rfl) rfl rfl ?_
    refine Rv rfl rfl rfl (U_lenOf rfl len_ros) rfl rfl ?_
    refine Rv rfl rfl rfl (U_eql rfl rfl) rfl rfl ?_
    refine Re rfl ?_
    refine thenQ_n ?_
    refine WcondP rfl rfl (fun hc7 => ?_) (fun hc7 => ?_)
    · refine W_reg rfl ?_
      refine Rv rfl rfl rfl (U_move rfl) rfl rfl ?_
      refine Rv rfl rfl rfl (U_add rfl rfl (w64e (m := ((m + 1 : Nat) : Int)) (by omega) (by omega) (by omega))) rfl rfl ?_
      refine Rv rfl rfl rfl (U_assign rfl) rfl rfl ?_
      refine Re rfl ?_
      refine thenQ_n ?_
      refine W_seq rfl ?_
      refine W_reg rfl ?_
      refine Rv rfl rfl rfl (U_move rfl) rfl rfl ?_
      refine Rv rfl rfl rfl (U_lenOf rfl len_ros) rfl rfl ?_
      refine Rv rfl rfl rfl (U_gtr rfl rfl) rfl rfl ?_
      refine Re rfl ?_
      refine thenQ_n ?_
      refine WcondP rfl rfl (fun hc8 => ?_) (fun hc8 => ?_)
      · refine W_reg rfl ?_
        refine Rv rfl rfl rfl (U_move rfl) rfl rfl ?_
        refine Rv rfl rfl rfl (U_add rfl rfl (w64e (m := ((n + 1 : Nat) : Int)) (by omega) (by omega) (by omega))) rfl rfl ?_
        refine Rv rfl rfl rfl (U_assign rfl) rfl rfl ?_
        refine Re rfl ?_
        refine blkQ_n ?_
        refine thenQ_n ?_
        refine W_reg rfl ?_
        refine Rv rfl rfl rfl (U_move rfl) rfl rfl ?_
        refine Rv rfl rfl rfl (U_add rfl rfl (w64e (m := ((i + 1 : Nat) : Int)) (by omega) (by omega) (by omega))) rfl rfl ?_
        refine Rv rfl rfl rfl (U_assign rfl) rfl rfl ?_
        refine Re rfl ?_
        refine thenQ_n ?_
        exact againTo (T' := [(1, .rop [i64 ((H : Nat) : Int), i64 ((Z : Nat) : Int), .ros (ls.map boxesL) ls.length c] 0), (3, i64 ((szsQ Z H ls : Nat) : Int)), (5, i64 0), (12, i64 (((m + 1) : Nat) : Int)), (13, i64 (((n + 1) : Nat) : Int)), (14, i64 (((i + 1) : Nat) : Int))]) (H' := []) (n := 0) (H * Z - (i + 1)) ⟨i + 1, m + 1, n + 1, (by omega), (by first | (rw [cpK_t (show nonP ls H (i / H, i % H) = true from decide_eq_true (by omega)), ← hi0_1]) | (rw [cpK_f (show ¬ nonP ls H (i / H, i % H) = true from fun h => by have := of_decide_eq_true h; omega)]; exact hi0_1)), (by first | (rw [cpK_t (show sevP ls H (i / H, i % H) = true from decide_eq_true (by omega)), ← hi0_2]) | (rw [cpK_f (show ¬ sevP ls H (i / H, i % H) = true from fun h => by have := of_decide_eq_true h; omega)]; exact hi0_2)), rfl, rfl⟩ (by omega) id ⟨eD rfl rfl, eD rfl rfl, eD rfl rfl, eD rfl rfl, eD rfl rfl, eD rfl rfl, trivial⟩ trivial rfl rfl rfl rfl (fun _ _ => rfl)
      · refine W_skip rfl ?_
        refine blkQ_n ?_
        refine thenQ_n ?_
        refine W_reg rfl ?_
        refine Rv rfl rfl rfl (U_move rfl) rfl rfl ?_
        refine Rv rfl rfl rfl (U_add rfl rfl (w64e (m := ((i + 1 : Nat) : Int)) (by omega) (by omega) (by omega))) rfl rfl ?_
        refine Rv rfl rfl rfl (U_assign rfl) rfl rfl ?_
        refine Re rfl ?_
        refine thenQ_n ?_
        exact againTo (T' := [(1, .rop [i64 ((H : Nat) : Int), i64 ((Z : Nat) : Int), .ros (ls.map boxesL) ls.length c] 0), (3, i64 ((szsQ Z H ls : Nat) : Int)), (5, i64 0), (12, i64 (((m + 1) : Nat) : Int)), (13, i64 ((n : Nat) : Int)), (14, i64 (((i + 1) : Nat) : Int))]) (H' := []) (n := 0) (H * Z - (i + 1)) ⟨i + 1, m + 1, n, (by omega), (by first | (rw [cpK_t (show nonP ls H (i / H, i % H) = true from decide_eq_true (by omega)), ← hi0_1]) | (rw [cpK_f (show ¬ nonP ls H (i / H, i % H) = true from fun h => by have := of_decide_eq_true h; omega)]; exact hi0_1)), (by first | (rw [cpK_t (show sevP ls H (i / H, i % H) = true from decide_eq_true (by omega)), ← hi0_2]) | (rw [cpK_f (show ¬ sevP ls H (i / H, i % H) = true from fun h => by have := of_decide_eq_true h; omega)]; exact hi0_2)), rfl, rfl⟩ (by omega) id ⟨eD rfl rfl, eD rfl rfl, eD rfl rfl, eD rfl rfl, eD rfl rfl, eD rfl rfl, trivial⟩ trivial rfl rfl rfl rfl (fun _ _ => rfl)
    · refine W_skip rfl ?_
      refine thenQ_n ?_
      refine W_seq rfl ?_
      refine W_reg rfl ?_
      refine Rv rfl rfl rfl (U_move rfl) rfl rfl ?_
      refine Rv rfl rfl rfl (U_lenOf rfl len_ros) rfl rfl ?_
      refine Rv rfl rfl rfl (U_gtr rfl rfl) rfl rfl ?_
      refine Re rfl ?_
      refine thenQ_n ?_
      refine WcondP rfl rfl (fun hc8 => ?_) (fun hc8 => ?_)
      · refine W_reg rfl ?_
        refine Rv rfl rfl rfl (U_move rfl) rfl rfl ?_
        refine Rv rfl rfl rfl (U_add rfl rfl (w64e (m := ((n + 1 : Nat) : Int)) (by omega) (by omega) (by omega))) rfl rfl ?_
        refine Rv rfl rfl rfl (U_assign rfl) rfl rfl ?_
        refine Re rfl ?_
        refine blkQ_n ?_
        refine thenQ_n ?_
        refine W_reg rfl ?_
        refine Rv rfl rfl rfl (U_move rfl) rfl rfl ?_
        refine Rv rfl rfl rfl (U_add rfl rfl (w64e (m := ((i + 1 : Nat) : Int)) (by omega) (by omega) (by omega))) rfl rfl ?_
        refine Rv rfl rfl rfl (U_assign rfl) rfl rfl ?_
        refine Re rfl ?_
        refine thenQ_n ?_
        exact againTo (T' := [(1, .rop [i64 ((H : Nat) : Int), i64 ((Z : Nat) : Int), .ros (ls.map boxesL) ls.length c] 0), (3, i64 ((szsQ Z H ls : Nat) : Int)), (5, i64 0), (12, i64 ((m : Nat) : Int)), (13, i64 (((n + 1) : Nat) : Int)), (14, i64 (((i + 1) : Nat) : Int))]) (H' := []) (n := 0) (H * Z - (i + 1)) ⟨i + 1, m, n + 1, (by omega), (by first | (rw [cpK_t (show nonP ls H (i / H, i % H) = true from decide_eq_true (by omega)), ← hi0_1]) | (rw [cpK_f (show ¬ nonP ls H (i / H, i % H) = true from fun h => by have := of_decide_eq_true h; omega)]; exact hi0_1)), (by first | (rw [cpK_t (show sevP ls H (i / H, i % H) = true from decide_eq_true (by omega)), ← hi0_2]) | (rw [cpK_f (show ¬ sevP ls H (i / H, i % H) = true from fun h => by have := of_decide_eq_true h; omega)]; exact hi0_2)), rfl, rfl⟩ (by omega) id ⟨eD rfl rfl, eD rfl rfl, eD rfl rfl, eD rfl rfl, eD rfl rfl, eD rfl rfl, trivial⟩ trivial rfl rfl rfl rfl (fun _ _ => rfl)
      · refine W_skip rfl ?_
        refine blkQ_n ?_
        refine thenQ_n ?_
        refine W_reg rfl ?_
        refine Rv rfl rfl rfl (U_move rfl) rfl rfl ?_
        refine Rv rfl rfl rfl (U_add rfl rfl (w64e (m := ((i + 1 : Nat) : Int)) (by omega) (by omega) (by omega))) rfl rfl ?_
        refine Rv rfl rfl rfl (U_assign rfl) rfl rfl ?_
        refine Re rfl ?_
        refine thenQ_n ?_
        exact againTo (T' := [(1, .rop [i64 ((H : Nat) : Int), i64 ((Z : Nat) : Int), .ros (ls.map boxesL) ls.length c] 0), (3, i64 ((szsQ Z H ls : Nat) : Int)), (5, i64 0), (12, i64 ((m : Nat) : Int)), (13, i64 ((n : Nat) : Int)), (14, i64 (((i + 1) : Nat) : Int))]) (H' := []) (n := 0) (H * Z - (i + 1)) ⟨i + 1, m, n, (by omega), (by first | (rw [cpK_t (show nonP ls H (i / H, i % H) = true from decide_eq_true (by omega)), ← hi0_1]) | (rw [cpK_f (show ¬ nonP ls H (i / H, i % H) = true from fun h => by have := of_decide_eq_true h; omega)]; exact hi0_1)), (by first | (rw [cpK_t (show sevP ls H (i / H, i % H) = true from decide_eq_true (by omega)), ← hi0_2]) | (rw [cpK_f (show ¬ sevP ls H (i / H, i % H) = true from fun h => by have := of_decide_eq_true h; omega)]; exact hi0_2)), rfl, rfl⟩ (by omega) id ⟨eD rfl rfl, eD rfl rfl, eD rfl rfl, eD rfl rfl, eD rfl rfl, eD rfl rfl, trivial⟩ trivial rfl rfl rfl rfl (fun _ _ => rfl)
  · have hiZ : i = Z * H := by omega
    have hm0 : m = cpK Z H (nonP ls H) (Z * H) := by rw [hi0_1, hiZ]
    have hs0 : n = cpK Z H (sevP ls H) (Z * H) := by rw [hi0_2, hiZ]
    refine W_exit rfl ?_
    refine thenQ_x ?_
    refine thenQ_x ?_
    refine blkQ_x rfl ?_
    refine thenQ_n ?_
    refine W_seq rfl ?_
    refine Wjoin ⟨[(2, .bool ((decide ((decide ((0 : Int) = 0)) = (decide (((m + n : Nat) : Int) = 0)))) && ((decide (0 < ((n : Nat) : Int))) || (decide (((szsQ Z H ls : Nat) : Int) = ((((H : Nat) : Int) * ((Z : Nat) : Int)) - ((m : Nat) : Int)))))))], [], 0, []⟩ ?_ ?_
    · refine W_reg rfl ?_
      refine Rv rfl rfl rfl (U_move rfl) rfl rfl ?_
      refine Rv rfl rfl rfl (U_eql rfl rfl) rfl rfl ?_
      refine Rv rfl rfl rfl (U_move rfl) rfl rfl ?_
      refine Rv rfl rfl rfl (U_move rfl) rfl rfl ?_
      refine Rv rfl rfl rfl (U_add rfl rfl (w64e (m := ((m + n : Nat) : Int)) (by omega) (by omega) (by omega))) rfl rfl ?_
      refine Rv rfl rfl rfl (U_eql rfl rfl) rfl rfl ?_
      refine Rv rfl rfl rfl (U_eqlB rfl rfl) rfl rfl ?_
      refine Rv rfl rfl rfl (U_move rfl) rfl rfl ?_
      refine Rsplit (t := 141) rfl (fun hg2 => ?_) (fun hg2 => ?_)
      · rw [hg2]
        have hg2' : (decide ((0 : Int) = 0)) = (decide (((m + n : Nat) : Int) = 0)) := of_decide_eq_true hg2
        refine Rv rfl rfl rfl (U_move rfl) rfl rfl ?_
        refine Rv rfl rfl rfl (U_gtr rfl rfl) rfl rfl ?_
        refine Rv rfl rfl rfl (U_move rfl) rfl rfl ?_
        refine Rsplit (t := 144) rfl (fun hg3 => ?_) (fun hg3 => ?_)
        · rw [hg3]
          have hg3' : 0 < ((n : Nat) : Int) := of_decide_eq_true hg3
          refine Rs rfl rfl rfl rfl rfl ?_
          refine Rs rfl rfl rfl rfl rfl ?_
          refine Rs rfl rfl rfl rfl rfl ?_
          refine Rs rfl rfl rfl rfl rfl ?_
          refine Rs rfl rfl rfl rfl rfl ?_
          refine Rs rfl rfl rfl rfl rfl ?_
          refine Rs rfl rfl rfl rfl rfl ?_
          refine Rs rfl rfl rfl rfl rfl ?_
          refine Rs rfl rfl rfl rfl rfl ?_
          refine Rv rfl rfl rfl (U_pick_t rfl rfl) rfl rfl ?_
          refine Rv rfl rfl rfl (U_pick_t rfl rfl) rfl rfl ?_
          refine Rv rfl rfl rfl (U_move rfl) rfl rfl ?_
          refine Rv rfl rfl rfl (U_call rfl rfl (works_p) rfl) rfl rfl ?_
          refine Rv rfl rfl rfl (U_pick_t rfl rfl) rfl rfl ?_
          refine Rv rfl rfl rfl (U_assign rfl) rfl rfl ?_
          refine Re rfl ?_
          exact joinTo id ⟨eD rfl rfl, trivial⟩ trivial rfl rfl rfl rfl (fun _ _ => rfl)
        · rw [hg3]
          have hg3' : ¬ (0 < ((n : Nat) : Int)) := of_decide_eq_false hg3
          refine Rv rfl rfl rfl (U_move rfl) rfl rfl ?_
          refine Rv rfl rfl rfl (U_fieldAddrR rfl) rfl rfl ?_
          refine Rv rfl rfl rfl (U_load1 rfl rfl rfl) rfl rfl ?_
          refine Rv rfl rfl rfl (U_fieldAddrR rfl) rfl rfl ?_
          refine Rv rfl rfl rfl (U_load1 rfl rfl rfl) rfl rfl ?_
          refine Rv rfl rfl rfl (U_mul rfl rfl (w64 (by omega) (by omega))) rfl rfl ?_
          refine Rv rfl rfl rfl (U_move rfl) rfl rfl ?_
          refine Rv rfl rfl rfl (U_sub rfl rfl (w64 (by omega) (by omega))) rfl rfl ?_
          refine Rv rfl rfl rfl (U_eql rfl rfl) rfl rfl ?_
          refine Rv rfl rfl rfl (U_pick_f rfl rfl) rfl rfl ?_
          refine Rv rfl rfl rfl (U_pick_t rfl rfl) rfl rfl ?_
          refine Rv rfl rfl rfl (U_move rfl) rfl rfl ?_
          refine Rsplit (t := 156) rfl (fun hg4 => ?_) (fun hg4 => ?_)
          · rw [hg4]
            have hg4' : ((szsQ Z H ls : Nat) : Int) = ((((H : Nat) : Int) * ((Z : Nat) : Int)) - ((m : Nat) : Int)) := of_decide_eq_true hg4
            refine Rv rfl rfl rfl (U_call rfl rfl (works_p) rfl) rfl rfl ?_
            refine Rv rfl rfl rfl (U_pick_t rfl rfl) rfl rfl ?_
            refine Rv rfl rfl rfl (U_assign rfl) rfl rfl ?_
            refine Re rfl ?_
            exact joinTo id ⟨eD rfl rfl, trivial⟩ trivial rfl rfl rfl rfl (fun _ _ => rfl)
          · rw [hg4]
            have hg4' : ¬ (((szsQ Z H ls : Nat) : Int) = ((((H : Nat) : Int) * ((Z : Nat) : Int)) - ((m : Nat) : Int))) := of_decide_eq_false hg4
            refine Rs rfl rfl rfl rfl rfl ?_
            refine Rv rfl rfl rfl (U_pick_f rfl rfl) rfl rfl ?_
            refine Rv rfl rfl rfl (U_assign rfl) rfl rfl ?_
            refine Re rfl ?_
            exact joinTo id ⟨eD rfl rfl, trivial⟩ trivial rfl rfl rfl rfl (fun _ _ => rfl)
      · rw [hg2]
        have hg2' : ¬ ((decide ((0 : Int) = 0)) = (decide (((m + n : Nat) : Int) = 0))) := of_decide_eq_false hg2
        refine Rs rfl rfl rfl rfl rfl ?_
        refine Rs rfl rfl rfl rfl rfl ?_
        refine Rs rfl rfl rfl rfl rfl ?_
        refine Rs rfl rfl rfl rfl rfl ?_
        refine Rs rfl rfl rfl rfl rfl ?_
        refine Rs rfl rfl rfl rfl rfl ?_
        refine Rs rfl rfl rfl rfl rfl ?_
        refine Rs rfl rfl rfl rfl rfl ?_
        refine Rs rfl rfl rfl rfl rfl ?_
        refine Rs rfl rfl rfl rfl rfl ?_
        refine Rs rfl rfl rfl rfl rfl ?_
        refine Rs rfl rfl rfl rfl rfl ?_
        refine Rs rfl rfl rfl rfl rfl ?_
        refine Rv rfl rfl rfl (U_pick_f rfl rfl) rfl rfl ?_
        refine Rv rfl rfl rfl (U_move rfl) rfl rfl ?_
        refine Rs rfl rfl rfl rfl rfl ?_
        refine Rv rfl rfl rfl (U_pick_f rfl rfl) rfl rfl ?_
        refine Rv rfl rfl rfl (U_assign rfl) rfl rfl ?_
        refine Re rfl ?_
        exact joinTo id ⟨eD rfl rfl, trivial⟩ trivial rfl rfl rfl rfl (fun _ _ => rfl)
    refine thenQ_n ?_
    refine W_ret rfl ?_
    exact retL (rlT rfl rl0) (by first | rfl | (simp only [packA]; simp; omega; first | done | rfl)) rfl
theorem borderOnce2_p (H Z : Nat) (ls : List (List Bx)) (c : Option Nat) (hc : chkS ⟨H, Z, ls⟩ = 0) (hv : VS ⟨H, Z, ls⟩ H Z) (hg : grt ⟨H, Z, ls⟩ = false) (p : Nat × Nat) (hn : fltQ Z H ls = some p) : Pure Try.prog 7 [.agg [i64 (H : Nat), i64 (Z : Nat), landsA ls c]] (.bool true) := by
  have hv' := hv
  obtain ⟨_, _, hH, hZ1, hln, hlb, hbx⟩ := hv'
  simp only at hln hlb hbx
  have hZ := hZ1.2
  have hHZ : Z * H ≤ 1152 := Nat.mul_le_mul hZ hH.2
  have hHZc : H * Z = Z * H := Nat.mul_comm _ _
  have hsz := szsK_le (Z := Z) (H := H) (ls := ls) (k := ls.length)
  rw [szsQ_K] at hsz
  have hsz2 := Nat.mul_le_mul hln hHZ
  obtain ⟨hpl, hp1, hpn⟩ := once_some hn
  have hsu := once_sum (Z := Z) (H := H) (ls := ls)
  have hpc : (ofQ ls H p.1 p.2 ls.length).length = cntQ ls H p := rfl
  refine pure_of_body Try.func7 (c := body Try.f7) rfl (by simp [Try.ntmps7]) fun w0 Φ0 => ?_
  refine W_seq rfl ?_
  refine W_reg rfl ?_
  refine Rv rfl rfl rfl (U_boxF rfl rfl rfl) rfl rfl ?_
  refine Rv rfl rfl rfl (U_assign rfl) rfl rfl ?_
  refine Re rfl ?_
  refine thenQ_n ?_
  refine W_seq rfl ?_
  refine W_seq rfl ?_
  refine W_reg rfl ?_
  refine Rv rfl rfl rfl (U_load3 rfl rfl rfl rfl rfl) rfl rfl ?_
  refine Rv rfl rfl rfl (U_call rfl rfl (fineT_p H Z ls c hg hc) rfl) rfl rfl ?_
  refine Rv rfl rfl rfl (U_not rfl) rfl rfl ?_
  refine Re rfl ?_
  refine thenQ_n ?_
  refine Wcond rfl rfl (fun h => nomatch h) (fun _ => ?_)
  refine W_skip rfl ?_
  refine thenQ_n ?_
  refine W_seq rfl ?_
  refine W_reg rfl ?_
  refine Rv rfl rfl rfl (U_load3 rfl rfl rfl rfl rfl) rfl rfl ?_
  refine Rv rfl rfl rfl (U_call rfl rfl (sizes_p H Z ls c hc hv) rfl) rfl rfl ?_
  refine Rv rfl rfl rfl (U_move rfl) rfl rfl ?_
  refine Rv rfl rfl rfl (U_extract rfl rfl) rfl rfl ?_
  refine Rv rfl rfl rfl (U_extract rfl rfl) rfl rfl ?_
  refine Rv rfl rfl rfl (U_assign rfl) rfl rfl ?_
  refine Rv rfl rfl rfl (U_assign rfl) rfl rfl ?_
  refine Re rfl ?_
  refine thenQ_n ?_
  refine W_seq rfl ?_
  refine W_reg rfl ?_
  refine Rv rfl rfl rfl (U_load3 rfl rfl rfl rfl rfl) rfl rfl ?_
  refine Rv rfl rfl rfl (U_call rfl rfl (onceS_p H Z ls c hc hv hn) rfl) rfl rfl ?_
  refine Rv rfl rfl rfl (U_assign rfl) rfl rfl ?_
  refine Re rfl ?_
  refine thenQ_n ?_
  refine W_seq rfl ?_
  refine W_reg rfl ?_
  refine Rv rfl rfl rfl (U_load3 rfl rfl rfl rfl rfl) rfl rfl ?_
  refine Rv rfl rfl rfl (U_call rfl rfl (fltS_p H Z ls c hc hv p hn) rfl) rfl rfl ?_
  refine Rv rfl rfl rfl (U_move rfl) rfl rfl ?_
  refine Rv rfl rfl rfl (U_extract rfl rfl) rfl rfl ?_
  refine Rv rfl rfl rfl (U_extract rfl rfl) rfl rfl ?_
  refine Rv rfl rfl rfl (U_extract rfl rfl) rfl rfl ?_
  refine Rv rfl rfl rfl (U_extract rfl rfl) rfl rfl ?_
  refine Rv rfl rfl rfl (U_assign rfl) rfl rfl ?_
  refine Rv rfl rfl rfl (U_assign rfl) rfl rfl ?_
  refine Rv rfl rfl rfl (U_assign rfl) rfl rfl ?_
  refine Rv rfl rfl rfl (U_assign rfl) rfl rfl ?_
  refine Re rfl ?_
  refine thenQ_n ?_
  refine W_seq rfl ?_
  refine W_seq rfl ?_
  refine W_reg rfl ?_
  refine Rv rfl rfl rfl (U_move rfl) rfl rfl ?_
  refine Rv rfl rfl rfl (U_not rfl) rfl rfl ?_
  refine Re rfl ?_
  refine thenQ_n ?_
  refine Wcond rfl rfl (fun h => nomatch h) (fun _ => ?_)
  refine W_skip rfl ?_
  refine thenQ_n ?_
  refine W_seq rfl ?_
  refine W_seq rfl ?_
  refine W_reg rfl ?_
  refine Rv rfl rfl rfl (U_move rfl) rfl rfl ?_
  refine Rv rfl rfl rfl (U_eql rfl rfl) rfl rfl ?_
  refine Rv rfl rfl rfl (U_move rfl) rfl rfl ?_
  refine Rs rfl rfl rfl rfl rfl ?_
  refine Rs rfl rfl rfl rfl rfl ?_
  refine Rs rfl rfl rfl rfl rfl ?_
  refine Rs rfl rfl rfl rfl rfl ?_
  refine Rs rfl rfl rfl rfl rfl ?_
  refine Rs rfl rfl rfl rfl rfl ?_
  refine Rs rfl rfl rfl rfl rfl ?_
  refine Rs rfl rfl rfl rfl rfl ?_
  refine Rs rfl rfl rfl rfl rfl ?_
  refine Rs rfl rfl rfl rfl rfl ?_
  refine Rs rfl rfl rfl rfl rfl ?_
  refine Rv rfl rfl rfl (U_pick_f rfl rfl) rfl rfl ?_
  refine Rv rfl rfl rfl (U_move rfl) rfl rfl ?_
  refine Rv rfl rfl rfl (U_move rfl) rfl rfl ?_
  refine Rv rfl rfl rfl (U_neq rfl rfl) rfl rfl ?_
  refine Rv rfl rfl rfl (U_move rfl) rfl rfl ?_
  refine Rv rfl rfl rfl (U_move rfl) rfl rfl ?_
  refine Rv rfl rfl rfl (U_neq rfl rfl) rfl rfl ?_
  refine Rv rfl rfl rfl (U_move rfl) rfl rfl ?_
  refine Rv rfl rfl rfl (U_move rfl) rfl rfl ?_
  refine Rv rfl rfl rfl (U_neq rfl rfl) rfl rfl ?_
  refine Rv rfl rfl rfl (U_pick_f rfl rfl) rfl rfl ?_
  refine Rv rfl rfl rfl (U_move rfl) rfl rfl ?_
  refine Rv rfl rfl rfl (U_load3 rfl rfl rfl rfl rfl) rfl rfl ?_
  refine Rv rfl rfl rfl (U_move rfl) rfl rfl ?_
  refine Rv rfl rfl rfl (U_move rfl) rfl rfl ?_
  refine Rv rfl rfl rfl (U_call rfl rfl (isPlace_p H Z ls c ((p.2 : Nat) : Int) ((p.1 : Nat) : Int)) rfl) rfl rfl ?_
  refine Rv rfl rfl rfl (U_not rfl) rfl rfl ?_
  refine Rv rfl rfl rfl (U_pick_f rfl rfl) rfl rfl ?_
  refine Rv rfl rfl rfl (U_pick_t rfl rfl) rfl rfl ?_
  refine Rv rfl rfl rfl (U_pick_f rfl rfl) rfl rfl ?_
  refine Re rfl ?_
  refine thenQ_n ?_
  refine Wcond rfl rfl (fun hc2 => absurd hc2 (by simp; omega)) (fun hc2 => ?_)
  refine W_skip rfl ?_
  refine thenQ_n ?_
  refine W_seq rfl ?_
  refine W_seq rfl ?_
  refine W_reg rfl ?_
  refine Rv rfl rfl rfl (U_move rfl) rfl rfl ?_
  refine Rv rfl rfl rfl (U_neq rfl rfl) rfl rfl ?_
  refine Re rfl ?_
  refine thenQ_n ?_
  refine WcondP rfl rfl (fun _ => ?_) (fun h => absurd (by decide) h)
  refine W_seq rfl ?_
  refine W_reg rfl ?_
  refine Rv rfl rfl rfl (U_load3 rfl rfl rfl rfl rfl) rfl rfl ?_
  refine Rv rfl rfl rfl (U_move rfl) rfl rfl ?_
  refine Rv rfl rfl rfl (U_move rfl) rfl rfl ?_
  refine Rv rfl rfl rfl (U_call rfl rfl (of_g H Z ls c hc hv p.2 p.1 (by omega) (by omega)) rfl) rfl rfl ?_
  refine Rv rfl rfl rfl (U_move rfl) rfl rfl ?_
  refine Rv rfl rfl rfl (U_extract rfl rfl) rfl rfl ?_
  refine Rv rfl rfl rfl (U_extract rfl rfl) rfl rfl ?_
  refine Rv rfl rfl rfl (U_assign rfl) rfl rfl ?_
  refine Rv rfl rfl rfl (U_assign rfl) rfl rfl ?_
  refine Re rfl ?_
  refine thenQ_n ?_
  refine W_seq rfl ?_
  refine Wjoin ⟨[(1, .rop [i64 ((H : Nat) : Int), i64 ((Z : Nat) : Int), .ros (ls.map boxesL) ls.length c] 0), (3, i64 ((szsQ Z H ls : Nat) : Int)), (5, i64 19), (91, .bool ((decide ((((ofQ ls H p.1 p.2 ls.length).length : Nat) : Int) ≠ ((cntQ ls H p : Nat) : Int))) || (decide (((cntQ ls H p : Nat) : Int) = 1))))], [], 0, []⟩ ?_ ?_
  · refine W_reg rfl ?_
    refine Rv rfl rfl rfl (U_move rfl) rfl rfl ?_
    refine Rv rfl rfl rfl (U_neq rfl rfl) rfl rfl ?_
    refine Rv rfl rfl rfl (U_move rfl) rfl rfl ?_
    refine Rv rfl rfl rfl (U_move rfl) rfl rfl ?_
    refine Rv rfl rfl rfl (U_lenOf rfl len_ros) rfl rfl ?_
    refine Rv rfl rfl rfl (U_move rfl) rfl rfl ?_
    refine Rv rfl rfl rfl (U_neq rfl rfl) rfl rfl ?_
    refine Rv rfl rfl rfl (U_pick_f rfl rfl) rfl rfl ?_
    refine Rv rfl rfl rfl (U_move rfl) rfl rfl ?_
    refine Rsplit (t := 88) rfl (fun hg1 => ?_) (fun hg1 => ?_)
    · rw [hg1]
      have hg1' : (((ofQ ls H p.1 p.2 ls.length).length : Nat) : Int) ≠ ((cntQ ls H p : Nat) : Int) := of_decide_eq_true hg1
      refine Rs rfl rfl rfl rfl rfl ?_
      refine Rs rfl rfl rfl rfl rfl ?_
      refine Rv rfl rfl rfl (U_pick_t rfl rfl) rfl rfl ?_
      refine Re rfl ?_
      exact joinTo id ⟨eD rfl rfl, eD rfl rfl, eD rfl rfl, eD rfl rfl, trivial⟩ trivial rfl rfl rfl rfl (fun _ _ => rfl)
    · rw [hg1]
      have hg1' : ¬ ((((ofQ ls H p.1 p.2 ls.length).length : Nat) : Int) ≠ ((cntQ ls H p : Nat) : Int)) := of_decide_eq_false hg1
      refine Rv rfl rfl rfl (U_move rfl) rfl rfl ?_
      refine Rv rfl rfl rfl (U_eql rfl rfl) rfl rfl ?_
      refine Rv rfl rfl rfl (U_pick_f rfl rfl) rfl rfl ?_
      refine Re rfl ?_
      exact joinTo id ⟨eD rfl rfl, eD rfl rfl, eD rfl rfl, eD rfl rfl, trivial⟩ trivial rfl rfl rfl rfl (fun _ _ => rfl)
  refine thenQ_n ?_
  refine Wcond rfl rfl (fun hc4 => absurd hc4 (by simp; omega)) (fun hc4 => ?_)
  refine W_skip rfl ?_
  refine thenQ_n ?_
  refine W_seq rfl ?_
  refine W_reg rfl ?_
  refine Rv rfl rfl rfl (U_assign rfl) rfl rfl ?_
  refine Rv rfl rfl rfl (U_assign rfl) rfl rfl ?_
  refine Re rfl ?_
  refine thenQ_n ?_
  refine W_seq rfl ?_
  refine W_seq rfl ?_
  refine W_reg rfl ?_
  refine Rv rfl rfl rfl (U_assign rfl) rfl rfl ?_
  refine Re rfl ?_
  refine thenQ_n ?_
  refine W_block rfl ?_
  refine LoopTo (T' := [(1, .rop [i64 ((H : Nat) : Int), i64 ((Z : Nat) : Int), .ros (ls.map boxesL) ls.length c] 0), (3, i64 ((szsQ Z H ls : Nat) : Int)), (5, i64 19), (12, i64 ((0 : Nat) : Int)), (13, i64 ((0 : Nat) : Int)), (14, i64 ((0 : Nat) : Int))]) (H' := []) (n := 0) rfl (fun mz_ qz_ => ∃ (i : Nat) (m : Nat) (n : Nat), i ≤ H * Z ∧ m = cpK Z H (nonP ls H) i ∧ n = cpK Z H (sevP ls H) i ∧ mz_ = H * Z - i ∧ qz_ = ⟨[(1, .rop [i64 ((H : Nat) : Int), i64 ((Z : Nat) : Int), .ros (ls.map boxesL) ls.length c] 0), (3, i64 ((szsQ Z H ls : Nat) : Int)), (5, i64 19), (12, i64 ((m : Nat) : Int)), (13, i64 ((n : Nat) : Int)), (14, i64 ((i : Nat) : Int))], [], 0, []⟩) ⟨0, 0, 0, (by omega), rfl, rfl, rfl, rfl⟩ id ⟨eD rfl rfl, eD rfl rfl, eD rfl rfl, eD rfl rfl, eD rfl rfl, eD rfl rfl, trivial⟩ trivial rfl rfl rfl rfl (fun _ _ => rfl) ?_
  rintro _ _ ⟨i, m, n, hi0_0, hi0_1, hi0_2, rfl, rfl⟩
  have hck1 := cpK_le (Z := Z) (H := H) (k := i) (p := nonP ls H)
  have hck2 := cpK_le (Z := Z) (H := H) (k := i) (p := sevP ls H)
  refine W_seq rfl ?_
  refine W_seq rfl ?_
  refine W_reg rfl ?_
  refine Rv rfl rfl rfl (U_move rfl) rfl rfl ?_
  refine Rv rfl rfl rfl (U_fieldAddrR rfl) rfl rfl ?_
  refine Rv rfl rfl rfl (U_load1 rfl rfl rfl) rfl rfl ?_
  refine Rv rfl rfl rfl (U_fieldAddrR rfl) rfl rfl ?_
  refine Rv rfl rfl rfl (U_load1 rfl rfl rfl) rfl rfl ?_
  refine Rv rfl rfl rfl (U_mul rfl rfl (w64 (by omega) (by omega))) rfl rfl ?_
  refine Rv rfl rfl rfl (U_lss rfl rfl) rfl rfl ?_
  refine Re rfl ?_
  refine thenQ_n ?_
  refine WcondP rfl rfl (fun hc5 => ?_) (fun hc5 => ?_)
  · have hdv : i / H < Z := Nat.div_lt_of_lt_mul (by omega)
    have hmd : i % H < H := Nat.mod_lt _ (by omega)
    have hcq : cntQ ls H (i / H, i % H) = (ofQ ls H (i / H) (i % H) ls.length).length := rfl
    have hol := ofQ_len (ls := ls) (H := H) (z := i / H) (h := i % H) (k := ls.length)
    refine W_skip rfl ?_
    refine thenQ_n ?_
    refine W_seq rfl ?_
    refine W_block rfl ?_
    refine W_seq rfl ?_
    refine Wdraw rfl (by kernel_rfl) (by kernel_rfl) ?_
    refine Dv rfl rfl rfl (U_load3 rfl rfl rfl rfl rfl) rfl rfl ?_
    refine Dv rfl rfl rfl (U_move rfl) rfl rfl ?_
    refine Dv rfl rfl rfl (U_fieldAddrR rfl) rfl rfl ?_
    refine Dv rfl rfl rfl (U_load1 rfl rfl rfl) rfl rfl ?_
    refine Dv rfl rfl rfl (U_rem (c := ((i % H : Nat) : Int)) rfl rfl (by omega) (tmodN _ _)) rfl rfl ?_
    refine Dv rfl rfl rfl (U_move rfl) rfl rfl ?_
    refine Dv rfl rfl rfl (U_fieldAddrR rfl) rfl rfl ?_
    refine Dv rfl rfl rfl (U_load1 rfl rfl rfl) rfl rfl ?_
    refine Dv rfl rfl rfl (U_quo (c := ((i / H : Nat) : Int)) rfl rfl (by omega) (wquoN (by omega))) rfl rfl ?_
    refine Dv rfl rfl rfl (U_call rfl rfl (of_g H Z ls c hc hv (i % H) (i / H) (by omega) (by omega)) rfl) rfl rfl ?_
    refine Dv rfl rfl rfl (U_move rfl) rfl rfl ?_
    refine Dv rfl rfl rfl (U_extract rfl rfl) rfl rfl ?_
    refine Dv rfl rfl rfl (U_extract rfl rfl) rfl rfl ?_
    refine Dv rfl rfl rfl (U_assign rfl) rfl rfl ?_
    refine Dv rfl rfl rfl (U_assign rfl) rfl rfl ?_
    refine Dr.nil rfl ?_
    refine thenQ_n ?_
    refine W_seq rfl ?_
    refine W_seq rfl ?_
    refine W_reg rfl ?_
    refine Rv rfl rfl rfl (U_move rfl) rfl rfl ?_
    refine Rv rfl rfl rfl (U_neq rfl rfl) rfl rfl ?_
    refine Rv rfl rfl rfl (U_move rfl) rfl rfl ?_
    refine Rv rfl rfl rfl (U_move rfl) rfl rfl ?_
    refine Rv rfl rfl rfl (U_lenOf rfl len_ros) rfl rfl ?_
    refine Rv rfl rfl rfl (U_fieldAddrR rfl) rfl rfl ?_
    refine Rv rfl rfl rfl (U_load1 rfl rfl rfl) rfl rfl ?_
    refine Rv rfl rfl rfl (U_lenOf rfl len_ros) rfl rfl ?_
    refine Rv rfl rfl rfl (U_gtr rfl rfl) rfl rfl ?_
    refine Rv rfl rfl rfl (U_pick_f rfl rfl) rfl rfl ?_
    refine Re rfl ?_
    refine thenQ_n ?_
    refine WcondP rfl rfl (fun hc6 => absurd hc6 (by simp; omega)) (fun hc6 => ?_)
    refine W_skip rfl ?_
    refine thenQ_n ?_
    refine W_seq rfl ?_
    refine W_seq rfl ?_
    refine W_reg rfl ?_
    refine Rv rfl rfl rfl (U_move rfl) rfl rfl ?_
    refine Rv rfl rfl rfl (U_lenOf rfl len_ros) rfl rfl ?_
    refine Rv rfl rfl rfl (U_eql rfl rfl) rfl rfl ?_
    refine Re rfl ?_
    refine thenQ_n ?_
    refine WcondP rfl rfl (fun hc7 => ?_) (fun hc7 => ?_)
    · refine W_reg rfl ?_
      refine Rv rfl rfl rfl (U_move rfl) rfl rfl ?_
      refine Rv rfl rfl rfl (U_add rfl rfl (w64e (m := ((m + 1 : Nat) : Int)) (by omega) (by omega) (by omega))) rfl rfl ?_
      refine Rv rfl rfl rfl (U_assign rfl) rfl rfl ?_
      refine Re rfl ?_
      refine thenQ_n ?_
      refine W_seq rfl ?_
      refine W_reg rfl ?_
      refine Rv rfl rfl rfl (U_move rfl) rfl rfl ?_
      refine Rv rfl rfl rfl (U_lenOf rfl len_ros) rfl rfl ?_
      refine Rv rfl rfl rfl (U_gtr rfl rfl) rfl rfl ?_
      refine Re rfl ?_
      refine thenQ_n ?_
      refine WcondP rfl rfl (fun hc8 => ?_) (fun hc8 => ?_)
      · refine W_reg rfl ?_
        refine Rv rfl rfl rfl (U_move rfl) rfl rfl ?_
        refine Rv rfl rfl rfl (U_add rfl rfl (w64e (m := ((n + 1 : Nat) : Int)) (by omega) (by omega) (by omega))) rfl rfl ?_
        refine Rv rfl rfl rfl (U_assign rfl) rfl rfl ?_
        refine Re rfl ?_
        refine blkQ_n ?_
        refine thenQ_n ?_
        refine W_reg rfl ?_
        refine Rv rfl rfl rfl (U_move rfl) rfl rfl ?_
        refine Rv rfl rfl rfl (U_add rfl rfl (w64e (m := ((i + 1 : Nat) : Int)) (by omega) (by omega) (by omega))) rfl rfl ?_
        refine Rv rfl rfl rfl (U_assign rfl) rfl rfl ?_
        refine Re rfl ?_
        refine thenQ_n ?_
        exact againTo (T' := [(1, .rop [i64 ((H : Nat) : Int), i64 ((Z : Nat) : Int), .ros (ls.map boxesL) ls.length c] 0), (3, i64 ((szsQ Z H ls : Nat) : Int)), (5, i64 19), (12, i64 (((m + 1) : Nat) : Int)), (13, i64 (((n + 1) : Nat) : Int)), (14, i64 (((i + 1) : Nat) : Int))]) (H' := []) (n := 0) (H * Z - (i + 1)) ⟨i + 1, m + 1, n + 1, (by omega), (by first | (rw [cpK_t (show nonP ls H (i / H, i % H) = true from decide_eq_true (by omega)), ← hi0_1]) | (rw [cpK_f (show ¬ nonP ls H (i / H, i % H) = true from fun h => by have := of_decide_eq_true h; omega)]; exact hi0_1)), (by first | (rw [cpK_t (show sevP ls H (i / H, i % H) = true from decide_eq_true (by omega)), ← hi0_2]) | (rw [cpK_f (show ¬ sevP ls H (i / H, i % H) = true from fun h => by have := of_decide_eq_true h; omega)]; exact hi0_2)), rfl, rfl⟩ (by omega) id ⟨eD rfl rfl, eD rfl rfl, eD rfl rfl, eD rfl rfl, eD rfl rfl, eD rfl rfl, trivial⟩ trivial rfl rfl rfl rfl (fun _ _ => rfl)
      · refine W_skip rfl ?_
        refine blkQ_n ?_
        refine thenQ_n ?_
        refine W_reg rfl ?_
        refine Rv rfl rfl rfl (U_move rfl) rfl rfl ?_
        refine Rv rfl rfl rfl (U_add rfl rfl (w64e (m := ((i + 1 : Nat) : Int)) (by omega) (by omega) (by omega))) rfl rfl ?_
        refine Rv rfl rfl rfl (U_assign rfl) rfl rfl ?_
        refine Re rfl ?_
        refine thenQ_n ?_
        exact againTo (T' := [(1, .rop [i64 ((H : Nat) : Int), i64 ((Z : Nat) : Int), .ros (ls.map boxesL) ls.length c] 0), (3, i64 ((szsQ Z H ls : Nat) : Int)), (5, i64 19), (12, i64 (((m + 1) : Nat) : Int)), (13, i64 ((n : Nat) : Int)), (14, i64 (((i + 1) : Nat) : Int))]) (H' := []) (n := 0) (H * Z - (i + 1)) ⟨i + 1, m + 1, n, (by omega), (by first | (rw [cpK_t (show nonP ls H (i / H, i % H) = true from decide_eq_true (by omega)), ← hi0_1]) | (rw [cpK_f (show ¬ nonP ls H (i / H, i % H) = true from fun h => by have := of_decide_eq_true h; omega)]; exact hi0_1)), (by first | (rw [cpK_t (show sevP ls H (i / H, i % H) = true from decide_eq_true (by omega)), ← hi0_2]) | (rw [cpK_f (show ¬ sevP ls H (i / H, i % H) = true from fun h => by have := of_decide_eq_true h; omega)]; exact hi0_2)), rfl, rfl⟩ (by omega) id ⟨eD rfl rfl, eD rfl rfl, eD rfl rfl, eD rfl rfl, eD rfl rfl, eD rfl rfl, trivial⟩ trivial rfl rfl rfl rfl (fun _ _ => rfl)
    · refine W_skip rfl ?_
      refine thenQ_n ?_
      refine W_seq rfl ?_
      refine W_reg rfl ?_
      refine Rv rfl rfl rfl (U_move rfl) rfl rfl ?_
      refine Rv rfl rfl rfl (U_lenOf rfl len_ros) rfl rfl ?_
      refine Rv rfl rfl rfl (U_gtr rfl rfl) rfl rfl ?_
      refine Re rfl ?_
      refine thenQ_n ?_
      refine WcondP rfl rfl (fun hc8 => ?_) (fun hc8 => ?_)
      · refine W_reg rfl ?_
        refine Rv rfl rfl rfl (U_move rfl) rfl rfl ?_
        refine Rv rfl rfl rfl (U_add rfl rfl (w64e (m := ((n + 1 : Nat) : Int)) (by omega) (by omega) (by omega))) rfl rfl ?_
        refine Rv rfl rfl rfl (U_assign rfl) rfl rfl ?_
        refine Re rfl ?_
        refine blkQ_n ?_
        refine thenQ_n ?_
        refine W_reg rfl ?_
        refine Rv rfl rfl rfl (U_move rfl) rfl rfl ?_
        refine Rv rfl rfl rfl (U_add rfl rfl (w64e (m := ((i + 1 : Nat) : Int)) (by omega) (by omega) (by omega))) rfl rfl ?_
        refine Rv rfl rfl rfl (U_assign rfl) rfl rfl ?_
        refine Re rfl ?_
        refine thenQ_n ?_
        exact againTo (T' := [(1, .rop [i64 ((H : Nat) : Int), i64 ((Z : Nat) : Int), .ros (ls.map boxesL) ls.length c] 0), (3, i64 ((szsQ Z H ls : Nat) : Int)), (5, i64 19), (12, i64 ((m : Nat) : Int)), (13, i64 (((n + 1) : Nat) : Int)), (14, i64 (((i + 1) : Nat) : Int))]) (H' := []) (n := 0) (H * Z - (i + 1)) ⟨i + 1, m, n + 1, (by omega), (by first | (rw [cpK_t (show nonP ls H (i / H, i % H) = true from decide_eq_true (by omega)), ← hi0_1]) | (rw [cpK_f (show ¬ nonP ls H (i / H, i % H) = true from fun h => by have := of_decide_eq_true h; omega)]; exact hi0_1)), (by first | (rw [cpK_t (show sevP ls H (i / H, i % H) = true from decide_eq_true (by omega)), ← hi0_2]) | (rw [cpK_f (show ¬ sevP ls H (i / H, i % H) = true from fun h => by have := of_decide_eq_true h; omega)]; exact hi0_2)), rfl, rfl⟩ (by omega) id ⟨eD rfl rfl, eD rfl rfl, eD rfl rfl, eD rfl rfl, eD rfl rfl, eD rfl rfl, trivial⟩ trivial rfl rfl rfl rfl (fun _ _ => rfl)
      · refine W_skip rfl ?_
        refine blkQ_n ?_
        refine thenQ_n ?_
        refine W_reg rfl ?_
        refine Rv rfl rfl rfl (U_move rfl) rfl rfl ?_
        refine Rv rfl rfl rfl (U_add rfl rfl (w64e (m := ((i + 1 : Nat) : Int)) (by omega) (by omega) (by omega))) rfl rfl ?_
        refine Rv rfl rfl rfl (U_assign rfl) rfl rfl ?_
        refine Re rfl ?_
        refine thenQ_n ?_
        exact againTo (T' := [(1, .rop [i64 ((H : Nat) : Int), i64 ((Z : Nat) : Int), .ros (ls.map boxesL) ls.length c] 0), (3, i64 ((szsQ Z H ls : Nat) : Int)), (5, i64 19), (12, i64 ((m : Nat) : Int)), (13, i64 ((n : Nat) : Int)), (14, i64 (((i + 1) : Nat) : Int))]) (H' := []) (n := 0) (H * Z - (i + 1)) ⟨i + 1, m, n, (by omega), (by first | (rw [cpK_t (show nonP ls H (i / H, i % H) = true from decide_eq_true (by omega)), ← hi0_1]) | (rw [cpK_f (show ¬ nonP ls H (i / H, i % H) = true from fun h => by have := of_decide_eq_true h; omega)]; exact hi0_1)), (by first | (rw [cpK_t (show sevP ls H (i / H, i % H) = true from decide_eq_true (by omega)), ← hi0_2]) | (rw [cpK_f (show ¬ sevP ls H (i / H, i % H) = true from fun h => by have := of_decide_eq_true h; omega)]; exact hi0_2)), rfl, rfl⟩ (by omega) id ⟨eD rfl rfl, eD rfl rfl, eD rfl rfl, eD rfl rfl, eD rfl rfl, eD rfl rfl, trivial⟩ trivial rfl rfl rfl rfl (fun _ _ => rfl)
  · have hiZ : i = Z * H := by omega
    have hm0 : m = cpK Z H (nonP ls H) (Z * H) := by rw [hi0_1, hiZ]
    have hs0 : n = cpK Z H (sevP ls H) (Z * H) := by rw [hi0_2, hiZ]
    refine W_exit rfl ?_
    refine thenQ_x ?_
    refine thenQ_x ?_
    refine blkQ_x rfl ?_
    refine thenQ_n ?_
    refine W_seq rfl ?_
    refine Wjoin ⟨[(2, .bool ((decide ((decide ((19 : Int) = 0)) = (decide (((m + n : Nat) : Int) = 0)))) && ((decide (0 < ((n : Nat) : Int))) || (decide (((szsQ Z H ls : Nat) : Int) = ((((H : Nat) : Int) * ((Z : Nat) : Int)) - ((m : Nat) : Int)))))))], [], 0, []⟩ ?_ ?_
    · refine W_reg rfl ?_
      refine Rv rfl rfl rfl (U_move rfl) rfl rfl ?_
      refine Rv rfl rfl rfl (U_eql rfl rfl) rfl rfl ?_
      refine Rv rfl rfl rfl (U_move rfl) rfl rfl ?_
      refine Rv rfl rfl rfl (U_move rfl) rfl rfl ?_
      refine Rv rfl rfl rfl (U_add rfl rfl (w64e (m := ((m + n : Nat) : Int)) (by omega) (by omega) (by omega))) rfl rfl ?_
      refine Rv rfl rfl rfl (U_eql rfl rfl) rfl rfl ?_
      refine Rv rfl rfl rfl (U_eqlB rfl rfl) rfl rfl ?_
      refine Rv rfl rfl rfl (U_move rfl) rfl rfl ?_
      refine Rsplit (t := 141) rfl (fun hg2 => ?_) (fun hg2 => ?_)
      · rw [hg2]
        have hg2' : (decide ((19 : Int) = 0)) = (decide (((m + n : Nat) : Int) = 0)) := of_decide_eq_true hg2
        refine Rv rfl rfl rfl (U_move rfl) rfl rfl ?_
        refine Rv rfl rfl rfl (U_gtr rfl rfl) rfl rfl ?_
        refine Rv rfl rfl rfl (U_move rfl) rfl rfl ?_
        refine Rsplit (t := 144) rfl (fun hg3 => ?_) (fun hg3 => ?_)
        · rw [hg3]
          have hg3' : 0 < ((n : Nat) : Int) := of_decide_eq_true hg3
          refine Rs rfl rfl rfl rfl rfl ?_
          refine Rs rfl rfl rfl rfl rfl ?_
          refine Rs rfl rfl rfl rfl rfl ?_
          refine Rs rfl rfl rfl rfl rfl ?_
          refine Rs rfl rfl rfl rfl rfl ?_
          refine Rs rfl rfl rfl rfl rfl ?_
          refine Rs rfl rfl rfl rfl rfl ?_
          refine Rs rfl rfl rfl rfl rfl ?_
          refine Rs rfl rfl rfl rfl rfl ?_
          refine Rv rfl rfl rfl (U_pick_t rfl rfl) rfl rfl ?_
          refine Rv rfl rfl rfl (U_pick_t rfl rfl) rfl rfl ?_
          refine Rv rfl rfl rfl (U_move rfl) rfl rfl ?_
          refine Rv rfl rfl rfl (U_call rfl rfl (works_p) rfl) rfl rfl ?_
          refine Rv rfl rfl rfl (U_pick_t rfl rfl) rfl rfl ?_
          refine Rv rfl rfl rfl (U_assign rfl) rfl rfl ?_
          refine Re rfl ?_
          exact joinTo id ⟨eD rfl rfl, trivial⟩ trivial rfl rfl rfl rfl (fun _ _ => rfl)
        · rw [hg3]
          have hg3' : ¬ (0 < ((n : Nat) : Int)) := of_decide_eq_false hg3
          refine Rv rfl rfl rfl (U_move rfl) rfl rfl ?_
          refine Rv rfl rfl rfl (U_fieldAddrR rfl) rfl rfl ?_
          refine Rv rfl rfl rfl (U_load1 rfl rfl rfl) rfl rfl ?_
          refine Rv rfl rfl rfl (U_fieldAddrR rfl) rfl rfl ?_
          refine Rv rfl rfl rfl (U_load1 rfl rfl rfl) rfl rfl ?_
          refine Rv rfl rfl rfl (U_mul rfl rfl (w64 (by omega) (by omega))) rfl rfl ?_
          refine Rv rfl rfl rfl (U_move rfl) rfl rfl ?_
          refine Rv rfl rfl rfl (U_sub rfl rfl (w64 (by omega) (by omega))) rfl rfl ?_
          refine Rv rfl rfl rfl (U_eql rfl rfl) rfl rfl ?_
          refine Rv rfl rfl rfl (U_pick_f rfl rfl) rfl rfl ?_
          refine Rv rfl rfl rfl (U_pick_t rfl rfl) rfl rfl ?_
          refine Rv rfl rfl rfl (U_move rfl) rfl rfl ?_
          refine Rsplit (t := 156) rfl (fun hg4 => ?_) (fun hg4 => ?_)
          · rw [hg4]
            have hg4' : ((szsQ Z H ls : Nat) : Int) = ((((H : Nat) : Int) * ((Z : Nat) : Int)) - ((m : Nat) : Int)) := of_decide_eq_true hg4
            refine Rv rfl rfl rfl (U_call rfl rfl (works_p) rfl) rfl rfl ?_
            refine Rv rfl rfl rfl (U_pick_t rfl rfl) rfl rfl ?_
            refine Rv rfl rfl rfl (U_assign rfl) rfl rfl ?_
            refine Re rfl ?_
            exact joinTo id ⟨eD rfl rfl, trivial⟩ trivial rfl rfl rfl rfl (fun _ _ => rfl)
          · rw [hg4]
            have hg4' : ¬ (((szsQ Z H ls : Nat) : Int) = ((((H : Nat) : Int) * ((Z : Nat) : Int)) - ((m : Nat) : Int))) := of_decide_eq_false hg4
            refine Rs rfl rfl rfl rfl rfl ?_
            refine Rv rfl rfl rfl (U_pick_f rfl rfl) rfl rfl ?_
            refine Rv rfl rfl rfl (U_assign rfl) rfl rfl ?_
            refine Re rfl ?_
            exact joinTo id ⟨eD rfl rfl, trivial⟩ trivial rfl rfl rfl rfl (fun _ _ => rfl)
      · rw [hg2]
        have hg2' : ¬ ((decide ((19 : Int) = 0)) = (decide (((m + n : Nat) : Int) = 0))) := of_decide_eq_false hg2
        refine Rs rfl rfl rfl rfl rfl ?_
        refine Rs rfl rfl rfl rfl rfl ?_
        refine Rs rfl rfl rfl rfl rfl ?_
        refine Rs rfl rfl rfl rfl rfl ?_
        refine Rs rfl rfl rfl rfl rfl ?_
        refine Rs rfl rfl rfl rfl rfl ?_
        refine Rs rfl rfl rfl rfl rfl ?_
        refine Rs rfl rfl rfl rfl rfl ?_
        refine Rs rfl rfl rfl rfl rfl ?_
        refine Rs rfl rfl rfl rfl rfl ?_
        refine Rs rfl rfl rfl rfl rfl ?_
        refine Rs rfl rfl rfl rfl rfl ?_
        refine Rs rfl rfl rfl rfl rfl ?_
        refine Rv rfl rfl rfl (U_pick_f rfl rfl) rfl rfl ?_
        refine Rv rfl rfl rfl (U_move rfl) rfl rfl ?_
        refine Rs rfl rfl rfl rfl rfl ?_
        refine Rv rfl rfl rfl (U_pick_f rfl rfl) rfl rfl ?_
        refine Rv rfl rfl rfl (U_assign rfl) rfl rfl ?_
        refine Re rfl ?_
        exact joinTo id ⟨eD rfl rfl, trivial⟩ trivial rfl rfl rfl rfl (fun _ _ => rfl)
    refine thenQ_n ?_
    refine W_ret rfl ?_
    exact retL (rlT rfl rl0) (by first | rfl | (simp only [packA]; simp; omega; first | done | rfl)) rfl
theorem borderOnceF_p (s : Sk) (c : Option Nat) (hf : (!grt s && decide (chkS s = 0)) = false)  : Pure Try.prog 7 [.agg [i64 s.h, i64 s.z, landsA s.ls c]] (.bool true) := by
  refine pure_of_body Try.func7 (c := body Try.f7) rfl (by simp [Try.ntmps7]) fun w0 Φ0 => ?_
  refine W_seq rfl ?_
  refine W_reg rfl ?_
  refine Rv rfl rfl rfl (U_boxF rfl rfl rfl) rfl rfl ?_
  refine Rv rfl rfl rfl (U_assign rfl) rfl rfl ?_
  refine Re rfl ?_
  refine thenQ_n ?_
  refine W_seq rfl ?_
  refine W_seq rfl ?_
  refine W_reg rfl ?_
  refine Rv rfl rfl rfl (U_load3 rfl rfl rfl rfl rfl) rfl rfl ?_
  refine Rv rfl rfl rfl (U_call rfl rfl (fineF_p s c hf) rfl) rfl rfl ?_
  refine Rv rfl rfl rfl (U_not rfl) rfl rfl ?_
  refine Re rfl ?_
  refine thenQ_n ?_
  refine Wcond rfl rfl (fun _ => ?_) (fun h => nomatch h)
  refine W_seq rfl ?_
  refine W_reg rfl ?_
  refine Rv rfl rfl rfl (U_call rfl rfl (works_p) rfl) rfl rfl ?_
  refine Rv rfl rfl rfl (U_assign rfl) rfl rfl ?_
  refine Re rfl ?_
  refine thenQ_n ?_
  refine W_ret rfl ?_
  refine thenQ_r ?_
  exact retL (rlT rfl rl0) rfl rfl
theorem borderOnce_p (s : Sk) (c : Option Nat)  : Pure Try.prog 7 [.agg [i64 s.h, i64 s.z, landsA s.ls c]] (.bool true) := by
  cases hf : (!grt s && decide (chkS s = 0)) with
  | false => exact borderOnceF_p s c hf 
  | true =>
    simp only [Bool.and_eq_true, Bool.not_eq_true', decide_eq_true_eq] at hf
    obtain ⟨H, Z, ls, rfl, hv⟩ := sk_ok hf.2
    have hc := hf.2
    have hg := hf.1
    cases hn : fltQ Z H ls with
    | none => exact borderOnce1_p H Z ls c hc hv hg hn
    | some p => exact borderOnce2_p H Z ls c hc hv hg p hn
end Go.Proofs.Ythlolelbmhfdbaa
end
