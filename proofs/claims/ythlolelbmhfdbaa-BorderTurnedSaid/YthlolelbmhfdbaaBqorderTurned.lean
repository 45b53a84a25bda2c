import Derived.ChangeKeysEq
import Derived.WideKeyRuns
import Derived.WalkSpells
import Derived.Test.YthlolelbmhfdbaaM5
set_option linter.all false
section
namespace Go.AE
open Go.RowKit
section
variable {ρ : Env} {Φ : Fz} {w : World}
end
section
variable {C : Ctx} {o : Oper} {T : AT} {H : AH} {nx nx' : Nat} {v : AV} {ups : AH}
end
section ops
variable {C : Ctx} {T : AT} {H : AH} {nx : Nat} {d : Option Tmp} {ty : TypeId} {pos : String} {after : Array Edge} {g : Option (Nat × Bool)}
section num
variable {x y : Operand} {k : IntKind} {a b c : Int} {t t' : TypeId}
theorem U_mul (hx : ev T x = some (.int k a)) (hy : ev T y = some (.int k b)) (hc : k.wrap (a * b) = c) : OpU C ⟨d, .binOp .mul t x y t', ty, pos, after, g⟩ T H nx (.int k c) [] nx :=
  binInt hx hy rfl (by simp) fun w => ⟨.int k c, by simp [binOp, Op.intArith, hc], fun _ _ => mk_int⟩
end num
end ops
end Go.AE
end

section
namespace Go.AE
open Go.RowKit
section
variable {C : Ctx} {ρ : Env} {Φ : Fz} {H : AH} {w : World}
end
section ops
variable {C : Ctx} {T : AT} {H : AH} {nx : Nat} {d : Option Tmp} {ty : TypeId} {pos : String} {after : Array Edge} {g : Option (Nat × Bool)}
theorem U_convInt {s t : TypeId} {x : Operand} {k k' : IntKind} {n m : Int} {dd : TypeDesc} [hT : TyInt C.P t k'] (hs : C.P.underlying s = some dd) (hx : ev T x = some (.int k n)) (hm : k'.wrap n = m) : OpU C ⟨d, .convert s t x, ty, pos, after, g⟩ T H nx (.int k' m) [] nx :=
  OpU.of_value (by intro c; simp) fun ρ Φ a w h2 _ => by
    refine ⟨.int k' m, ?_, mk_int⟩
    simp only [execOp, convert, con_int (ev_con h2 hx), Sem.run_bind, run_underlying hs, run_underlying hT.un, Result.andThen_ok, Conv.intToInt, hm, Sem.run_pure]
end ops
end Go.AE
end

section
namespace Go.AE
open Go.RowKit
section
variable {P : Program}
end
section ops
variable {C : Ctx} {T : AT} {H : AH} {nx : Nat} {d : Option Tmp} {ty : TypeId} {pos : String} {after : Array Edge} {g : Option (Nat × Bool)}
theorem U_eqlB {t t' : TypeId} {x y : Operand} {a b : Bool} [hT : TyBool C.P t] (hx : ev T x = some (.bool a)) (hy : ev T y = some (.bool b)) : OpU C ⟨d, .binOp .eql t x y t', ty, pos, after, g⟩ T H nx (.bool (decide (a = b))) [] nx :=
  OpU.of_value (by intro c; simp) fun ρ Φ ac w h2 _ => ⟨.bool (decide (a = b)), by
    simp [execOp, con_bool (ev_con h2 hx), con_bool (ev_con h2 hy), eqGuard, binOp, Op.equal, Op.maxDepth, run_equalIn_bool w 9999 t a b hT.un]
    cases a <;> cases b <;> rfl, mk_bool⟩
end ops
section
variable {P : Program} {w0 : World} {Φ0 : Fz} {nt : Nat} {T : AT} {H : AH} {nx : Nat}
end
end Go.AE
end

section
namespace Go.AE
open Go.RowKit
theorem wr_i64 {n : Int} (h1 : -9223372036854775808 ≤ n) (h2 : n ≤ 9223372036854775807) : IntKind.i64.wrap n = n := w64 h1 h2
section
variable {P : Program} {T : AT} {H : AH} {nx : Nat}
end
section ops
variable {C : Ctx} {T : AT} {H : AH} {nx : Nat} {d : Option Tmp} {ty : TypeId} {pos : String} {after : Array Edge} {g : Option (Nat × Bool)}
end ops
end Go.AE
end

section
namespace Go.AE
open Go.RowKit
section
variable {C : Ctx} {T : AT} {H : AH} {nx : Nat} {d : Option Tmp} {ty : TypeId} {pos : String} {after : Array Edge} {g : Option (Nat × Bool)}
theorem U_eqlS {t t' : TypeId} {x y : Operand} {k : IntKind} {a : Int} (hx : ev T x = some (.int k a)) (hy : ev T y = some (.int k a)) : OpU C ⟨d, .binOp .eql t x y t', ty, pos, after, g⟩ T H nx (.bool true) [] nx := by
  have h := U_eql (C := C) (t := t) (t' := t') (d := d) (ty := ty) (pos := pos) (after := after) (g := g) (H := H) (nx := nx) hx hy
  rwa [decide_eq_true rfl] at h
theorem U_neqS {t t' : TypeId} {x y : Operand} {k : IntKind} {a : Int} (hx : ev T x = some (.int k a)) (hy : ev T y = some (.int k a)) : OpU C ⟨d, .binOp .neq t x y t', ty, pos, after, g⟩ T H nx (.bool false) [] nx := by
  have h := U_neq (C := C) (t := t) (t' := t') (d := d) (ty := ty) (pos := pos) (after := after) (g := g) (H := H) (nx := nx) hx hy
  rwa [decide_eq_false (fun k => k rfl)] at h
end
end Go.AE
end

section
namespace Go.Proofs.Ythlolelbmhfdbaa
set_option maxRecDepth 20000
open Go.AE
theorem any_false {α : Type} {p : α → Bool} {l : List α} (h : ∀ j (hj : j < l.length), p l[j] = false) : l.any p = false := by
  rw [List.any_eq_false]; intro x hx; obtain ⟨j, hj, rfl⟩ := List.getElem_of_mem hx; rw [h j hj]; simp
end Go.Proofs.Ythlolelbmhfdbaa
end

section
namespace Go.Proofs.Ythlolelbmhfdbaa
set_option maxRecDepth 20000
open Go.AE
theorem any_f {α : Type} {p : α → Bool} {l : List α} (h : ∀ j (hj : j < l.length), p l[j] = false) : l.any p = false := any_false h
theorem bef_succ {α : Type} {p : α → Bool} {l : List α} {k : Nat} (h : ∀ j (hj : j < l.length), j < k → p l[j] = false) (hk : k < l.length) (hp : p l[k] = false) : ∀ j (hj : j < l.length), j < k + 1 → p l[j] = false := fun j hj h2 => by
  rcases Nat.lt_succ_iff_lt_or_eq.1 h2 with h2 | rfl
  · exact h j hj h2
  · exact hp
theorem isBR_p (b : Bx) (H Z : Int) (hH : 1 ≤ H ∧ H ≤ 48) (hZ : 1 ≤ Z ∧ Z ≤ 24) : Pure Try.prog 74 [bxA b, i64 H, i64 Z] (.bool (isB b H Z)) := by
  refine pure_of_body Try.func74 (c := body Try.f74) rfl (by simp [Try.ntmps74]) fun w0 Φ0 => ?_
  refine W_seq rfl ?_
  refine W_reg rfl ?_
  refine Rv rfl rfl rfl (U_boxF rfl rfl rfl) rfl rfl ?_
  refine Rv rfl rfl rfl (U_assign rfl) rfl rfl ?_
  refine Re rfl ?_
  refine thenQ_n ?_
  refine W_seq rfl ?_
  refine W_seq rfl ?_
  refine Wjoin ⟨[(2, i64 Z), (3, .rop [i64 b.fr, i64 b.wd, i64 b.lo, i64 b.hi] 0), (26, .bool ((decide (b.fr < 0)) || ((decide (H ≤ b.fr)) || ((decide (b.wd < 1)) || (decide (H < b.wd))))))], [], 0, []⟩ ?_ ?_
  · refine W_reg rfl ?_
    refine Rv rfl rfl rfl (U_fieldAddrR rfl) rfl rfl ?_
    refine Rv rfl rfl rfl (U_load1 rfl rfl rfl) rfl rfl ?_
    refine Rv rfl rfl rfl (U_lss rfl rfl) rfl rfl ?_
    refine Rv rfl rfl rfl (U_move rfl) rfl rfl ?_
    refine Rsplit (t := 10) rfl (fun hg1 => ?_) (fun hg1 => ?_)
    · rw [hg1]
      have hg1' : b.fr < 0 := of_decide_eq_true hg1
      refine Rs rfl rfl rfl rfl rfl ?_
      refine Rs rfl rfl rfl rfl rfl ?_
      refine Rs rfl rfl rfl rfl rfl ?_
      refine Rs rfl rfl rfl rfl rfl ?_
      refine Rv rfl rfl rfl (U_pick_t rfl rfl) rfl rfl ?_
      refine Rv rfl rfl rfl (U_move rfl) rfl rfl ?_
      refine Rs rfl rfl rfl rfl rfl ?_
      refine Rs rfl rfl rfl rfl rfl ?_
      refine Rs rfl rfl rfl rfl rfl ?_
      refine Rv rfl rfl rfl (U_pick_t rfl rfl) rfl rfl ?_
      refine Rv rfl rfl rfl (U_move rfl) rfl rfl ?_
      refine Rs rfl rfl rfl rfl rfl ?_
      refine Rs rfl rfl rfl rfl rfl ?_
      refine Rs rfl rfl rfl rfl rfl ?_
      refine Rs rfl rfl rfl rfl rfl ?_
      refine Rv rfl rfl rfl (U_pick_t rfl rfl) rfl rfl ?_
      refine Re rfl ?_
      exact joinTo id ⟨eD rfl rfl, eD rfl rfl, eD rfl rfl, trivial⟩ trivial rfl rfl rfl rfl (fun _ _ => rfl)
    · rw [hg1]
      have hg1' : ¬ (b.fr < 0) := of_decide_eq_false hg1
      refine Rv rfl rfl rfl (U_fieldAddrR rfl) rfl rfl ?_
      refine Rv rfl rfl rfl (U_load1 rfl rfl rfl) rfl rfl ?_
      refine Rv rfl rfl rfl (U_move rfl) rfl rfl ?_
      refine Rv rfl rfl rfl (U_geq rfl rfl) rfl rfl ?_
      refine Rv rfl rfl rfl (U_pick_f rfl rfl) rfl rfl ?_
      refine Rv rfl rfl rfl (U_move rfl) rfl rfl ?_
      refine Rsplit (t := 16) rfl (fun hg2 => ?_) (fun hg2 => ?_)
      · rw [hg2]
        have hg2' : H ≤ b.fr := of_decide_eq_true hg2
        refine Rs rfl rfl rfl rfl rfl ?_
        refine Rs rfl rfl rfl rfl rfl ?_
        refine Rs rfl rfl rfl rfl rfl ?_
        refine Rv rfl rfl rfl (U_pick_t rfl rfl) rfl rfl ?_
        refine Rv rfl rfl rfl (U_move rfl) rfl rfl ?_
        refine Rs rfl rfl rfl rfl rfl ?_
        refine Rs rfl rfl rfl rfl rfl ?_
        refine Rs rfl rfl rfl rfl rfl ?_
        refine Rs rfl rfl rfl rfl rfl ?_
        refine Rv rfl rfl rfl (U_pick_t rfl rfl) rfl rfl ?_
        refine Re rfl ?_
        exact joinTo id ⟨eD rfl rfl, eD rfl rfl, eD rfl rfl, trivial⟩ trivial rfl rfl rfl rfl (fun _ _ => rfl)
      · rw [hg2]
        have hg2' : ¬ (H ≤ b.fr) := of_decide_eq_false hg2
        refine Rv rfl rfl rfl (U_fieldAddrR rfl) rfl rfl ?_
        refine Rv rfl rfl rfl (U_load1 rfl rfl rfl) rfl rfl ?_
        refine Rv rfl rfl rfl (U_lss rfl rfl) rfl rfl ?_
        refine Rv rfl rfl rfl (U_pick_f rfl rfl) rfl rfl ?_
        refine Rv rfl rfl rfl (U_move rfl) rfl rfl ?_
        refine Rsplit (t := 21) rfl (fun hg3 => ?_) (fun hg3 => ?_)
        · rw [hg3]
          have hg3' : b.wd < 1 := of_decide_eq_true hg3
          refine Rs rfl rfl rfl rfl rfl ?_
          refine Rs rfl rfl rfl rfl rfl ?_
          refine Rs rfl rfl rfl rfl rfl ?_
          refine Rs rfl rfl rfl rfl rfl ?_
          refine Rv rfl rfl rfl (U_pick_t rfl rfl) rfl rfl ?_
          refine Re rfl ?_
          exact joinTo id ⟨eD rfl rfl, eD rfl rfl, eD rfl rfl, trivial⟩ trivial rfl rfl rfl rfl (fun _ _ => rfl)
        · rw [hg3]
          have hg3' : ¬ (b.wd < 1) := of_decide_eq_false hg3
          refine Rv rfl rfl rfl (U_fieldAddrR rfl) rfl rfl ?_
          refine Rv rfl rfl rfl (U_load1 rfl rfl rfl) rfl rfl ?_
          refine Rv rfl rfl rfl (U_move rfl) rfl rfl ?_
          refine Rv rfl rfl rfl (U_gtr rfl rfl) rfl rfl ?_
          refine Rv rfl rfl rfl (U_pick_f rfl rfl) rfl rfl ?_
          refine Re rfl ?_
          exact joinTo id ⟨eD rfl rfl, eD rfl rfl, eD rfl rfl, trivial⟩ trivial rfl rfl rfl rfl (fun _ _ => rfl)
  refine thenQ_n ?_
  refine Wcond rfl rfl (fun hc0 => ?_) (fun hc0 => ?_)
  · refine W_seq rfl ?_
    refine W_reg rfl ?_
    refine Rv rfl rfl rfl (U_assign rfl) rfl rfl ?_
    refine Re rfl ?_
    refine thenQ_n ?_
    refine W_ret rfl ?_
    refine thenQ_r ?_
    exact retL (rlT rfl rl0) (by first | rfl | (simp only [packA]; congr 1; symm; unfold isB; rw [inL1, inL1, inL1, inL1, Bool.eq_false_iff]; intro h; simp at h hc0; omega; first | done | rfl) | (simp only [packA]; congr 1; unfold isB; rw [inL1, inL1, inL1, inL1, Bool.eq_iff_iff]; simp at hc0 ⊢; omega; first | done | rfl)) rfl
  · have hc0' := Bool.eq_false_iff.1 hc0
    refine W_skip rfl ?_
    refine thenQ_n ?_
    refine W_seq rfl ?_
    refine Wjoin ⟨[(6, .bool ((decide (0 ≤ b.lo)) && ((decide (b.lo < b.hi)) && (decide (b.hi ≤ Z)))))], [], 0, []⟩ ?_ ?_
    · refine W_reg rfl ?_
      refine Rv rfl rfl rfl (U_fieldAddrR rfl) rfl rfl ?_
      refine Rv rfl rfl rfl (U_load1 rfl rfl rfl) rfl rfl ?_
      refine Rv rfl rfl rfl (U_geq rfl rfl) rfl rfl ?_
      refine Rv rfl rfl rfl (U_move rfl) rfl rfl ?_
      refine Rsplit (t := 30) rfl (fun hg4 => ?_) (fun hg4 => ?_)
      · rw [hg4]
        have hg4' : 0 ≤ b.lo := of_decide_eq_true hg4
        refine Rv rfl rfl rfl (U_fieldAddrR rfl) rfl rfl ?_
        refine Rv rfl rfl rfl (U_load1 rfl rfl rfl) rfl rfl ?_
        refine Rv rfl rfl rfl (U_fieldAddrR rfl) rfl rfl ?_
        refine Rv rfl rfl rfl (U_load1 rfl rfl rfl) rfl rfl ?_
        refine Rv rfl rfl rfl (U_lss rfl rfl) rfl rfl ?_
        refine Rv rfl rfl rfl (U_pick_t rfl rfl) rfl rfl ?_
        refine Rv rfl rfl rfl (U_move rfl) rfl rfl ?_
        refine Rsplit (t := 37) rfl (fun hg5 => ?_) (fun hg5 => ?_)
        · rw [hg5]
          have hg5' : b.lo < b.hi := of_decide_eq_true hg5
          refine Rv rfl rfl rfl (U_fieldAddrR rfl) rfl rfl ?_
          refine Rv rfl rfl rfl (U_load1 rfl rfl rfl) rfl rfl ?_
          refine Rv rfl rfl rfl (U_move rfl) rfl rfl ?_
          refine Rv rfl rfl rfl (U_leq rfl rfl) rfl rfl ?_
          refine Rv rfl rfl rfl (U_pick_t rfl rfl) rfl rfl ?_
          refine Rv rfl rfl rfl (U_assign rfl) rfl rfl ?_
          refine Re rfl ?_
          exact joinTo id ⟨eD rfl rfl, trivial⟩ trivial rfl rfl rfl rfl (fun _ _ => rfl)
        · rw [hg5]
          have hg5' : ¬ (b.lo < b.hi) := of_decide_eq_false hg5
          refine Rs rfl rfl rfl rfl rfl ?_
          refine Rs rfl rfl rfl rfl rfl ?_
          refine Rs rfl rfl rfl rfl rfl ?_
          refine Rs rfl rfl rfl rfl rfl ?_
          refine Rv rfl rfl rfl (U_pick_f rfl rfl) rfl rfl ?_
          refine Rv rfl rfl rfl (U_assign rfl) rfl rfl ?_
          refine Re rfl ?_
          exact joinTo id ⟨eD rfl rfl, trivial⟩ trivial rfl rfl rfl rfl (fun _ _ => rfl)
      · rw [hg4]
        have hg4' : ¬ (0 ≤ b.lo) := of_decide_eq_false hg4
        refine Rs rfl rfl rfl rfl rfl ?_
        refine Rs rfl rfl rfl rfl rfl ?_
        refine Rs rfl rfl rfl rfl rfl ?_
        refine Rs rfl rfl rfl rfl rfl ?_
        refine Rs rfl rfl rfl rfl rfl ?_
        refine Rv rfl rfl rfl (U_pick_f rfl rfl) rfl rfl ?_
        refine Rv rfl rfl rfl (U_move rfl) rfl rfl ?_
        refine Rs rfl rfl rfl rfl rfl ?_
        refine Rs rfl rfl rfl rfl rfl ?_
        refine Rs rfl rfl rfl rfl rfl ?_
        refine Rs rfl rfl rfl rfl rfl ?_
        refine Rv rfl rfl rfl (U_pick_f rfl rfl) rfl rfl ?_
        refine Rv rfl rfl rfl (U_assign rfl) rfl rfl ?_
        refine Re rfl ?_
        exact joinTo id ⟨eD rfl rfl, trivial⟩ trivial rfl rfl rfl rfl (fun _ _ => rfl)
    refine thenQ_n ?_
    refine W_ret rfl ?_
    exact retL (rlT rfl rl0) (by first | rfl | (simp only [packA]; congr 1; symm; unfold isB; rw [inL1, inL1, inL1, inL1, Bool.eq_false_iff]; intro h; simp at h hc0; omega; first | done | rfl) | (simp only [packA]; congr 1; unfold isB; rw [inL1, inL1, inL1, inL1, Bool.eq_iff_iff]; simp at hc0 ⊢; omega; first | done | rfl)) rfl
theorem chkSR_p (s : Sk) (c : Option Nat) (hl : s.ls.length ≤ 1000000) (hbl : ∀ l ∈ s.ls, l.length ≤ 1000000) : Pure Try.prog 23 [.agg [i64 s.h, i64 s.z, landsA s.ls c]] (i64 (chkS s)) := by
  refine pure_of_body Try.func23 (c := body Try.f23) rfl (by simp [Try.ntmps23]) fun w0 Φ0 => ?_
  refine W_seq rfl ?_
  refine W_reg rfl ?_
  refine Rv rfl rfl rfl (U_boxF rfl rfl rfl) rfl rfl ?_
  refine Rv rfl rfl rfl (U_assign rfl) rfl rfl ?_
  refine Re rfl ?_
  refine thenQ_n ?_
  refine W_seq rfl ?_
  refine W_seq rfl ?_
  refine Wjoin ⟨[(1, .rop [i64 s.h, i64 s.z, .ros (s.ls.map boxesL) s.ls.length c] 0), (23, .bool ((decide (s.h < 1)) || ((decide (48 < s.h)) || ((decide (s.z < 1)) || (decide (24 < s.z))))))], [], 0, []⟩ ?_ ?_
  · refine W_reg rfl ?_
    refine Rv rfl rfl rfl (U_fieldAddrR rfl) rfl rfl ?_
    refine Rv rfl rfl rfl (U_load1 rfl rfl rfl) rfl rfl ?_
    refine Rv rfl rfl rfl (U_lss rfl rfl) rfl rfl ?_
    refine Rv rfl rfl rfl (U_move rfl) rfl rfl ?_
    refine Rsplit (t := 9) rfl (fun hg1 => ?_) (fun hg1 => ?_)
    · rw [hg1]
      have hg1' : s.h < 1 := of_decide_eq_true hg1
      refine Rs rfl rfl rfl rfl rfl ?_
      refine Rs rfl rfl rfl rfl rfl ?_
      refine Rs rfl rfl rfl rfl rfl ?_
      refine Rv rfl rfl rfl (U_pick_t rfl rfl) rfl rfl ?_
      refine Rv rfl rfl rfl (U_move rfl) rfl rfl ?_
      refine Rs rfl rfl rfl rfl rfl ?_
      refine Rs rfl rfl rfl rfl rfl ?_
      refine Rs rfl rfl rfl rfl rfl ?_
      refine Rv rfl rfl rfl (U_pick_t rfl rfl) rfl rfl ?_
      refine Rv rfl rfl rfl (U_move rfl) rfl rfl ?_
      refine Rs rfl rfl rfl rfl rfl ?_
      refine Rs rfl rfl rfl rfl rfl ?_
      refine Rs rfl rfl rfl rfl rfl ?_
      refine Rv rfl rfl rfl (U_pick_t rfl rfl) rfl rfl ?_
      refine Re rfl ?_
      exact joinTo id ⟨eD rfl rfl, eD rfl rfl, trivial⟩ trivial rfl rfl rfl rfl (fun _ _ => rfl)
    · rw [hg1]
      have hg1' : ¬ (s.h < 1) := of_decide_eq_false hg1
      refine Rv rfl rfl rfl (U_fieldAddrR rfl) rfl rfl ?_
      refine Rv rfl rfl rfl (U_load1 rfl rfl rfl) rfl rfl ?_
      refine Rv rfl rfl rfl (U_gtr rfl rfl) rfl rfl ?_
      refine Rv rfl rfl rfl (U_pick_f rfl rfl) rfl rfl ?_
      refine Rv rfl rfl rfl (U_move rfl) rfl rfl ?_
      refine Rsplit (t := 14) rfl (fun hg2 => ?_) (fun hg2 => ?_)
      · rw [hg2]
        have hg2' : 48 < s.h := of_decide_eq_true hg2
        refine Rs rfl rfl rfl rfl rfl ?_
        refine Rs rfl rfl rfl rfl rfl ?_
        refine Rs rfl rfl rfl rfl rfl ?_
        refine Rv rfl rfl rfl (U_pick_t rfl rfl) rfl rfl ?_
        refine Rv rfl rfl rfl (U_move rfl) rfl rfl ?_
        refine Rs rfl rfl rfl rfl rfl ?_
        refine Rs rfl rfl rfl rfl rfl ?_
        refine Rs rfl rfl rfl rfl rfl ?_
        refine Rv rfl rfl rfl (U_pick_t rfl rfl) rfl rfl ?_
        refine Re rfl ?_
        exact joinTo id ⟨eD rfl rfl, eD rfl rfl, trivial⟩ trivial rfl rfl rfl rfl (fun _ _ => rfl)
      · rw [hg2]
        have hg2' : ¬ (48 < s.h) := of_decide_eq_false hg2
        refine Rv rfl rfl rfl (U_fieldAddrR rfl) rfl rfl ?_
        refine Rv rfl rfl rfl (U_load1 rfl rfl rfl) rfl rfl ?_
        refine Rv rfl rfl rfl (U_lss rfl rfl) rfl rfl ?_
        refine Rv rfl rfl rfl (U_pick_f rfl rfl) rfl rfl ?_
        refine Rv rfl rfl rfl (U_move rfl) rfl rfl ?_
        refine Rsplit (t := 19) rfl (fun hg3 => ?_) (fun hg3 => ?_)
        · rw [hg3]
          have hg3' : s.z < 1 := of_decide_eq_true hg3
          refine Rs rfl rfl rfl rfl rfl ?_
          refine Rs rfl rfl rfl rfl rfl ?_
          refine Rs rfl rfl rfl rfl rfl ?_
          refine Rv rfl rfl rfl (U_pick_t rfl rfl) rfl rfl ?_
          refine Re rfl ?_
          exact joinTo id ⟨eD rfl rfl, eD rfl rfl, trivial⟩ trivial rfl rfl rfl rfl (fun _ _ => rfl)
        · rw [hg3]
          have hg3' : ¬ (s.z < 1) := of_decide_eq_false hg3
          refine Rv rfl rfl rfl (U_fieldAddrR rfl) rfl rfl ?_
          refine Rv rfl rfl rfl (U_load1 rfl rfl rfl) rfl rfl ?_
          refine Rv rfl rfl rfl (U_gtr rfl rfl) rfl rfl ?_
          refine Rv rfl rfl rfl (U_pick_f rfl rfl) rfl rfl ?_
          refine Re rfl ?_
          exact joinTo id ⟨eD rfl rfl, eD rfl rfl, trivial⟩ trivial rfl rfl rfl rfl (fun _ _ => rfl)
  refine thenQ_n ?_
  refine Wcond rfl rfl (fun hc0 => ?_) (fun hc0 => ?_)
  · have hce : chkS s = 3 := by rw [chkS, if_pos (by rw [inL1, inL1]; simp at hc0 ⊢; omega)]
    refine W_seq rfl ?_
    refine W_reg rfl ?_
    refine Rv rfl rfl rfl (U_assign rfl) rfl rfl ?_
    refine Re rfl ?_
    refine thenQ_n ?_
    refine W_ret rfl ?_
    refine thenQ_r ?_
    exact retL (rlT rfl rl0) (by first | rfl | (simp only [packA]; rw [hce]; first | done | rfl)) rfl
  · have hc0' := Bool.eq_false_iff.1 hc0
    have hr : (1 ≤ s.h ∧ s.h ≤ 48) ∧ 1 ≤ s.z ∧ s.z ≤ 24 := by simp at hc0; omega
    obtain ⟨hh, hz⟩ := hr
    refine W_skip rfl ?_
    refine thenQ_n ?_
    refine W_seq rfl ?_
    refine W_seq rfl ?_
    refine W_reg rfl ?_
    refine Rv rfl rfl rfl (U_fieldAddrR rfl) rfl rfl ?_
    refine Rv rfl rfl rfl (U_load1 rfl rfl rfl) rfl rfl ?_
    refine Rv rfl rfl rfl (U_lenOf rfl len_ros) rfl rfl ?_
    refine Rv rfl rfl rfl (U_gtr rfl rfl) rfl rfl ?_
    refine Re rfl ?_
    refine thenQ_n ?_
    refine WcondP rfl rfl (fun hc1 => ?_) (fun hc1 => ?_)
    · have hce : chkS s = 6 := by rw [chkS, if_neg (by rw [inL1, inL1]; simp; omega), if_pos (by simp; omega)]
      refine W_seq rfl ?_
      refine W_reg rfl ?_
      refine Rv rfl rfl rfl (U_assign rfl) rfl rfl ?_
      refine Re rfl ?_
      refine thenQ_n ?_
      refine W_ret rfl ?_
      refine thenQ_r ?_
      exact retL (rlT rfl rl0) (by first | rfl | (simp only [packA]; rw [hce]; first | done | rfl)) rfl
    · refine W_skip rfl ?_
      refine thenQ_n ?_
      refine W_seq rfl ?_
      refine W_seq rfl ?_
      refine W_reg rfl ?_
      refine Rv rfl rfl rfl (U_assign rfl) rfl rfl ?_
      refine Re rfl ?_
      refine thenQ_n ?_
      refine W_block rfl ?_
      refine LoopTo (T' := [(1, .rop [i64 s.h, i64 s.z, .ros (s.ls.map boxesL) s.ls.length c] 0), (3, i64 ((0 : Nat) : Int))]) (H' := []) (n := 0) rfl (fun mz_ qz_ => ∃ (k : Nat), k ≤ s.ls.length ∧ (∀ j (hj : j < s.ls.length), j < k → decide ((600 : Int) < ((s.ls[j].length : Nat) : Int)) = false) ∧ mz_ = s.ls.length - k ∧ qz_ = ⟨[(1, .rop [i64 s.h, i64 s.z, .ros (s.ls.map boxesL) s.ls.length c] 0), (3, i64 ((k : Nat) : Int))], [], 0, []⟩) ⟨0, (by omega), (fun j hj h => absurd h (Nat.not_lt_zero _)), rfl, rfl⟩ id ⟨eD rfl rfl, eD rfl rfl, trivial⟩ trivial rfl rfl rfl rfl (fun _ _ => rfl) ?_
      rintro _ _ ⟨k, hi0_0, hi0_1, rfl, rfl⟩
      refine W_seq rfl ?_
      refine W_seq rfl ?_
      refine W_reg rfl ?_
      refine Rv rfl rfl rfl (U_move rfl) rfl rfl ?_
      refine Rv rfl rfl rfl (U_fieldAddrR rfl) rfl rfl ?_
      refine Rv rfl rfl rfl (U_load1 rfl rfl rfl) rfl rfl ?_
      refine Rv rfl rfl rfl (U_lenOf rfl len_ros) rfl rfl ?_
      refine Rv rfl rfl rfl (U_lss rfl rfl) rfl rfl ?_
      refine Re rfl ?_
      refine thenQ_n ?_
      refine WcondP rfl rfl (fun hc2 => ?_) (fun hc2 => ?_)
      · have hck : k < s.ls.length := by omega
        refine W_skip rfl ?_
        refine thenQ_n ?_
        refine W_seq rfl ?_
        refine W_block rfl ?_
        refine W_seq rfl ?_
        refine W_reg rfl ?_
        refine Rv rfl rfl rfl (U_fieldAddrR rfl) rfl rfl ?_
        refine Rv rfl rfl rfl (U_load1 rfl rfl rfl) rfl rfl ?_
        refine Rv rfl rfl rfl (U_move rfl) rfl rfl ?_
        have hx4 : k < s.ls.length := by omega
        refine Rv rfl rfl rfl (U_indexR (j := k) rfl rfl rfl hx4) rfl rfl ?_
        refine Rv rfl rfl rfl (U_load1 rfl rfl (getM hx4)) rfl rfl ?_
        refine Rv rfl rfl rfl (U_lenOf rfl len_ros) rfl rfl ?_
        refine Rv rfl rfl rfl (U_gtr rfl rfl) rfl rfl ?_
        refine Re rfl ?_
        refine thenQ_n ?_
        refine WcondP rfl rfl (fun hc3 => ?_) (fun hc3 => ?_)
        · have h600 : (s.ls.any fun l => decide ((600 : Int) < ((l.length : Nat) : Int))) = true := any_true hck (by simpa using hc3)
          have hce : chkS s = 6 := by rw [chkS, if_neg (by rw [inL1, inL1]; simp; omega), if_pos (by rw [h600]; simp)]
          refine W_seq rfl ?_
          refine W_reg rfl ?_
          refine Rv rfl rfl rfl (U_assign rfl) rfl rfl ?_
          refine Re rfl ?_
          refine thenQ_n ?_
          refine W_ret rfl ?_
          refine blkQ_r ?_
          refine thenQ_r ?_
          refine thenQ_r ?_
          refine blkQ_r ?_
          refine thenQ_r ?_
          exact retL (rlT rfl rl0) (by first | rfl | (simp only [packA]; rw [hce]; first | done | rfl)) rfl
        · refine W_skip rfl ?_
          refine blkQ_n ?_
          refine thenQ_n ?_
          refine W_reg rfl ?_
          refine Rv rfl rfl rfl (U_move rfl) rfl rfl ?_
          refine Rv rfl rfl rfl (U_add rfl rfl (w64e (m := ((k + 1 : Nat) : Int)) (by omega) (by omega) (by omega))) rfl rfl ?_
          refine Rv rfl rfl rfl (U_assign rfl) rfl rfl ?_
          refine Re rfl ?_
          refine thenQ_n ?_
          exact againTo (T' := [(1, .rop [i64 s.h, i64 s.z, .ros (s.ls.map boxesL) s.ls.length c] 0), (3, i64 (((k + 1) : Nat) : Int))]) (H' := []) (n := 0) (s.ls.length - (k + 1)) ⟨k + 1, (by omega), (bef_succ (p := fun l : List Bx => decide ((600 : Int) < ((l.length : Nat) : Int))) hi0_1 hck (by simp; omega)), rfl, rfl⟩ (by omega) id ⟨eD rfl rfl, eD rfl rfl, trivial⟩ trivial rfl rfl rfl rfl (fun _ _ => rfl)
      · have h600 : (s.ls.any fun l => decide ((600 : Int) < ((l.length : Nat) : Int))) = false := any_f fun j hj => hi0_1 j hj (by omega)
        refine W_exit rfl ?_
        refine thenQ_x ?_
        refine thenQ_x ?_
        refine blkQ_x rfl ?_
        refine thenQ_n ?_
        refine W_seq rfl ?_
        refine W_seq rfl ?_
        refine W_reg rfl ?_
        refine Rv rfl rfl rfl (U_assign rfl) rfl rfl ?_
        refine Re rfl ?_
        refine thenQ_n ?_
        refine W_block rfl ?_
        refine LoopTo (T' := [(1, .rop [i64 s.h, i64 s.z, .ros (s.ls.map boxesL) s.ls.length c] 0), (4, i64 ((0 : Nat) : Int))]) (H' := []) (n := 0) rfl (fun mz_ qz_ => ∃ (m : Nat), m ≤ s.ls.length ∧ (∀ j (hj : j < s.ls.length), j < m → (s.ls[j].any fun b => !isB b s.h s.z) = false) ∧ mz_ = s.ls.length - m ∧ qz_ = ⟨[(1, .rop [i64 s.h, i64 s.z, .ros (s.ls.map boxesL) s.ls.length c] 0), (4, i64 ((m : Nat) : Int))], [], 0, []⟩) ⟨0, (by omega), (fun j hj h => absurd h (Nat.not_lt_zero _)), rfl, rfl⟩ id ⟨eD rfl rfl, eD rfl rfl, trivial⟩ trivial rfl rfl rfl rfl (fun _ _ => rfl) ?_
        rintro _ _ ⟨m, hi1_0, hi1_1, rfl, rfl⟩
        refine W_seq rfl ?_
        refine W_seq rfl ?_
        refine W_reg rfl ?_
        refine Rv rfl rfl rfl (U_move rfl) rfl rfl ?_
        refine Rv rfl rfl rfl (U_fieldAddrR rfl) rfl rfl ?_
        refine Rv rfl rfl rfl (U_load1 rfl rfl rfl) rfl rfl ?_
        refine Rv rfl rfl rfl (U_lenOf rfl len_ros) rfl rfl ?_
        refine Rv rfl rfl rfl (U_lss rfl rfl) rfl rfl ?_
        refine Re rfl ?_
        refine thenQ_n ?_
        refine WcondP rfl rfl (fun hc4 => ?_) (fun hc4 => ?_)
        · have hcm : m < s.ls.length := by omega
          have hbm := hbl _ (List.getElem_mem hcm)
          refine W_skip rfl ?_
          refine thenQ_n ?_
          refine W_seq rfl ?_
          refine W_block rfl ?_
          refine W_seq rfl ?_
          refine W_reg rfl ?_
          refine Rv rfl rfl rfl (U_assign rfl) rfl rfl ?_
          refine Re rfl ?_
          refine thenQ_n ?_
          refine W_block rfl ?_
          refine LoopTo (T' := [(1, .rop [i64 s.h, i64 s.z, .ros (s.ls.map boxesL) s.ls.length c] 0), (4, i64 ((m : Nat) : Int)), (5, i64 ((0 : Nat) : Int))]) (H' := []) (n := 0) rfl (fun mz_ qz_ => ∃ (i : Nat), i ≤ s.ls[m].length ∧ (∀ j (hj : j < s.ls[m].length), j < i → (!isB s.ls[m][j] s.h s.z) = false) ∧ mz_ = s.ls[m].length - i ∧ qz_ = ⟨[(1, .rop [i64 s.h, i64 s.z, .ros (s.ls.map boxesL) s.ls.length c] 0), (4, i64 ((m : Nat) : Int)), (5, i64 ((i : Nat) : Int))], [], 0, []⟩) ⟨0, (by omega), (fun j hj h => absurd h (Nat.not_lt_zero _)), rfl, rfl⟩ id ⟨eD rfl rfl, eD rfl rfl, eD rfl rfl, trivial⟩ trivial rfl rfl rfl rfl (fun _ _ => rfl) ?_
          rintro _ _ ⟨i, hi2_0, hi2_1, rfl, rfl⟩
          refine W_seq rfl ?_
          refine W_seq rfl ?_
          refine W_reg rfl ?_
          refine Rv rfl rfl rfl (U_move rfl) rfl rfl ?_
          refine Rv rfl rfl rfl (U_fieldAddrR rfl) rfl rfl ?_
          refine Rv rfl rfl rfl (U_load1 rfl rfl rfl) rfl rfl ?_
          refine Rv rfl rfl rfl (U_move rfl) rfl rfl ?_
          have hx5 : m < s.ls.length := by omega
          refine Rv rfl rfl rfl (U_indexR (j := m) rfl rfl rfl hx5) rfl rfl ?_
          refine Rv rfl rfl rfl (U_load1 rfl rfl (getM hx5)) rfl rfl ?_
          refine Rv rfl rfl rfl (U_lenOf rfl len_ros) rfl rfl ?_
          refine Rv rfl rfl rfl (U_lss rfl rfl) rfl rfl ?_
          refine Re rfl ?_
          refine thenQ_n ?_
          refine WcondP rfl rfl (fun hc5 => ?_) (fun hc5 => ?_)
          · have hci : i < s.ls[m].length := by omega
            refine W_skip rfl ?_
            refine thenQ_n ?_
            refine W_seq rfl ?_
            refine W_block rfl ?_
            refine W_seq rfl ?_
            refine Wdraw rfl (by kernel_rfl) (by kernel_rfl) ?_
            refine Dv rfl rfl rfl (U_fieldAddrR rfl) rfl rfl ?_
            refine Dv rfl rfl rfl (U_load1 rfl rfl rfl) rfl rfl ?_
            refine Dv rfl rfl rfl (U_move rfl) rfl rfl ?_
            refine Dv rfl rfl rfl (U_indexR (j := m) rfl rfl rfl hx5) rfl rfl ?_
            refine Dv rfl rfl rfl (U_load1 rfl rfl (getM hx5)) rfl rfl ?_
            refine Dv rfl rfl rfl (U_move rfl) rfl rfl ?_
            have hx6 : i < s.ls[m].length := by omega
            refine Dv rfl rfl rfl (U_indexR (j := i) rfl rfl rfl hx6) rfl rfl ?_
            refine Dv rfl rfl rfl (U_load4 rfl rfl (bxG0 hx6) (bxG1 hx6) (bxG2 hx6) (bxG3 hx6)) rfl rfl ?_
            refine Dv rfl rfl rfl (U_fieldAddrR rfl) rfl rfl ?_
            refine Dv rfl rfl rfl (U_load1 rfl rfl rfl) rfl rfl ?_
            refine Dv rfl rfl rfl (U_fieldAddrR rfl) rfl rfl ?_
            refine Dv rfl rfl rfl (U_load1 rfl rfl rfl) rfl rfl ?_
            refine Dv rfl rfl rfl (U_call rfl rfl (isBR_p (s.ls[m][i]) s.h s.z (by assumption) (by assumption)) rfl) rfl rfl ?_
            refine Dv rfl rfl rfl (U_not rfl) rfl rfl ?_
            refine Dr.nil rfl ?_
            refine thenQ_n ?_
            refine Wcond rfl rfl (fun hc6 => ?_) (fun hc6 => ?_)
            · have hst : (s.ls.any fun l => l.any fun b => !isB b s.h s.z) = true := any_true hcm (any_true hci (by simpa using hc6))
              have hce : chkS s = 2 := by rw [chkS, if_neg (by rw [inL1, inL1]; simp; omega), if_neg (by rw [h600]; simp; omega), if_pos hst]
              refine W_seq rfl ?_
              refine W_reg rfl ?_
              refine Rv rfl rfl rfl (U_assign rfl) rfl rfl ?_
              refine Re rfl ?_
              refine thenQ_n ?_
              refine W_ret rfl ?_
              refine blkQ_r ?_
              refine thenQ_r ?_
              refine thenQ_r ?_
              refine blkQ_r ?_
              refine blkQ_r ?_
              refine thenQ_r ?_
              refine thenQ_r ?_
              refine blkQ_r ?_
              refine thenQ_r ?_
              exact retL (rlT rfl rl0) (by first | rfl | (simp only [packA]; rw [hce]; first | done | rfl)) rfl
            · have hc6' := Bool.eq_false_iff.1 hc6
              refine W_skip rfl ?_
              refine blkQ_n ?_
              refine thenQ_n ?_
              refine W_reg rfl ?_
              refine Rv rfl rfl rfl (U_move rfl) rfl rfl ?_
              refine Rv rfl rfl rfl (U_add rfl rfl (w64e (m := ((i + 1 : Nat) : Int)) (by omega) (by omega) (by omega))) rfl rfl ?_
              refine Rv rfl rfl rfl (U_assign rfl) rfl rfl ?_
              refine Re rfl ?_
              refine thenQ_n ?_
              exact againTo (T' := [(1, .rop [i64 s.h, i64 s.z, .ros (s.ls.map boxesL) s.ls.length c] 0), (4, i64 ((m : Nat) : Int)), (5, i64 (((i + 1) : Nat) : Int))]) (H' := []) (n := 0) (s.ls[m].length - (i + 1)) ⟨i + 1, (by omega), (bef_succ (p := fun b : Bx => !isB b s.h s.z) hi2_1 hci (by simpa using hc6)), rfl, rfl⟩ (by omega) id ⟨eD rfl rfl, eD rfl rfl, eD rfl rfl, trivial⟩ trivial rfl rfl rfl rfl (fun _ _ => rfl)
          · have hla : (s.ls[m].any fun b => !isB b s.h s.z) = false := any_f fun j hj => hi2_1 j hj (by omega)
            refine W_exit rfl ?_
            refine thenQ_x ?_
            refine thenQ_x ?_
            refine blkQ_x rfl ?_
            refine blkQ_n ?_
            refine thenQ_n ?_
            refine W_reg rfl ?_
            refine Rv rfl rfl rfl (U_move rfl) rfl rfl ?_
            refine Rv rfl rfl rfl (U_add rfl rfl (w64e (m := ((m + 1 : Nat) : Int)) (by omega) (by omega) (by omega))) rfl rfl ?_
            refine Rv rfl rfl rfl (U_assign rfl) rfl rfl ?_
            refine Re rfl ?_
            refine thenQ_n ?_
            exact againTo (T' := [(1, .rop [i64 s.h, i64 s.z, .ros (s.ls.map boxesL) s.ls.length c] 0), (4, i64 (((m + 1) : Nat) : Int))]) (H' := []) (n := 0) (s.ls.length - (m + 1)) ⟨m + 1, (by omega), (bef_succ (p := fun l : List Bx => l.any fun b => !isB b s.h s.z) hi1_1 hcm hla), rfl, rfl⟩ (by omega) id ⟨eD rfl rfl, eD rfl rfl, trivial⟩ trivial rfl rfl rfl rfl (fun _ _ => rfl)
        · have hst : (s.ls.any fun l => l.any fun b => !isB b s.h s.z) = false := any_f fun j hj => hi1_1 j hj (by omega)
          have hce : chkS s = 0 := by rw [chkS, if_neg (by rw [inL1, inL1]; simp; omega), if_neg (by rw [h600]; simp; omega), if_neg (by rw [hst]; simp)]
          refine W_exit rfl ?_
          refine thenQ_x ?_
          refine thenQ_x ?_
          refine blkQ_x rfl ?_
          refine thenQ_n ?_
          refine W_seq rfl ?_
          refine W_reg rfl ?_
          refine Rv rfl rfl rfl (U_assign rfl) rfl rfl ?_
          refine Re rfl ?_
          refine thenQ_n ?_
          refine W_ret rfl ?_
          exact retL (rlT rfl rl0) (by first | rfl | (simp only [packA]; rw [hce]; first | done | rfl)) rfl
end Go.Proofs.Ythlolelbmhfdbaa
end

section
namespace Go.Proofs.Ythlolelbmhfdbaa
set_option maxRecDepth 20000
open Go.AE
def mostQ (ls : List (List Bx)) : Int := ls.foldl (fun m l => max m (l.length : Int)) 0
theorem mostQ_take {ls : List (List Bx)} {i : Nat} (hi : i < ls.length) : mostQ (ls.take (i + 1)) = max (mostQ (ls.take i)) (ls[i].length : Int) := by
  unfold mostQ; rw [List.take_succ_eq_append_getElem hi, List.foldl_append]; rfl
theorem mostF_ge {ls : List (List Bx)} : ∀ {m : Int}, m ≤ ls.foldl (fun m l => max m (l.length : Int)) m := by
  induction ls with
  | nil => intro m; exact Int.le_refl m
  | cons a l ih => intro m; exact Int.le_trans (Int.le_max_left m _) ih
theorem mostF_mem {ls : List (List Bx)} : ∀ {m : Int} {l : List Bx}, l ∈ ls → (l.length : Int) ≤ ls.foldl (fun m l => max m (l.length : Int)) m := by
  induction ls with
  | nil => intro m l h; cases h
  | cons a r ih =>
    intro m l h
    cases h with
    | head => exact Int.le_trans (Int.le_max_right m _) mostF_ge
    | tail _ h => exact ih h
theorem mostQ_mem {ls : List (List Bx)} {l : List Bx} (h : l ∈ ls) : (l.length : Int) ≤ mostQ ls := mostF_mem h
def grt (s : Sk) : Bool := decide (14 < s.ls.length) || (decide (610 < mostQ s.ls) || (decide (chkS s = 0) && (decide (120 < s.h * s.z) || decide (30 < mostQ s.ls))))
theorem chkS_hz {s : Sk} (h : chkS s = 0) : 1 ≤ s.h ∧ s.h ≤ 48 ∧ 1 ≤ s.z ∧ s.z ≤ 24 ∧ 1 ≤ s.h * s.z ∧ s.h * s.z ≤ 1152 := by
  obtain ⟨H, Z, e1, e2, hH, hZ, _⟩ := vs_of h
  have := Int.mul_le_mul (show s.h ≤ 48 by omega) (show s.z ≤ 24 by omega) (by omega) (by omega)
  have := Int.mul_pos (show 0 < s.h by omega) (show 0 < s.z by omega)
  omega
theorem grt_ls {s : Sk} (h : grt s = false) : s.ls.length ≤ 1000000 := by
  simp [grt] at h; omega
theorem grt_bl {s : Sk} (h : grt s = false) : ∀ l ∈ s.ls, l.length ≤ 1000000 := by
  intro l hl; have := mostQ_mem hl; simp [grt] at h; omega
theorem bl_most {ls : List (List Bx)} (h : mostQ ls ≤ 610) : ∀ l ∈ ls, l.length ≤ 1000000 := by
  intro l hl; have := mostQ_mem hl; omega
theorem great_p (s : Sk) (c : Option Nat) : Pure Try.prog 16 [.agg [i64 s.h, i64 s.z, landsA s.ls c]] (.bool (grt s)) := by
  refine pure_of_body Try.func16 (c := body Try.f16) rfl (by simp [Try.ntmps16]) fun w0 Φ0 => ?_
  refine W_seq rfl ?_
  refine W_reg rfl ?_
  refine Rv rfl rfl rfl (U_boxF rfl rfl rfl) rfl rfl ?_
  refine Rv rfl rfl rfl (U_assign rfl) rfl rfl ?_
  refine Re rfl ?_
  refine thenQ_n ?_
  refine W_seq rfl ?_
  refine W_seq rfl ?_
  refine W_reg rfl ?_
  refine Rv rfl rfl rfl (U_fieldAddrR rfl) rfl rfl ?_
  refine Rv rfl rfl rfl (U_load1 rfl rfl rfl) rfl rfl ?_
  refine Rv rfl rfl rfl (U_lenOf rfl len_ros) rfl rfl ?_
  refine Rv rfl rfl rfl (U_gtr rfl rfl) rfl rfl ?_
  refine Re rfl ?_
  refine thenQ_n ?_
  refine WcondP rfl rfl (fun hc0 => ?_) (fun hc0 => ?_)
  · refine W_seq rfl ?_
    refine W_reg rfl ?_
    refine Rv rfl rfl rfl (U_assign rfl) rfl rfl ?_
    refine Re rfl ?_
    refine thenQ_n ?_
    refine W_ret rfl ?_
    refine thenQ_r ?_
    exact retL (rlT rfl rl0) (by first | rfl | (exact congrArg AV.bool (by unfold grt; first | (rw [show decide (14 < s.ls.length) = true from decide_eq_true (by omega)]; rfl) | (rw [show decide (14 < s.ls.length) = false from decide_eq_false (by omega), hmq, Bool.false_or])); done)) rfl
  · refine W_skip rfl ?_
    refine thenQ_n ?_
    refine W_seq rfl ?_
    refine W_reg rfl ?_
    refine Rv rfl rfl rfl (U_assign rfl) rfl rfl ?_
    refine Re rfl ?_
    refine thenQ_n ?_
    refine W_seq rfl ?_
    refine W_seq rfl ?_
    refine W_reg rfl ?_
    refine Rv rfl rfl rfl (U_assign rfl) rfl rfl ?_
    refine Re rfl ?_
    refine thenQ_n ?_
    refine W_block rfl ?_
    refine LoopTo (T' := [(1, .rop [i64 s.h, i64 s.z, .ros (s.ls.map boxesL) s.ls.length c] 0), (3, i64 0), (4, i64 ((0 : Nat) : Int))]) (H' := []) (n := 0) rfl (fun mz_ qz_ => ∃ (i : Nat) (m : Int), i ≤ s.ls.length ∧ m = mostQ (s.ls.take i) ∧ mz_ = s.ls.length - i ∧ qz_ = ⟨[(1, .rop [i64 s.h, i64 s.z, .ros (s.ls.map boxesL) s.ls.length c] 0), (3, i64 m), (4, i64 ((i : Nat) : Int))], [], 0, []⟩) ⟨0, 0, (by omega), rfl, rfl, rfl⟩ id ⟨eD rfl rfl, eD rfl rfl, eD rfl rfl, trivial⟩ trivial rfl rfl rfl rfl (fun _ _ => rfl) ?_
    rintro _ _ ⟨i, m, hi0_0, hi0_1, rfl, rfl⟩
    refine W_seq rfl ?_
    refine W_seq rfl ?_
    refine W_reg rfl ?_
    refine Rv rfl rfl rfl (U_move rfl) rfl rfl ?_
    refine Rv rfl rfl rfl (U_fieldAddrR rfl) rfl rfl ?_
    refine Rv rfl rfl rfl (U_load1 rfl rfl rfl) rfl rfl ?_
    refine Rv rfl rfl rfl (U_lenOf rfl len_ros) rfl rfl ?_
    refine Rv rfl rfl rfl (U_lss rfl rfl) rfl rfl ?_
    refine Re rfl ?_
    refine thenQ_n ?_
    refine WcondP rfl rfl (fun hc1 => ?_) (fun hc1 => ?_)
    · refine W_skip rfl ?_
      refine thenQ_n ?_
      refine W_seq rfl ?_
      refine W_block rfl ?_
      refine W_reg rfl ?_
      refine Rv rfl rfl rfl (U_move rfl) rfl rfl ?_
      refine Rv rfl rfl rfl (U_fieldAddrR rfl) rfl rfl ?_
      refine Rv rfl rfl rfl (U_load1 rfl rfl rfl) rfl rfl ?_
      refine Rv rfl rfl rfl (U_move rfl) rfl rfl ?_
      have hx1 : i < s.ls.length := by omega
      refine Rv rfl rfl rfl (U_indexR (j := i) rfl rfl rfl hx1) rfl rfl ?_
      refine Rv rfl rfl rfl (U_load1 rfl rfl (getM hx1)) rfl rfl ?_
      refine Rv rfl rfl rfl (U_lenOf rfl len_ros) rfl rfl ?_
      refine Rv rfl rfl rfl (U_max rfl rfl rfl) rfl rfl ?_
      refine Rv rfl rfl rfl (U_assign rfl) rfl rfl ?_
      refine Re rfl ?_
      refine blkQ_n ?_
      refine thenQ_n ?_
      refine W_reg rfl ?_
      refine Rv rfl rfl rfl (U_move rfl) rfl rfl ?_
      refine Rv rfl rfl rfl (U_add rfl rfl (w64e (m := ((i + 1 : Nat) : Int)) (by omega) (by omega) (by omega))) rfl rfl ?_
      refine Rv rfl rfl rfl (U_assign rfl) rfl rfl ?_
      refine Re rfl ?_
      refine thenQ_n ?_
      exact againTo (T' := [(1, .rop [i64 s.h, i64 s.z, .ros (s.ls.map boxesL) s.ls.length c] 0), (3, i64 (max m ((s.ls[i].length : Nat) : Int))), (4, i64 (((i + 1) : Nat) : Int))]) (H' := []) (n := 0) (s.ls.length - (i + 1)) ⟨i + 1, max m ((s.ls[i].length : Nat) : Int), (by omega), (by rw [mostQ_take (by omega), ← hi0_1]), rfl, rfl⟩ (by omega) id ⟨eD rfl rfl, eD rfl rfl, eD rfl rfl, trivial⟩ trivial rfl rfl rfl rfl (fun _ _ => rfl)
    · have hmq : m = mostQ s.ls := by rw [hi0_1, show i = s.ls.length by omega, List.take_length]
      refine W_exit rfl ?_
      refine thenQ_x ?_
      refine thenQ_x ?_
      refine blkQ_x rfl ?_
      refine thenQ_n ?_
      refine W_seq rfl ?_
      refine Wjoin ⟨[(2, .bool ((decide (610 < m)) || ((decide ((chkS s) = 0)) && ((decide (120 < (s.h * s.z))) || (decide (30 < m))))))], [], 0, []⟩ ?_ ?_
      · refine W_reg rfl ?_
        refine Rv rfl rfl rfl (U_move rfl) rfl rfl ?_
        refine Rv rfl rfl rfl (U_gtr rfl rfl) rfl rfl ?_
        refine Rv rfl rfl rfl (U_move rfl) rfl rfl ?_
        refine Rsplit (t := 26) rfl (fun hg2 => ?_) (fun hg2 => ?_)
        · rw [hg2]
          have hg2' : 610 < m := of_decide_eq_true hg2
          refine Rs rfl rfl rfl rfl rfl ?_
          refine Rs rfl rfl rfl rfl rfl ?_
          refine Rs rfl rfl rfl rfl rfl ?_
          refine Rs rfl rfl rfl rfl rfl ?_
          refine Rs rfl rfl rfl rfl rfl ?_
          refine Rs rfl rfl rfl rfl rfl ?_
          refine Rs rfl rfl rfl rfl rfl ?_
          refine Rs rfl rfl rfl rfl rfl ?_
          refine Rs rfl rfl rfl rfl rfl ?_
          refine Rs rfl rfl rfl rfl rfl ?_
          refine Rs rfl rfl rfl rfl rfl ?_
          refine Rs rfl rfl rfl rfl rfl ?_
          refine Rs rfl rfl rfl rfl rfl ?_
          refine Rs rfl rfl rfl rfl rfl ?_
          refine Rs rfl rfl rfl rfl rfl ?_
          refine Rv rfl rfl rfl (U_pick_t rfl rfl) rfl rfl ?_
          refine Rv rfl rfl rfl (U_assign rfl) rfl rfl ?_
          refine Re rfl ?_
          exact joinTo id ⟨eD rfl rfl, trivial⟩ trivial rfl rfl rfl rfl (fun _ _ => rfl)
        · rw [hg2]
          have hg2' : ¬ (610 < m) := of_decide_eq_false hg2
          have hbl := bl_most (ls := s.ls) (by omega)
          have hl : s.ls.length ≤ 1000000 := by omega
          refine Rv rfl rfl rfl (U_load3 rfl rfl rfl rfl rfl) rfl rfl ?_
          refine Rv rfl rfl rfl (U_call rfl rfl (chkSR_p s c hl hbl) rfl) rfl rfl ?_
          refine Rv rfl rfl rfl (U_eql rfl rfl) rfl rfl ?_
          refine Rv rfl rfl rfl (U_move rfl) rfl rfl ?_
          refine Rsplit (t := 30) rfl (fun hg3 => ?_) (fun hg3 => ?_)
          · rw [hg3]
            have hg3' : (chkS s) = 0 := of_decide_eq_true hg3
            have hhz := chkS_hz hg3'
            refine Rv rfl rfl rfl (U_fieldAddrR rfl) rfl rfl ?_
            refine Rv rfl rfl rfl (U_load1 rfl rfl rfl) rfl rfl ?_
            refine Rv rfl rfl rfl (U_fieldAddrR rfl) rfl rfl ?_
            refine Rv rfl rfl rfl (U_load1 rfl rfl rfl) rfl rfl ?_
            refine Rv rfl rfl rfl (U_mul rfl rfl (w64 (by omega) (by omega))) rfl rfl ?_
            refine Rv rfl rfl rfl (U_gtr rfl rfl) rfl rfl ?_
            refine Rv rfl rfl rfl (U_move rfl) rfl rfl ?_
            refine Rsplit (t := 37) rfl (fun hg4 => ?_) (fun hg4 => ?_)
            · rw [hg4]
              have hg4' : 120 < (s.h * s.z) := of_decide_eq_true hg4
              refine Rs rfl rfl rfl rfl rfl ?_
              refine Rs rfl rfl rfl rfl rfl ?_
              refine Rv rfl rfl rfl (U_pick_t rfl rfl) rfl rfl ?_
              refine Rv rfl rfl rfl (U_pick_t rfl rfl) rfl rfl ?_
              refine Rv rfl rfl rfl (U_pick_f rfl rfl) rfl rfl ?_
              refine Rv rfl rfl rfl (U_assign rfl) rfl rfl ?_
              refine Re rfl ?_
              exact joinTo id ⟨eD rfl rfl, trivial⟩ trivial rfl rfl rfl rfl (fun _ _ => rfl)
            · rw [hg4]
              have hg4' : ¬ (120 < (s.h * s.z)) := of_decide_eq_false hg4
              refine Rv rfl rfl rfl (U_move rfl) rfl rfl ?_
              refine Rv rfl rfl rfl (U_gtr rfl rfl) rfl rfl ?_
              refine Rv rfl rfl rfl (U_pick_f rfl rfl) rfl rfl ?_
              refine Rv rfl rfl rfl (U_pick_t rfl rfl) rfl rfl ?_
              refine Rv rfl rfl rfl (U_pick_f rfl rfl) rfl rfl ?_
              refine Rv rfl rfl rfl (U_assign rfl) rfl rfl ?_
              refine Re rfl ?_
              exact joinTo id ⟨eD rfl rfl, trivial⟩ trivial rfl rfl rfl rfl (fun _ _ => rfl)
          · rw [hg3]
            have hg3' : ¬ ((chkS s) = 0) := of_decide_eq_false hg3
            refine Rs rfl rfl rfl rfl rfl ?_
            refine Rs rfl rfl rfl rfl rfl ?_
            refine Rs rfl rfl rfl rfl rfl ?_
            refine Rs rfl rfl rfl rfl rfl ?_
            refine Rs rfl rfl rfl rfl rfl ?_
            refine Rs rfl rfl rfl rfl rfl ?_
            refine Rs rfl rfl rfl rfl rfl ?_
            refine Rs rfl rfl rfl rfl rfl ?_
            refine Rs rfl rfl rfl rfl rfl ?_
            refine Rs rfl rfl rfl rfl rfl ?_
            refine Rv rfl rfl rfl (U_pick_f rfl rfl) rfl rfl ?_
            refine Rv rfl rfl rfl (U_pick_f rfl rfl) rfl rfl ?_
            refine Rv rfl rfl rfl (U_assign rfl) rfl rfl ?_
            refine Re rfl ?_
            exact joinTo id ⟨eD rfl rfl, trivial⟩ trivial rfl rfl rfl rfl (fun _ _ => rfl)
      refine thenQ_n ?_
      refine W_ret rfl ?_
      exact retL (rlT rfl rl0) (by first | rfl | (exact congrArg AV.bool (by unfold grt; first | (rw [show decide (14 < s.ls.length) = true from decide_eq_true (by omega)]; rfl) | (rw [show decide (14 < s.ls.length) = false from decide_eq_false (by omega), hmq, Bool.false_or])); done)) rfl
theorem intsS_p (a : List Int) (c d : Option Nat) (ha : a.length ≤ 1000000) : Pure Try.prog 24 [intsA a c, intsA a d] (.bool true) := by
  have := ints_p a a c d ha ha; rwa [decide_eq_true rfl] at this
theorem fine_p (s : Sk) (c : Option Nat) : Pure Try.prog 47 [.agg [i64 s.h, i64 s.z, landsA s.ls c]] (.bool (!grt s && decide (chkS s = 0))) := by
  refine pure_of_body Try.func47 (c := body Try.f47) rfl (by simp [Try.ntmps47]) fun w0 Φ0 => ?_
  refine W_seq rfl ?_
  refine W_reg rfl ?_
  refine Rv rfl rfl rfl (U_boxF rfl rfl rfl) rfl rfl ?_
  refine Rv rfl rfl rfl (U_assign rfl) rfl rfl ?_
  refine Re rfl ?_
  refine thenQ_n ?_
  refine W_seq rfl ?_
  refine Wjoin ⟨[(2, .bool ((!(grt s)) && (decide ((chkS s) = 0))))], [], 0, []⟩ ?_ ?_
  · refine W_reg rfl ?_
    refine Rv rfl rfl rfl (U_load3 rfl rfl rfl rfl rfl) rfl rfl ?_
    refine Rv rfl rfl rfl (U_call rfl rfl (great_p s c) rfl) rfl rfl ?_
    refine Rv rfl rfl rfl (U_not rfl) rfl rfl ?_
    refine Rv rfl rfl rfl (U_move rfl) rfl rfl ?_
    refine Rsplit (t := 6) rfl (fun hg1 => ?_) (fun hg1 => ?_)
    · rw [hg1]
      have hgr : grt s = false := by simpa using hg1
      have hl := grt_ls hgr
      have hbl := grt_bl hgr
      refine Rv rfl rfl rfl (U_load3 rfl rfl rfl rfl rfl) rfl rfl ?_
      refine Rv rfl rfl rfl (U_call rfl rfl (chkSR_p s c hl hbl) rfl) rfl rfl ?_
      refine Rv rfl rfl rfl (U_eql rfl rfl) rfl rfl ?_
      refine Rv rfl rfl rfl (U_pick_t rfl rfl) rfl rfl ?_
      refine Rv rfl rfl rfl (U_assign rfl) rfl rfl ?_
      refine Re rfl ?_
      exact joinTo id ⟨eD rfl rfl, trivial⟩ trivial rfl rfl rfl rfl (fun _ _ => rfl)
    · rw [hg1]
      refine Rs rfl rfl rfl rfl rfl ?_
      refine Rs rfl rfl rfl rfl rfl ?_
      refine Rs rfl rfl rfl rfl rfl ?_
      refine Rv rfl rfl rfl (U_pick_f rfl rfl) rfl rfl ?_
      refine Rv rfl rfl rfl (U_assign rfl) rfl rfl ?_
      refine Re rfl ?_
      exact joinTo id ⟨eD rfl rfl, trivial⟩ trivial rfl rfl rfl rfl (fun _ _ => rfl)
  refine thenQ_n ?_
  refine W_ret rfl ?_
  exact retL (rlT rfl rl0) rfl rfl
end Go.Proofs.Ythlolelbmhfdbaa
end

section
namespace Go.Proofs.Ythlolelbmhfdbaa
set_option maxRecDepth 20000
open Go.AE
theorem sumS_add {α : Type} {f g : α → Nat} : ∀ {l : List α}, (l.map fun x => f x + g x).sum = (l.map f).sum + (l.map g).sum
  | [] => rfl
  | a :: l => by simp only [List.map_cons, List.sum_cons, sumS_add (l := l)]; omega
theorem sumS_mul {α : Type} {f : α → Nat} {k : Nat} : ∀ {l : List α}, (l.map fun x => k * f x).sum = k * (l.map f).sum
  | [] => by simp
  | a :: l => by simp only [List.map_cons, List.sum_cons, sumS_mul (l := l), Nat.mul_add]
theorem sumS_congr {α : Type} {f g : α → Nat} {l : List α} (h : ∀ x ∈ l, f x = g x) : (l.map f).sum = (l.map g).sum := by rw [List.map_congr_left h]
theorem sumS_0 {α : Type} {f : α → Nat} {l : List α} (h : ∀ x ∈ l, f x = 0) : (l.map f).sum = 0 := by
  rw [sumS_congr (g := fun _ => 0) h]; induction l with
  | nil => rfl
  | cons a l ih => simp [ih fun x hx => h x (.tail _ hx)]
theorem sumS_swap {α β : Type} {f : α → β → Nat} {Q : List β} : ∀ {P : List α}, (P.map fun p => (Q.map fun q => f p q).sum).sum = (Q.map fun q => (P.map fun p => f p q).sum).sum
  | [] => (sumS_0 (fun _ _ => rfl)).symm
  | a :: P => by simp only [List.map_cons, List.sum_cons, sumS_add, sumS_swap (P := P)]
theorem sumS_one {α : Type} [DecidableEq α] {f : α → Nat} {x : α} : ∀ {l : List α}, l.Nodup → x ∈ l → (l.map fun q => if q = x then f q else 0).sum = f x
  | [], _, h => by cases h
  | a :: l, hn, h => by
    rw [List.nodup_cons] at hn
    simp only [List.map_cons, List.sum_cons]
    by_cases e : a = x
    · subst e
      rw [if_pos rfl, sumS_0 fun y hy => if_neg fun e => hn.1 (by rw [← e]; exact hy)]; rfl
    · rw [if_neg e, sumS_one hn.2 (by cases h with | head => exact absurd rfl e | tail _ h => exact h)]; omega
theorem plcQ_nodup {Z H : Nat} : (plcQ Z H).Nodup := by
  unfold plcQ
  refine List.Pairwise.map _ (fun i j (h : i ≠ j) e => h ?_) List.nodup_range
  rw [Prod.mk.injEq] at e
  rw [← Nat.div_add_mod i H, ← Nat.div_add_mod j H, e.1, e.2]
theorem plcQ_mem {Z H : Nat} {p : Nat × Nat} : p ∈ plcQ Z H ↔ p.1 < Z ∧ p.2 < H := by
  refine ⟨plcQ_in, fun h => ?_⟩
  refine List.mem_map.2 ⟨p.1 * H + p.2, List.mem_range.2 ?_, ?_⟩
  · have := Nat.mul_le_mul_right H (show p.1 + 1 ≤ Z from h.1)
    rw [Nat.add_mul] at this; omega
  · have hH : 0 < H := by omega
    rw [Nat.mul_comm, Nat.mul_add_div hH, Nat.mul_add_mod, Nat.div_eq_of_lt h.2, Nat.mod_eq_of_lt h.2]; simp
def adjQ (Z H : Nat) (p q : Nat × Nat) : Nat :=
  (if 1 < H ∧ q = (p.1, (p.2 + 1) % H) then 1 else 0) + (if 2 < H ∧ q = (p.1, (p.2 + H - 1) % H) then 1 else 0) + (if 0 < p.1 ∧ q = (p.1 - 1, p.2) then 1 else 0) + (if p.1 + 1 < Z ∧ q = (p.1 + 1, p.2) then 1 else 0)
theorem succ_mod {h H : Nat} (hh : h < H) : (h + 1) % H = if h + 1 < H then h + 1 else 0 := by
  split
  · exact Nat.mod_eq_of_lt ‹_›
  · rw [show h + 1 = H by omega, Nat.mod_self]
theorem pred_mod {h H : Nat} (hh : h < H) : (h + H - 1) % H = if 0 < h then h - 1 else H - 1 := by
  split
  · rw [show h + H - 1 = h - 1 + H by omega, Nat.add_mod_right, Nat.mod_eq_of_lt (by omega)]
  · rw [show h + H - 1 = H - 1 by omega, Nat.mod_eq_of_lt (by omega)]
theorem iteE {c d : Prop} [Decidable c] [Decidable d] (h : c ↔ d) : (if c then 1 else 0 : Nat) = if d then 1 else 0 := by
  by_cases e : c
  · rw [if_pos e, if_pos (h.1 e)]
  · rw [if_neg e, if_neg fun k => e (h.2 k)]
theorem adjQ_comm {Z H : Nat} {p q : Nat × Nat} (hp : p.1 < Z ∧ p.2 < H) (hq : q.1 < Z ∧ q.2 < H) : adjQ Z H p q = adjQ Z H q p := by
  obtain ⟨z, h⟩ := p; obtain ⟨y, g⟩ := q
  simp only at hp hq
  unfold adjQ
  simp only [Prod.mk.injEq, succ_mod hp.2, succ_mod hq.2, pred_mod hp.2, pred_mod hq.2]
  have e1 : (if 0 < z ∧ y = z - 1 ∧ g = h then 1 else 0) = if y + 1 < Z ∧ z = y + 1 ∧ h = g then 1 else 0 := by
    have : (0 < z ∧ y = z - 1 ∧ g = h) ↔ (y + 1 < Z ∧ z = y + 1 ∧ h = g) := by omega
    simp only [this]
  have e2 : (if z + 1 < Z ∧ y = z + 1 ∧ g = h then 1 else 0) = if 0 < y ∧ z = y - 1 ∧ h = g then 1 else 0 := by
    have : (z + 1 < Z ∧ y = z + 1 ∧ g = h) ↔ (0 < y ∧ z = y - 1 ∧ h = g) := by omega
    simp only [this]
  rw [e1, e2]
  have e3 : (if 1 < H ∧ y = z ∧ g = (if h + 1 < H then h + 1 else 0) then 1 else 0) + (if 2 < H ∧ y = z ∧ g = (if 0 < h then h - 1 else H - 1) then 1 else 0) = (if 1 < H ∧ z = y ∧ h = (if g + 1 < H then g + 1 else 0) then 1 else 0) + (if 2 < H ∧ z = y ∧ h = (if 0 < g then g - 1 else H - 1) then 1 else 0) := by
    by_cases e : y = z
    · subst e
      by_cases h2 : 2 < H
      · have a1 : (1 < H ∧ y = y ∧ g = (if h + 1 < H then h + 1 else 0)) ↔ (2 < H ∧ y = y ∧ h = (if 0 < g then g - 1 else H - 1)) := by split <;> split <;> omega
        have a2 : (2 < H ∧ y = y ∧ g = (if 0 < h then h - 1 else H - 1)) ↔ (1 < H ∧ y = y ∧ h = (if g + 1 < H then g + 1 else 0)) := by split <;> split <;> omega
        have b1 := iteE a1; have b2 := iteE a2
        omega
      · have a1 : (1 < H ∧ y = y ∧ g = (if h + 1 < H then h + 1 else 0)) ↔ (1 < H ∧ y = y ∧ h = (if g + 1 < H then g + 1 else 0)) := by split <;> split <;> omega
        have b1 := iteE a1
        have b2 : (if 2 < H ∧ y = y ∧ g = (if 0 < h then h - 1 else H - 1) then 1 else 0 : Nat) = 0 := if_neg fun h => h2 h.1
        have b3 : (if 2 < H ∧ y = y ∧ h = (if 0 < g then g - 1 else H - 1) then 1 else 0 : Nat) = 0 := if_neg fun h => h2 h.1
        omega
    · rw [if_neg fun h => e h.2.1, if_neg fun h => e h.2.1, if_neg fun h => e h.2.1.symm, if_neg fun h => e h.2.1.symm]
  omega
theorem nbQ_adj {Z H : Nat} {l : List Bx} {p : Nat × Nat} (hp : p.1 < Z ∧ p.2 < H) : nbQ Z H l p.1 p.2 = ((plcQ Z H).map fun q => adjQ Z H p q * bitQ l H q.1 q.2).sum := by
  have one : ∀ (c : Prop) [Decidable c] (x : Nat × Nat), (c → x.1 < Z ∧ x.2 < H) → (((plcQ Z H).map fun q => (if c ∧ q = x then 1 else 0) * bitQ l H q.1 q.2).sum) = ((if c then [x] else []).map fun q => bitQ l H q.1 q.2).sum := by
    intro c _ x hx
    by_cases hc : c
    · rw [if_pos hc]
      have := sumS_one (f := fun q : Nat × Nat => bitQ l H q.1 q.2) plcQ_nodup (plcQ_mem.2 (hx hc))
      rw [sumS_congr (g := fun q => if q = x then bitQ l H q.1 q.2 else 0) (fun q _ => by by_cases e : q = x <;> simp [e, hc]), this]; simp
    · rw [if_neg hc, sumS_0 (fun q _ => by rw [if_neg fun h => hc h.1, Nat.zero_mul])]; rfl
  have hm : ∀ n, n % H < H := fun n => Nat.mod_lt _ (by omega)
  unfold nbQ bsP adjQ
  simp only [Nat.add_mul, sumS_add, List.map_append, List.sum_append]
  rw [← one (1 < H) (p.1, (p.2 + 1) % H) (fun _ => ⟨hp.1, hm _⟩), ← one (2 < H) (p.1, (p.2 + H - 1) % H) (fun _ => ⟨hp.1, hm _⟩), ← one (0 < p.1) (p.1 - 1, p.2) (fun h => ⟨by show p.1 - 1 < Z; omega, hp.2⟩), ← one (p.1 + 1 < Z) (p.1 + 1, p.2) (fun h => ⟨h, hp.2⟩)]
theorem brQ_adj {Z H : Nat} {la lb : List Bx} : brQ Z H la lb = ((plcQ Z H).map fun p => ((plcQ Z H).map fun q => bitQ la H p.1 p.2 * (adjQ Z H p q * bitQ lb H q.1 q.2)).sum).sum := by
  unfold brQ
  exact sumS_congr fun p hp => by rw [nbQ_adj (plcQ_in hp), sumS_mul]
theorem sizQ_plc {Z H : Nat} {l : List Bx} : sizQ Z H l = ((plcQ Z H).map fun p => bitQ l H p.1 p.2).sum := by
  unfold sizQ fldQ plcQ; rw [List.map_map]; rfl
end Go.Proofs.Ythlolelbmhfdbaa
end

section
namespace Go.Proofs.Ythlolelbmhfdbaa
set_option maxRecDepth 20000
open Go.AE
theorem sk_ok {s : Sk} (h : chkS s = 0) : ∃ (H Z : Nat) (ls : List (List Bx)), s = ⟨H, Z, ls⟩ ∧ VS ⟨H, Z, ls⟩ H Z := by
  obtain ⟨H, Z, hv⟩ := vs_of h
  obtain ⟨h', z', ls⟩ := s
  have e1 := hv.h; have e2 := hv.z
  simp only at e1 e2
  subst e1; subst e2
  exact ⟨H, Z, ls, rfl, hv⟩
theorem fineF_p (s : Sk) (c : Option Nat) (h : (!grt s && decide (chkS s = 0)) = false) : Pure Try.prog 47 [.agg [i64 s.h, i64 s.z, landsA s.ls c]] (.bool false) := by
  have := fine_p s c; rwa [h] at this
theorem fineT_p (H Z : Nat) (ls : List (List Bx)) (c : Option Nat) (hg : grt ⟨H, Z, ls⟩ = false) (hc : chkS ⟨H, Z, ls⟩ = 0) : Pure Try.prog 47 [.agg [i64 (H : Nat), i64 (Z : Nat), landsA ls c]] (.bool true) := by
  have := fine_p ⟨H, Z, ls⟩ c; rwa [hg, hc] at this
theorem neiK_sz {Z H : Nat} {ls : List (List Bx)} {a : Nat} (hn : ls.length ≤ 10) : (neiK Z H ls a ls.length).length ≤ 1000000 := Nat.le_trans neiK_len (by omega)
theorem brdZ_p (H Z : Nat) (ls : List (List Bx)) (c : Option Nat) (hc : chkS ⟨H, Z, ls⟩ = 0) (hv : VS ⟨H, Z, ls⟩ H Z) (a b : Nat) (ha : a < ls.length) (h : a = b) : Pure Try.prog 31 [.agg [i64 (H : Nat), i64 (Z : Nat), landsA ls c], i64 (a : Nat), i64 (b : Nat)] (.tup [i64 0, i64 15]) := by
  subst h; exact brd_q H Z ls c hc hv a ha
end Go.Proofs.Ythlolelbmhfdbaa
end

section
namespace Go.Proofs.Ythlolelbmhfdbaa
set_option maxRecDepth 20000
open Go.AE
theorem cntF {p : Nat → Bool} : ∀ {n : Nat}, ((List.range n).filter p).length = ((List.range n).map fun i => if p i = true then 1 else 0).sum
  | 0 => rfl
  | n + 1 => by
    rw [List.range_succ, List.filter_append, List.length_append, List.map_append, List.sum_append, cntF (n := n)]
    congr 1
    by_cases h : p n = true
    · simp [h]
    · simp [h]
theorem range_getD {α : Type} {f : α → Nat} {d : α} {l : List α} : ((List.range l.length).map fun i => f (l.getD i d)) = l.map f := by
  apply List.ext_getElem (by simp)
  intro i h1 h2
  simp at h1 h2
  simp [List.getD_eq_getElem?_getD, List.getElem?_eq_getElem, h1]
theorem cntQ_sum {ls : List (List Bx)} {H : Nat} {p : Nat × Nat} : cntQ ls H p = (ls.map fun l => bitQ l H p.1 p.2).sum := by
  unfold cntQ ofQ
  rw [List.length_map, cntF]
  have : ((List.range ls.length).map fun i => if inL' (ls.getD i []) H p.1 p.2 = true then 1 else 0) = (List.range ls.length).map fun i => (fun l => bitQ l H p.1 p.2) (ls.getD i []) := rfl
  rw [this, range_getD (f := fun l => bitQ l H p.1 p.2)]
end Go.Proofs.Ythlolelbmhfdbaa
end

section
namespace Go.Proofs.Ythlolelbmhfdbaa
set_option maxRecDepth 20000
open Go.AE
theorem onceN {H Z : Nat} {ls : List (List Bx)} (hc : chkS ⟨H, Z, ls⟩ = 0) (hn : fltQ Z H ls = none) : onceQ ⟨H, Z, ls⟩ = 0 := by unfold onceQ; rw [fltR_n hc hn]; rfl
theorem onceS {H Z : Nat} {ls : List (List Bx)} {p : Nat × Nat} (hc : chkS ⟨H, Z, ls⟩ = 0) (hn : fltQ Z H ls = some p) : onceQ ⟨H, Z, ls⟩ = 19 := by unfold onceQ; rw [fltR_s hc hn]; rfl
theorem vs_bl {H Z : Nat} {ls : List (List Bx)} (hv : VS ⟨H, Z, ls⟩ H Z) : ∀ l ∈ ls, l.length ≤ 1000000 := fun l hl => Nat.le_trans (hv.lb l hl) (by decide)
theorem vs_ln {H Z : Nat} {ls : List (List Bx)} (hv : VS ⟨H, Z, ls⟩ H Z) : ls.length ≤ 1000000 := Nat.le_trans hv.ln (by decide)
end Go.Proofs.Ythlolelbmhfdbaa
end

section
namespace Go.Proofs.Ythlolelbmhfdbaa
set_option maxRecDepth 20000
open Go.AE
theorem vs_chk {H Z : Nat} {ls : List (List Bx)} (h : VS ⟨H, Z, ls⟩ H Z) : chkS ⟨H, Z, ls⟩ = 0 := by
  have h1 := h.h1; have h2 := h.z1; have h3 := h.ln; have h4 := h.lb; have h5 := h.bx
  simp only at h3 h4 h5
  unfold chkS
  rw [if_neg, if_neg, if_neg]
  · simp only [List.any_eq_true, not_exists, not_and]
    intro l hl b hb
    have := isB_iff.2 (h5 l hl b hb)
    simp [this]
  · simp only [Bool.or_eq_true, decide_eq_true_eq, List.any_eq_true, not_or, not_exists, not_and]
    exact ⟨by omega, fun l hl => by have := h4 l hl; omega⟩
  · rw [inL1, inL1]; simp; omega
end Go.Proofs.Ythlolelbmhfdbaa
end

section
namespace Go.Proofs.Ythlolelbmhfdbaa
set_option maxRecDepth 20000
open Go.AE
theorem mod2 {x H : Nat} (h : x < 2 * H) : x % H = if x < H then x else x - H := by
  split
  · exact Nat.mod_eq_of_lt ‹_›
  · rw [Nat.mod_eq_sub_mod (by omega), Nat.mod_eq_of_lt (by omega)]
section
variable {H z h f : Nat} {p : Nat → Bool} {P : Nat → Nat → Bool}
theorem least (q : Nat → Bool) : ∀ n, (∀ j, j < n → q j = true) ∨ ∃ d, d < n ∧ q d = false ∧ ∀ j, j < d → q j = true
  | 0 => .inl fun j h => by omega
  | n + 1 => by
    rcases least q n with h | ⟨d, h1, h2, h3⟩
    · cases e : q n with
      | false => exact .inr ⟨n, by omega, e, h⟩
      | true =>
        refine .inl fun j hj => ?_
        by_cases e2 : j = n
        · subst e2; exact e
        · exact h j (by omega)
    · exact .inr ⟨d, by omega, h2, h3⟩
end
end Go.Proofs.Ythlolelbmhfdbaa
end

section
namespace Go.Proofs.Ythlolelbmhfdbaa
set_option maxRecDepth 20000
open Go.AE
section
variable {Z H : Nat} {l l' m m' : List Bx} {ls ls' : List (List Bx)}
structure Eqs (H : Nat) (ls' ls : List (List Bx)) : Prop where
  len : ls'.length = ls.length
  eq : ∀ i, inL' (ls'.getD i []) H = inL' (ls.getD i []) H
theorem Eqs.at (h : Eqs H ls' ls) {i : Nat} (h1 : i < ls'.length) (h2 : i < ls.length) : inL' ls'[i] H = inL' ls[i] H := by
  have := h.eq i
  simpa [List.getD_eq_getElem?_getD, List.getElem?_eq_getElem, h1, h2] using this
end
end Go.Proofs.Ythlolelbmhfdbaa
end

section
namespace Go.Proofs.Ythlolelbmhfdbaa
set_option maxRecDepth 20000
open Go.AE
section
variable (H Z : Nat) (ls : List (List Bx)) (c : Option Nat) (hc : chkS ⟨H, Z, ls⟩ = 0) (hv : VS ⟨H, Z, ls⟩ H Z) (l0 : List (List Bx)) (he : Eqs H ls l0) (h0 : chkS ⟨H, Z, l0⟩ = 0)
include hc hv he
include h0
end
theorem tinQ_sz {Z H : Nat} {ls : List (List Bx)} (hn : ls.length ≤ 10) : (tinQ (ntrK Z H ls ls.length)).length ≤ 1000000 := by
  rw [tin_len ntr_ok, ntrK_len]; omega
end Go.Proofs.Ythlolelbmhfdbaa
end

section
namespace Go.Proofs.Ythlolelbmhfdbaa
set_option maxRecDepth 20000
open Go.AE
abbrev Pl2 := Nat × Nat
def inP (Z H : Nat) (la : List Bx) (p : Pl2) : Prop := (p.1 < Z ∧ p.2 < H) ∧ inL' la H p.1 p.2 = true
inductive Con (Z H : Nat) (la : List Bx) (p : Pl2) : Pl2 → Prop
  | refl : Con Z H la p p
  | step {q r : Pl2} : Con Z H la p q → r ∈ bsP Z H q.1 q.2 → inL' la H r.1 r.2 = true → Con Z H la p r
section
variable {Z H : Nat} {la : List Bx} {S : List Pl2}
theorem adj_mem {p q : Pl2} : q ∈ bsP Z H p.1 p.2 ↔ adjQ Z H p q ≠ 0 := by
  have one : ∀ (c : Prop) [Decidable c] (x : Pl2), q ∈ (if c then [x] else []) ↔ (if c ∧ q = x then 1 else 0 : Nat) ≠ 0 := by
    intro c _ x
    by_cases h : c <;> by_cases h2 : q = x <;> simp [h, h2]
  unfold bsP adjQ
  simp only [List.mem_append, one]
  omega
theorem bsP_comm {p q : Pl2} (hp : p.1 < Z ∧ p.2 < H) (h : q ∈ bsP Z H p.1 p.2) : p ∈ bsP Z H q.1 q.2 := by
  have hq := bsP_in hp.1 hp.2 q h
  rw [adj_mem] at h ⊢
  rwa [adjQ_comm hq hp]
theorem Con.inn {p q : Pl2} (hp : inP Z H la p) (h : Con Z H la p q) : inP Z H la q := by
  induction h with
  | refl => exact hp
  | step _ h1 h2 ih => exact ⟨bsP_in ih.1.1 ih.1.2 _ h1, h2⟩
theorem Con.trans {p q r : Pl2} (h : Con Z H la p q) (h2 : Con Z H la q r) : Con Z H la p r := by
  induction h2 with
  | refl => exact h
  | step _ a b ih => exact .step ih a b
theorem Con.symm {p q : Pl2} (hp : inP Z H la p) (h : Con Z H la p q) : Con Z H la q p := by
  induction h with
  | refl => exact .refl
  | @step q r h1 a b ih =>
    have hq := h1.inn hp
    exact (Con.step .refl (bsP_comm hq.1 a) hq.2).trans ih
def closed (Z H : Nat) (la : List Bx) (S : List Pl2) (k : Nat) : Prop := ∀ i (hi : i < S.length), i < k → ∀ q ∈ bsP Z H S[i].1 S[i].2, inL' la H q.1 q.2 = true → q ∈ S
theorem Con.stay {p q : Pl2} (hc : closed Z H la S S.length) (hp : p ∈ S) (h : Con Z H la p q) : q ∈ S := by
  induction h with
  | refl => exact hp
  | step _ a b ih =>
    obtain ⟨i, hi, e⟩ := List.getElem_of_mem ih
    exact hc i hi hi _ (by rw [e]; exact a) b
structure Grow (Z H : Nat) (la : List Bx) (s : Pl2) (S S' : List Pl2) : Prop where
  pre : ∃ N, S' = S ++ N
  con : ∀ q ∈ S', q ∈ S ∨ Con Z H la s q
theorem Grow.refl {s : Pl2} : Grow Z H la s S S := ⟨⟨[], by simp⟩, fun q h => .inl h⟩
theorem Grow.trans {s : Pl2} {S' S'' : List Pl2} (h : Grow Z H la s S S') (h2 : Grow Z H la s S' S'') : Grow Z H la s S S'' := by
  obtain ⟨N, e⟩ := h.pre; obtain ⟨M, e2⟩ := h2.pre
  exact ⟨⟨N ++ M, by rw [e2, e, List.append_assoc]⟩, fun q hq => (h2.con q hq).elim (h.con q) .inr⟩
theorem add_grow {s q : Pl2} (hq : inL' la H q.1 q.2 = true → Con Z H la s q) : Grow Z H la s S (addQ H la S q) := by
  unfold addQ; split
  · rename_i h
    exact ⟨⟨[q], rfl⟩, fun r hr => (List.mem_append.1 hr).imp id fun h2 => by rw [List.mem_singleton.1 h2]; exact hq h.1⟩
  · exact .refl
theorem add_has {q : Pl2} (hq : inL' la H q.1 q.2 = true) : q ∈ addQ H la S q := by
  unfold addQ; split
  · simp
  · rename_i h
    have : S.contains q = true := by
      cases e : S.contains q with
      | true => rfl
      | false => exact absurd ⟨hq, e⟩ h
    simpa using this
theorem fold_grow {s : Pl2} : ∀ {l : List Pl2} {S : List Pl2}, (∀ q ∈ l, inL' la H q.1 q.2 = true → Con Z H la s q) → Grow Z H la s S (l.foldl (addQ H la) S)
  | [], S, _ => .refl
  | a :: l, S, h => (add_grow (S := S) (h a (.head _))).trans (fold_grow (l := l) fun q hq => h q (.tail _ hq))
theorem fold_pre {x : Pl2} : ∀ {l : List Pl2} {S : List Pl2}, x ∈ S → x ∈ l.foldl (addQ H la) S
  | [], _, h => h
  | b :: l, S, h => by
    refine fold_pre (l := l) ?_
    unfold addQ; split
    · exact List.mem_append_left _ h
    · exact h
theorem fold_has : ∀ {l : List Pl2} {S : List Pl2} (q : Pl2), q ∈ l → inL' la H q.1 q.2 = true → q ∈ l.foldl (addQ H la) S
  | [], _, _, h, _ => absurd h List.not_mem_nil
  | a :: l, S, q, h, hq => by
    rcases List.mem_cons.1 h with rfl | h
    · show q ∈ l.foldl (addQ H la) (addQ H la S q)
      exact fold_pre (l := l) (add_has hq)
    · exact fold_has (l := l) q h hq
theorem exp_grow {s p : Pl2} (hp : Con Z H la s p) : Grow Z H la s S (expQ Z H la S p) := fold_grow fun q hq h => .step hp hq h
theorem exp_has {p q : Pl2} (hq : q ∈ bsP Z H p.1 p.2) (h : inL' la H q.1 q.2 = true) : q ∈ expQ Z H la S p := fold_has q hq h
theorem run_grow : ∀ (f : Nat) {S : List Pl2} {k n0 : Nat} {s : Pl2}, PcOk Z H S → (∀ i (hi : i < S.length), n0 ≤ i → Con Z H la s S[i]) → n0 ≤ k → closed Z H la S k → Z * H ≤ f + k → Grow Z H la s S (runQ Z H la f S k) ∧ closed Z H la (runQ Z H la f S k) (runQ Z H la f S k).length
  | 0, S, k, n0, s, hok, hcn, hk, hcl, hf => by
    have := hok.len
    have e : runQ Z H la 0 S k = S := rfl
    rw [e]
    exact ⟨.refl, fun i hi h2 => hcl i hi (by omega)⟩
  | f + 1, S, k, n0, s, hok, hcn, hk, hcl, hf => by
    by_cases h : k < S.length
    · rw [runQ_step h]
      have hg : Grow Z H la s S (expQ Z H la S S[k]) := exp_grow (hcn k h hk)
      obtain ⟨N, e⟩ := hg.pre
      have hok' : PcOk Z H (expQ Z H la S S[k]) := hok.exp (hok.pl _ (List.getElem_mem h))
      have ih := run_grow f (S := expQ Z H la S S[k]) (k := k + 1) (n0 := n0) (s := s) hok' (fun i hi h2 => by
        have hnd := hok'.nd
        by_cases hlt : i < S.length
        · have : (expQ Z H la S S[k])[i] = S[i] := by simp only [e]; rw [List.getElem_append_left hlt]
          rw [this]; exact hcn i hlt h2
        · rcases hg.con _ (List.getElem_mem hi) with h3 | h3
          · exfalso
            simp only [e] at h3 hnd hi
            rw [List.getElem_append_right (by omega)] at h3
            have hi' : i - S.length < N.length := by rw [List.length_append] at hi; omega
            exact (List.nodup_append.1 hnd).2.2 _ h3 _ (List.getElem_mem hi') rfl
          · exact h3) (by omega) (fun i hi h2 q hq hin => by
        by_cases e2 : i = k
        · subst e2
          have e3 : (expQ Z H la S S[i])[i] = S[i] := by simp only [e]; rw [List.getElem_append_left h]
          rw [e3] at hq
          exact exp_has hq hin
        · have hlt : i < S.length := by omega
          have e3 : (expQ Z H la S S[k])[i] = S[i] := by simp only [e]; rw [List.getElem_append_left hlt]
          rw [e3] at hq
          have := hcl i hlt (by omega) q hq hin
          rw [e]; exact List.mem_append_left _ this) (by omega)
      exact ⟨hg.trans ih.1, ih.2⟩
    · rw [runQ_end (by omega)]
      exact ⟨.refl, fun i hi h2 => hcl i hi (by omega)⟩
structure Pcs (Z H : Nat) (la : List Bx) (S : List Pl2) (n i : Nat) : Prop where
  inn : ∀ p ∈ S, inP Z H la p
  cl : closed Z H la S S.length
  rep : ∃ R : List Pl2, R.length = n ∧ (∀ r ∈ R, r ∈ S) ∧ R.Pairwise (fun a b => ¬ Con Z H la a b) ∧ ∀ p ∈ S, ∃ r ∈ R, Con Z H la r p
  all : ∀ j (hj : j < (plcQ Z H).length), j < i → inL' la H (plcQ Z H)[j].1 (plcQ Z H)[j].2 = true → (plcQ Z H)[j] ∈ S
theorem pcs_K : ∀ i, i ≤ (plcQ Z H).length → Pcs Z H la (pieK Z H la i).1 (pieK Z H la i).2 i
  | 0, _ => ⟨fun p h => absurd h List.not_mem_nil, fun i hi => absurd hi (Nat.not_lt_zero _), ⟨[], rfl, fun r h => absurd h List.not_mem_nil, .nil, fun p h => absurd h List.not_mem_nil⟩, fun j _ h => absurd h (Nat.not_lt_zero _)⟩
  | i + 1, h => by
    have hi : i < (plcQ Z H).length := by omega
    have ih := pcs_K i (by omega)
    have hok := pieK_ok (Z := Z) (H := H) (la := la) i
    by_cases hc : inL' la H (plcQ Z H)[i].1 (plcQ Z H)[i].2 = true ∧ (pieK Z H la i).1.contains (plcQ Z H)[i] = false
    · rw [pieK_t hi hc]
      generalize hS : (pieK Z H la i).1 = S at *
      generalize hn : (pieK Z H la i).2 = n at *
      have hpi : inP Z H la (plcQ Z H)[i] := ⟨plcQ_in (List.getElem_mem hi), hc.1⟩
      have hnot : (plcQ Z H)[i] ∉ S := by simpa using hc.2
      generalize hs : (plcQ Z H)[i] = s at hc hpi hnot ⊢
      have hok2 := hok.snoc hpi.1 hc.2
      obtain ⟨hg, hcl⟩ := run_grow (Z := Z) (H := H) (la := la) (Z * H) (S := S ++ [s]) (k := S.length) (n0 := S.length) (s := s) hok2 (fun j hj h2 => by
        rw [List.length_append, List.length_singleton] at hj
        have : j = S.length := by omega
        subst this
        rw [List.getElem_append_right (Nat.le_refl _)]; simp; exact .refl) (Nat.le_refl _) (fun j hj h2 q hq hin => by
        have e : (S ++ [s])[j] = S[j] := List.getElem_append_left h2
        rw [e] at hq
        exact List.mem_append_left _ (ih.cl j h2 h2 q hq hin)) (by omega)
      generalize runQ Z H la (Z * H) (S ++ [s]) S.length = S' at *
      have hsub : ∀ p ∈ S ++ [s], p ∈ S' := fun p hp => by obtain ⟨N, e⟩ := hg.pre; rw [e]; exact List.mem_append_left _ hp
      have hcases : ∀ p ∈ S', p ∈ S ∨ Con Z H la s p := fun p hp => by
        rcases hg.con p hp with h1 | h1
        · rcases List.mem_append.1 h1 with h2 | h2
          · exact .inl h2
          · rw [List.mem_singleton.1 h2]; exact .inr .refl
        · exact .inr h1
      obtain ⟨R, r1, r2, r3, r4⟩ := ih.rep
      refine ⟨fun p hp => (hcases p hp).elim (ih.inn p) fun h1 => h1.inn hpi, hcl, ⟨R ++ [s], by rw [List.length_append, r1]; rfl, fun r hr => ?_, ?_, fun p hp => ?_⟩, fun j hj h2 h3 => ?_⟩
      · rcases List.mem_append.1 hr with h1 | h1
        · exact hsub _ (List.mem_append_left _ (r2 r h1))
        · exact hsub _ (List.mem_append_right _ h1)
      · rw [List.pairwise_append]
        refine ⟨r3, List.pairwise_singleton _ _, fun a ha b hb => ?_⟩
        rw [List.mem_singleton.1 hb]
        exact fun hcon => hnot (hcon.stay ih.cl (r2 a ha))
      · rcases hcases p hp with h1 | h1
        · obtain ⟨r, hr, h2⟩ := r4 p h1
          exact ⟨r, List.mem_append_left _ hr, h2⟩
        · exact ⟨s, List.mem_append_right _ (List.mem_singleton.2 rfl), h1⟩
      · by_cases e : j = i
        · subst e; rw [hs]; exact hsub _ (List.mem_append_right _ (List.mem_singleton.2 rfl))
        · exact hsub _ (List.mem_append_left _ (ih.all j hj (by omega) h3))
    · rw [pieK_f hi hc]
      refine ⟨ih.inn, ih.cl, ih.rep, fun j hj h2 h3 => ?_⟩
      by_cases e : j = i
      · subst e
        cases e2 : (pieK Z H la j).1.contains (plcQ Z H)[j] with
        | true => simpa using e2
        | false => exact absurd ⟨h3, e2⟩ hc
      · exact ih.all j hj (by omega) h3
end
end Go.Proofs.Ythlolelbmhfdbaa
end

section
namespace Go.Proofs.Ythlolelbmhfdbaa
set_option maxRecDepth 20000
open Go.AE
abbrev rng (Z H : Nat) (p : Pl2) : Prop := p.1 < Z ∧ p.2 < H
structure Turn (Z H : Nat) (t u : Pl2 → Pl2) : Prop where
  it : ∀ p, rng Z H p → rng Z H (t p)
  iu : ∀ p, rng Z H p → rng Z H (u p)
  ut : ∀ p, rng Z H p → u (t p) = p
  tu : ∀ p, rng Z H p → t (u p) = p
  adj : ∀ p q, rng Z H p → rng Z H q → adjQ Z H (t p) (t q) = adjQ Z H p q
theorem Turn.inv {Z H : Nat} {t u : Pl2 → Pl2} (h : Turn Z H t u) : Turn Z H u t :=
  ⟨h.iu, h.it, h.tu, h.ut, fun p q hp hq => by rw [← h.adj _ _ (h.iu p hp) (h.iu q hq), h.tu p hp, h.tu q hq]⟩
theorem Turn.comp {Z H : Nat} {t u t' u' : Pl2 → Pl2} (h : Turn Z H t u) (h2 : Turn Z H t' u') : Turn Z H (fun p => t (t' p)) (fun p => u' (u p)) :=
  ⟨fun p hp => h.it _ (h2.it p hp), fun p hp => h2.iu _ (h.iu p hp), fun p hp => by rw [h.ut _ (h2.it p hp), h2.ut p hp], fun p hp => by rw [h2.tu _ (h.iu p hp), h.tu p hp], fun p q hp hq => by rw [h.adj _ _ (h2.it p hp) (h2.it q hq), h2.adj p q hp hq]⟩
def Trnd (Z H : Nat) (t : Pl2 → Pl2) (la lb : List Bx) : Prop := ∀ p, rng Z H p → inL' lb H p.1 p.2 = inL' la H (t p).1 (t p).2
theorem Trnd.inv {Z H : Nat} {t u : Pl2 → Pl2} {la lb : List Bx} (ht : Turn Z H t u) (h : Trnd Z H t la lb) : Trnd Z H u lb la := fun p hp => by
  rw [h _ (ht.iu p hp), ht.tu p hp]
section
variable {Z H : Nat} {t u : Pl2 → Pl2} {la lb lc ld : List Bx}
theorem turn_sum (ht : Turn Z H t u) (f : Pl2 → Nat) : ((plcQ Z H).map fun p => f (t p)).sum = ((plcQ Z H).map f).sum := by
  have e1 : ((plcQ Z H).map fun p => f (t p)).sum = ((plcQ Z H).map fun p => ((plcQ Z H).map fun q => if q = t p then f q else 0).sum).sum :=
    sumS_congr fun p hp => (sumS_one plcQ_nodup (plcQ_mem.2 (ht.it p (plcQ_in hp)))).symm
  rw [e1, sumS_swap]
  refine sumS_congr fun q hq => ?_
  have hq' := plcQ_in hq
  rw [sumS_congr (g := fun p => if p = u q then f q else 0) fun p hp => ?_]
  · exact sumS_one (f := fun _ => f q) plcQ_nodup (plcQ_mem.2 (ht.iu q hq'))
  · have : (q = t p) ↔ (p = u q) := ⟨fun e => by rw [e, ht.ut p (plcQ_in hp)], fun e => by rw [e, ht.tu q hq']⟩
    simp only [this]
theorem trnd_bit (h : Trnd Z H t la lb) {p : Pl2} (hp : rng Z H p) : bitQ lb H p.1 p.2 = bitQ la H (t p).1 (t p).2 := by unfold bitQ; rw [h p hp]
theorem trnd_siz (ht : Turn Z H t u) (h : Trnd Z H t la lb) : sizQ Z H lb = sizQ Z H la := by
  rw [sizQ_plc, sizQ_plc, ← turn_sum ht (fun p => bitQ la H p.1 p.2)]
  exact sumS_congr fun p hp => trnd_bit h (plcQ_in hp)
theorem trnd_br (ht : Turn Z H t u) (h : Trnd Z H t la lb) (h2 : Trnd Z H t lc ld) : brQ Z H lb ld = brQ Z H la lc := by
  rw [brQ_adj, brQ_adj]
  rw [← turn_sum ht (fun p => ((plcQ Z H).map fun q => bitQ la H p.1 p.2 * (adjQ Z H p q * bitQ lc H q.1 q.2)).sum)]
  refine sumS_congr fun p hp => ?_
  rw [← turn_sum ht (fun q => bitQ la H (t p).1 (t p).2 * (adjQ Z H (t p) q * bitQ lc H q.1 q.2))]
  refine sumS_congr fun q hq => ?_
  rw [trnd_bit h (plcQ_in hp), trnd_bit h2 (plcQ_in hq), ht.adj p q (plcQ_in hp) (plcQ_in hq)]
theorem trnd_met (ht : Turn Z H t u) (h : Trnd Z H t la lb) (h2 : Trnd Z H t lc ld) : metQ Z H lb ld = metQ Z H la lc := by
  rw [Bool.eq_iff_iff]
  unfold metQ
  simp only [List.any_eq_true]
  constructor
  · rintro ⟨p, hp, e⟩
    rw [h p (plcQ_in hp), h2 p (plcQ_in hp)] at e
    exact ⟨t p, plcQ_mem.2 (ht.it p (plcQ_in hp)), e⟩
  · rintro ⟨p, hp, e⟩
    refine ⟨u p, plcQ_mem.2 (ht.iu p (plcQ_in hp)), ?_⟩
    rw [h _ (ht.iu p (plcQ_in hp)), h2 _ (ht.iu p (plcQ_in hp)), ht.tu p (plcQ_in hp)]; exact e
theorem trnd_nr (ht : Turn Z H t u) (h : Trnd Z H t la lb) (h2 : Trnd Z H t lc ld) : nrQ Z H lb ld = nrQ Z H la lc := by
  unfold nrQ; rw [trnd_met ht h h2, trnd_br ht h h2]
theorem trnd_con (ht : Turn Z H t u) (h : Trnd Z H t la lb) {p q : Pl2} (hp : inP Z H lb p) (hc : Con Z H lb p q) : Con Z H la (t p) (t q) := by
  induction hc with
  | refl => exact .refl
  | @step q r h1 a b ih =>
    have hq := h1.inn hp
    have hr : rng Z H r := bsP_in hq.1.1 hq.1.2 _ a
    refine .step ih ?_ (by rw [← h r hr]; exact b)
    rw [adj_mem] at a ⊢
    rwa [ht.adj q r hq.1 hr]
theorem pigeon {c : Pl2 → Pl2 → Prop} {d : Pl2 → Pl2 → Prop} (hcd : ∀ r x y, c r x → c r y → d x y) : ∀ {A R : List Pl2}, A.Pairwise (fun a b => ¬ d a b) → (∀ x ∈ A, ∃ r ∈ R, c r x) → A.length ≤ R.length
  | [], _, _, _ => Nat.zero_le _
  | x :: A, R, hp, hr => by
    obtain ⟨r, hrR, hrx⟩ := hr x (.head _)
    rw [List.pairwise_cons] at hp
    have := pigeon hcd (A := A) (R := R.erase r) hp.2 fun y hy => by
      obtain ⟨s, hs, hsy⟩ := hr y (.tail _ hy)
      refine ⟨s, (List.mem_erase_of_ne ?_).2 hs, hsy⟩
      rintro rfl
      exact hp.1 y hy (hcd _ _ _ hrx hsy)
    rw [List.length_erase_of_mem hrR] at this
    have h0 : 0 < R.length := List.length_pos_iff.2 (List.ne_nil_of_mem hrR)
    rw [List.length_cons]; omega
theorem pie_le (ht : Turn Z H t u) (h : Trnd Z H t la lb) : pieQ Z H lb ≤ pieQ Z H la := by
  have ha := pcs_K (Z := Z) (H := H) (la := la) _ (Nat.le_refl _)
  have hb := pcs_K (Z := Z) (H := H) (la := lb) _ (Nat.le_refl _)
  obtain ⟨R, r1, r2, r3, r4⟩ := ha.rep
  obtain ⟨B, b1, b2, b3, b4⟩ := hb.rep
  unfold pieQ
  rw [← r1, ← b1, ← List.length_map (f := t)]
  refine pigeon (c := fun r x => r ∈ R ∧ Con Z H la r x) (d := Con Z H la) (fun r x y hx hy => ?_) ?_ fun x hx => ?_
  · exact (hx.2.symm (ha.inn _ (r2 r hx.1))).trans hy.2
  · rw [List.pairwise_map]
    refine List.Pairwise.imp_of_mem ?_ b3
    intro p q hp hq hn hc
    have hpi := hb.inn p (b2 p hp)
    have hpa : inP Z H la (t p) := ⟨ht.it p hpi.1, by rw [← h p hpi.1]; exact hpi.2⟩
    have := trnd_con ht.inv (h.inv ht) hpa hc
    rw [ht.ut p hpi.1, ht.ut q (hb.inn q (b2 q hq)).1] at this
    exact hn this
  · obtain ⟨p, hp, rfl⟩ := List.mem_map.1 hx
    have hpi := hb.inn p (b2 p hp)
    have hpa : inP Z H la (t p) := ⟨ht.it p hpi.1, by rw [← h p hpi.1]; exact hpi.2⟩
    obtain ⟨j, hj, e⟩ := List.getElem_of_mem (plcQ_mem.2 hpa.1)
    have := ha.all j hj hj (by rw [e]; exact hpa.2)
    rw [e] at this
    obtain ⟨r, hr, hc⟩ := r4 _ this
    exact ⟨r, hr, hr, hc⟩
theorem trnd_pie (ht : Turn Z H t u) (h : Trnd Z H t la lb) : pieQ Z H lb = pieQ Z H la :=
  Nat.le_antisymm (pie_le ht h) (pie_le ht.inv (h.inv ht))
end
structure Trns (Z H : Nat) (t : Pl2 → Pl2) (ls ls' : List (List Bx)) : Prop where
  len : ls'.length = ls.length
  at_ : ∀ i (h1 : i < ls.length) (h2 : i < ls'.length), Trnd Z H t ls[i] ls'[i]
section
variable {Z H : Nat} {t u : Pl2 → Pl2} {ls ls' : List (List Bx)}
theorem Trns.getD (h : Trns Z H t ls ls') (i : Nat) : Trnd Z H t (ls.getD i []) (ls'.getD i []) := by
  by_cases hi : i < ls.length
  · have hi2 : i < ls'.length := by rw [h.len]; exact hi
    have := h.at_ i hi hi2
    simpa [List.getD_eq_getElem?_getD, List.getElem?_eq_getElem, hi, hi2] using this
  · have e1 : ls.getD i [] = [] := by simp [List.getD_eq_getElem?_getD, List.getElem?_eq_none (show ls.length ≤ i by omega)]
    have e2 : ls'.getD i [] = [] := by simp [List.getD_eq_getElem?_getD, List.getElem?_eq_none (show ls'.length ≤ i by rw [h.len]; omega)]
    rw [e1, e2]; intro p hp; simp [inL']
theorem trns_nei (ht : Turn Z H t u) (h : Trns Z H t ls ls') {a k : Nat} : neiK Z H ls' a k = neiK Z H ls a k := by
  unfold neiK; simp only [trnd_nr ht (h.getD _) (h.getD _)]
theorem trns_ntr (ht : Turn Z H t u) (h : Trns Z H t ls ls') {k : Nat} : ntrK Z H ls' k = ntrK Z H ls k := by
  unfold ntrK ntrR; simp only [trnd_nr ht (h.getD _) (h.getD _)]
theorem trns_cnt (h : Trns Z H t ls ls') {p : Pl2} (hp : rng Z H p) : cntQ ls' H p = cntQ ls H (t p) := by
  rw [cntQ_sum, cntQ_sum]
  congr 1
  apply List.ext_getElem (by simp [h.len])
  intro i h1 h2
  simp only [List.getElem_map]
  exact trnd_bit (h.at_ i (by simpa using h2) (by simpa using h1)) hp
theorem trns_flt (ht : Turn Z H t u) (h : Trns Z H t ls ls') : fltQ Z H ls' = none ↔ fltQ Z H ls = none := by
  unfold fltQ
  rw [List.find?_eq_none, List.find?_eq_none]
  constructor
  · intro h2 p hp
    have := h2 (u p) (plcQ_mem.2 (ht.iu p (plcQ_in hp)))
    rw [trns_cnt h (ht.iu p (plcQ_in hp)), ht.tu p (plcQ_in hp)] at this; exact this
  · intro h2 p hp
    have := h2 (t p) (plcQ_mem.2 (ht.it p (plcQ_in hp)))
    rw [trns_cnt h (plcQ_in hp)]; exact this
end
end Go.Proofs.Ythlolelbmhfdbaa
end

section
namespace Go.Proofs.Ythlolelbmhfdbaa
set_option maxRecDepth 20000
open Go.AE
theorem emod2 {x H : Int} (h0 : 0 ≤ x) (h : x < 2 * H) : x % H = if x < H then x else x - H := by
  split
  · exact Int.emod_eq_of_lt h0 ‹_›
  · rw [← Int.sub_emod_right]; exact Int.emod_eq_of_lt (by omega) (by omega)
theorem turn_z {Z H : Nat} : Turn Z H (fun p => (Z - 1 - p.1, p.2)) (fun p => (Z - 1 - p.1, p.2)) := by
  refine ⟨fun p h => ⟨by have := h.1; show Z - 1 - p.1 < Z; omega, h.2⟩, fun p h => ⟨by have := h.1; show Z - 1 - p.1 < Z; omega, h.2⟩, fun p h => ?_, fun p h => ?_, fun p q hp hq => ?_⟩
  · have := h.1; exact Prod.ext (by simp only; omega) rfl
  · have := h.1; exact Prod.ext (by simp only; omega) rfl
  · obtain ⟨z, h⟩ := p; obtain ⟨y, g⟩ := q
    have hp : z < Z ∧ h < H := hp
    have hq : y < Z ∧ g < H := hq
    unfold adjQ
    simp only [Prod.mk.injEq]
    have a1 := iteE (c := 1 < H ∧ Z - 1 - y = Z - 1 - z ∧ g = (h + 1) % H) (d := 1 < H ∧ y = z ∧ g = (h + 1) % H) (by omega)
    have a2 := iteE (c := 2 < H ∧ Z - 1 - y = Z - 1 - z ∧ g = (h + H - 1) % H) (d := 2 < H ∧ y = z ∧ g = (h + H - 1) % H) (by omega)
    have a3 := iteE (c := 0 < Z - 1 - z ∧ Z - 1 - y = Z - 1 - z - 1 ∧ g = h) (d := z + 1 < Z ∧ y = z + 1 ∧ g = h) (by omega)
    have a4 := iteE (c := Z - 1 - z + 1 < Z ∧ Z - 1 - y = Z - 1 - z + 1 ∧ g = h) (d := 0 < z ∧ y = z - 1 ∧ g = h) (by omega)
    omega
theorem turn_h {Z H : Nat} : Turn Z H (fun p => (p.1, H - 1 - p.2)) (fun p => (p.1, H - 1 - p.2)) := by
  refine ⟨fun p h => ⟨h.1, by have := h.2; show H - 1 - p.2 < H; omega⟩, fun p h => ⟨h.1, by have := h.2; show H - 1 - p.2 < H; omega⟩, fun p h => ?_, fun p h => ?_, fun p q hp hq => ?_⟩
  · have := h.2; exact Prod.ext rfl (by simp only; omega)
  · have := h.2; exact Prod.ext rfl (by simp only; omega)
  · obtain ⟨z, h⟩ := p; obtain ⟨y, g⟩ := q
    have hp : z < Z ∧ h < H := hp
    have hq : y < Z ∧ g < H := hq
    have hp2 := hp.2; have hq2 := hq.2
    unfold adjQ
    simp only [Prod.mk.injEq, succ_mod hp2, pred_mod hp2, succ_mod (show H - 1 - h < H by omega), pred_mod (show H - 1 - h < H by omega)]
    have a3 := iteE (c := 0 < z ∧ y = z - 1 ∧ H - 1 - g = H - 1 - h) (d := 0 < z ∧ y = z - 1 ∧ g = h) (by omega)
    have a4 := iteE (c := z + 1 < Z ∧ y = z + 1 ∧ H - 1 - g = H - 1 - h) (d := z + 1 < Z ∧ y = z + 1 ∧ g = h) (by omega)
    by_cases h2 : 2 < H
    · have a1 := iteE (c := 1 < H ∧ y = z ∧ H - 1 - g = if H - 1 - h + 1 < H then H - 1 - h + 1 else 0) (d := 2 < H ∧ y = z ∧ g = if 0 < h then h - 1 else H - 1) (by split <;> split <;> omega)
      have a2 := iteE (c := 2 < H ∧ y = z ∧ H - 1 - g = if 0 < H - 1 - h then H - 1 - h - 1 else H - 1) (d := 1 < H ∧ y = z ∧ g = if h + 1 < H then h + 1 else 0) (by split <;> split <;> omega)
      omega
    · have a1 := iteE (c := 1 < H ∧ y = z ∧ H - 1 - g = if H - 1 - h + 1 < H then H - 1 - h + 1 else 0) (d := 1 < H ∧ y = z ∧ g = if h + 1 < H then h + 1 else 0) (by split <;> split <;> omega)
      have a2 : (if 2 < H ∧ y = z ∧ H - 1 - g = (if 0 < H - 1 - h then H - 1 - h - 1 else H - 1) then 1 else 0 : Nat) = 0 := if_neg fun h => h2 h.1
      have a5 : (if 2 < H ∧ y = z ∧ g = (if 0 < h then h - 1 else H - 1) then 1 else 0 : Nat) = 0 := if_neg fun h => h2 h.1
      omega
theorem turn_s {Z H n : Nat} (hn : n < H) : Turn Z H (fun p => (p.1, (p.2 + H - n) % H)) (fun p => (p.1, (p.2 + n) % H)) := by
  have hm : ∀ x, x % H < H := fun x => Nat.mod_lt _ (by omega)
  refine ⟨fun p h => ⟨h.1, hm _⟩, fun p h => ⟨h.1, hm _⟩, fun p h => ?_, fun p h => ?_, fun p q hp hq => ?_⟩
  · have := h.2; refine Prod.ext rfl ?_
    show ((p.2 + H - n) % H + n) % H = p.2
    rw [Nat.mod_add_mod, show p.2 + H - n + n = p.2 + H by omega, Nat.add_mod_right, Nat.mod_eq_of_lt this]
  · have := h.2; refine Prod.ext rfl ?_
    show ((p.2 + n) % H + H - n) % H = p.2
    rw [mod2 (x := p.2 + n) (by omega)]
    split
    · rw [show p.2 + n + H - n = p.2 + H by omega, Nat.add_mod_right, Nat.mod_eq_of_lt this]
    · rw [show p.2 + n - H + H - n = p.2 by omega, Nat.mod_eq_of_lt this]
  · obtain ⟨z, h⟩ := p; obtain ⟨y, g⟩ := q
    have hp : z < Z ∧ h < H := hp
    have hq : y < Z ∧ g < H := hq
    have hp2 := hp.2; have hq2 := hq.2
    unfold adjQ
    have e1 : (h + H - n) % H = if h + H - n < H then h + H - n else h - n := by rw [mod2 (by omega)]; split <;> omega
    have e2 : (g + H - n) % H = if g + H - n < H then g + H - n else g - n := by rw [mod2 (by omega)]; split <;> omega
    have k1 := hm (h + H - n); have k2 := hm (g + H - n)
    simp only [Prod.mk.injEq, succ_mod hp2, pred_mod hp2, succ_mod k1, pred_mod k1]
    generalize hx : (h + H - n) % H = x at *
    generalize hw : (g + H - n) % H = w at *
    have hgx : (w = x) ↔ (g = h) := by rw [e1, e2]; split <;> split <;> omega
    have hs : (w = if x + 1 < H then x + 1 else 0) ↔ (g = if h + 1 < H then h + 1 else 0) := by rw [e1, e2]; (repeat' split) <;> omega
    have hq : (w = if 0 < x then x - 1 else H - 1) ↔ (g = if 0 < h then h - 1 else H - 1) := by rw [e1, e2]; (repeat' split) <;> omega
    simp only [hgx, hs, hq]
def shB (H : Nat) (n : Nat) (b : Bx) : Bx := ⟨(b.fr + n) % H, b.wd, b.lo, b.hi⟩
def fhB (H : Nat) (b : Bx) : Bx := ⟨(2 * H - b.fr - b.wd) % H, b.wd, b.lo, b.hi⟩
def fzB (Z : Nat) (b : Bx) : Bx := ⟨b.fr, b.wd, Z - b.hi, Z - b.lo⟩
theorem shB_is {Z H n : Nat} {b : Bx} (hb : isB b H Z = true) : isB (shB H n b) H Z = true := by
  rw [isB_iff] at hb ⊢
  have h1 := Int.emod_nonneg (b.fr + n) (show (H : Int) ≠ 0 by omega); have h2 := Int.emod_lt_of_pos (b.fr + n) (show (0 : Int) < H by omega)
  exact ⟨⟨h1, h2⟩, hb.2⟩
theorem fhB_is {Z H : Nat} {b : Bx} (hb : isB b H Z = true) : isB (fhB H b) H Z = true := by
  rw [isB_iff] at hb ⊢
  have h1 := Int.emod_nonneg (2 * H - b.fr - b.wd) (show (H : Int) ≠ 0 by omega); have h2 := Int.emod_lt_of_pos (2 * H - b.fr - b.wd) (show (0 : Int) < H by omega)
  exact ⟨⟨h1, h2⟩, hb.2⟩
theorem fzB_is {Z H : Nat} {b : Bx} (hb : isB b H Z = true) : isB (fzB Z b) H Z = true := by
  rw [isB_iff] at hb ⊢
  simp only [fzB]; omega
theorem esh {x y H : Int} (h : y = x + H) : x % H = y % H := by rw [h, Int.add_emod_right]
theorem shB_in {Z H n z h : Nat} {b : Bx} (hn : n < H) (hb : isB b H Z = true) (hh : h < H) : inN (shB H n b) H z h = inN b H z ((h + H - n) % H) := by
  have hb' := isB_iff.1 hb
  unfold inN shB
  congr 1
  apply decide_eq_decide.2
  have e1 : ((h : Int) - (b.fr + n) % H + H) % H = (((h + H - n) % H : Nat) - b.fr + H) % H := by
    have c1 : ((((h + H - n) % H : Nat)) : Int) = if h + H - n < H then (h : Int) + H - n else (h : Int) - n := by
      rw [mod2 (by omega)]
      by_cases hlt : h + H - n < H
      · rw [if_pos hlt, if_pos hlt]; omega
      · rw [if_neg hlt, if_neg hlt]; omega
    rw [c1, emod2 (x := b.fr + n) (by omega) (by omega)]
    split
    · split
      · exact esh (by omega)
      · exact congrArg (· % (H : Int)) (by omega)
    · split
      · exact congrArg (· % (H : Int)) (by omega)
      · exact (esh (by omega)).symm
  simp only at e1 ⊢
  rw [e1]
theorem fhB_in {Z H z h : Nat} {b : Bx} (hb : isB b H Z = true) (hh : h < H) : inN (fhB H b) H z h = inN b H z (H - 1 - h) := by
  have hb' := isB_iff.1 hb
  unfold inN fhB
  congr 1
  apply decide_eq_decide.2
  simp only
  rw [emod2 (x := 2 * H - b.fr - b.wd) (by omega) (by omega), show (((H - 1 - h : Nat)) : Int) = (H : Int) - 1 - h by omega]
  rw [emod2 (x := (H : Int) - 1 - h - b.fr + H) (by omega) (by omega)]
  split
  · rw [emod2 (by omega) (by omega)]; split <;> split <;> omega
  · rw [emod2 (by omega) (by omega)]; split <;> split <;> omega
theorem fzB_in {Z H z h : Nat} {b : Bx} (hz : z < Z) : inN (fzB Z b) H z h = inN b H (Z - 1 - z) h := by
  unfold inN fzB
  congr 1
  rw [Bool.eq_iff_iff]
  simp only [Bool.and_eq_true, decide_eq_true_eq]
  omega
theorem trnd_map {Z H : Nat} {t : Pl2 → Pl2} {f : Bx → Bx} {l : List Bx} (ht : ∀ p, rng Z H p → rng Z H (t p)) (hf : ∀ b ∈ l, ∀ p, rng Z H p → inN (f b) H p.1 p.2 = inN b H (t p).1 (t p).2) : Trnd Z H t l (l.map f) := fun p hp => by
  unfold inL'
  rw [decide_eq_true hp.2, decide_eq_true (ht p hp).2, List.any_map]
  congr 1
  rw [Bool.eq_iff_iff, List.any_eq_true, List.any_eq_true]
  constructor
  · rintro ⟨b, hb, e⟩; exact ⟨b, hb, by rw [← hf b hb p hp]; exact e⟩
  · rintro ⟨b, hb, e⟩; exact ⟨b, hb, by show inN (f b) H p.1 p.2 = true; rw [hf b hb p hp]; exact e⟩
theorem Trnd.comp {Z H : Nat} {t t' : Pl2 → Pl2} {la lb lc : List Bx} (h : Trnd Z H t la lb) (h2 : Trnd Z H t' lb lc) (ht' : ∀ p, rng Z H p → rng Z H (t' p)) : Trnd Z H (fun p => t (t' p)) la lc := fun p hp => by
  rw [h2 p hp, h _ (ht' p hp)]
def chgB (Z H n : Nat) (hours zones : Bool) (b : Bx) : Bx :=
  let c := if hours = true then fhB H (shB H n b) else shB H n b
  if zones = true then fzB Z c else c
def chgQ (Z H n : Nat) (hours zones : Bool) (ls : List (List Bx)) : List (List Bx) := ls.map (·.map (chgB Z H n hours zones))
theorem chgB_is {Z H n : Nat} {hours zones : Bool} {b : Bx} (hb : isB b H Z = true) : isB (chgB Z H n hours zones b) H Z = true := by
  unfold chgB
  cases hours <;> cases zones
  · exact shB_is hb
  · exact fzB_is (shB_is hb)
  · exact fhB_is (shB_is hb)
  · exact fzB_is (fhB_is (shB_is hb))
theorem chg_turn {Z H n : Nat} (hn : n < H) (hours zones : Bool) : ∃ t u, Turn Z H t u ∧ ∀ l : List Bx, (∀ b ∈ l, isB b H Z = true) → Trnd Z H t l (l.map (chgB Z H n hours zones)) := by
  have ts := turn_s (Z := Z) hn; have th := turn_h (Z := Z) (H := H); have tz := turn_z (Z := Z) (H := H)
  have s : ∀ l : List Bx, (∀ b ∈ l, isB b H Z = true) → Trnd Z H _ l (l.map (shB H n)) := fun l hl => trnd_map ts.it fun b hb p hp => shB_in hn (hl b hb) hp.2
  have f : ∀ l : List Bx, (∀ b ∈ l, isB b H Z = true) → Trnd Z H _ l (l.map (fhB H)) := fun l hl => trnd_map th.it fun b hb p hp => fhB_in (hl b hb) hp.2
  have g : ∀ l : List Bx, (∀ b ∈ l, isB b H Z = true) → Trnd Z H _ l (l.map (fzB Z)) := fun l hl => trnd_map tz.it fun b hb p hp => fzB_in hp.1
  have m1 : ∀ l : List Bx, (∀ b ∈ l, isB b H Z = true) → ∀ b ∈ l.map (shB H n), isB b H Z = true := fun l hl b hb => by obtain ⟨x, hx, rfl⟩ := List.mem_map.1 hb; exact shB_is (hl x hx)
  have m2 : ∀ l : List Bx, (∀ b ∈ l, isB b H Z = true) → ∀ b ∈ l.map (fhB H), isB b H Z = true := fun l hl b hb => by obtain ⟨x, hx, rfl⟩ := List.mem_map.1 hb; exact fhB_is (hl x hx)
  cases hours <;> cases zones
  · exact ⟨_, _, ts, fun l hl => s l hl⟩
  · refine ⟨_, _, ts.comp tz, fun l hl => ?_⟩
    have := (s l hl).comp (g _ (m1 l hl)) tz.it
    rwa [List.map_map] at this
  · refine ⟨_, _, ts.comp th, fun l hl => ?_⟩
    have := (s l hl).comp (f _ (m1 l hl)) th.it
    rwa [List.map_map] at this
  · refine ⟨_, _, (ts.comp th).comp tz, fun l hl => ?_⟩
    have := ((s l hl).comp (f _ (m1 l hl)) th.it).comp (g _ (m2 _ (m1 l hl))) tz.it
    rwa [List.map_map, List.map_map] at this
theorem chg_trns {Z H n : Nat} {ls : List (List Bx)} (hv : VS ⟨H, Z, ls⟩ H Z) (hn : n < H) (hours zones : Bool) : ∃ t u, Turn Z H t u ∧ Trns Z H t ls (chgQ Z H n hours zones ls) := by
  obtain ⟨t, u, ht, h⟩ := chg_turn (Z := Z) hn hours zones
  refine ⟨t, u, ht, by simp [chgQ], fun i h1 h2 => ?_⟩
  have e : (chgQ Z H n hours zones ls)[i] = ls[i].map (chgB Z H n hours zones) := by simp [chgQ]
  rw [e]
  exact h _ fun b hb => isB_iff.2 (hv.bx _ (List.getElem_mem h1) b hb)
theorem chgQ_len {Z H n : Nat} {hours zones : Bool} {ls : List (List Bx)} : (chgQ Z H n hours zones ls).length = ls.length := by simp [chgQ]
theorem chgQ_vs {Z H n : Nat} {hours zones : Bool} {ls : List (List Bx)} (hv : VS ⟨H, Z, ls⟩ H Z) : VS ⟨H, Z, chgQ Z H n hours zones ls⟩ H Z := by
  refine ⟨rfl, rfl, hv.h1, hv.z1, by show (chgQ Z H n hours zones ls).length ≤ 10; rw [chgQ_len]; exact hv.ln, fun l hl => ?_, fun l hl b hb => ?_⟩
  · obtain ⟨m, hm, rfl⟩ := List.mem_map.1 hl
    rw [List.length_map]; exact hv.lb m hm
  · obtain ⟨m, hm, rfl⟩ := List.mem_map.1 hl
    obtain ⟨x, hx, rfl⟩ := List.mem_map.1 hb
    exact isB_iff.1 (chgB_is (isB_iff.2 (hv.bx m hm x hx)))
end Go.Proofs.Ythlolelbmhfdbaa
end

section
namespace Go.Proofs.Ythlolelbmhfdbaa
set_option maxRecDepth 20000
open Go.AE
theorem chgL_snoc {Z H n k : Nat} {hours zones : Bool} {l : List Bx} (hk : k < l.length) {x : Bx} (hx : x = chgB Z H n hours zones l[k]) : (l.take (k + 1)).map (chgB Z H n hours zones) = (l.take k).map (chgB Z H n hours zones) ++ [x] := by
  rw [List.take_succ_eq_append_getElem hk, List.map_append, hx]; rfl
theorem chgS {Z H n k : Nat} {hours zones : Bool} {l E : List Bx} {x : Bx} (hk : k < l.length) (h : E = (l.take k).map (chgB Z H n hours zones)) (hx : x = chgB Z H n hours zones l[k]) : E ++ [x] = (l.take (k + 1)).map (chgB Z H n hours zones) := by
  rw [chgL_snoc hk hx, ← h]
theorem chgQ_snoc {Z H n k : Nat} {hours zones : Bool} {ls : List (List Bx)} (hk : k < ls.length) : (chgQ Z H n hours zones ls).take (k + 1) = (chgQ Z H n hours zones ls).take k ++ [ls[k].map (chgB Z H n hours zones)] := by
  rw [List.take_succ_eq_append_getElem (by rw [chgQ_len]; exact hk)]; simp [chgQ]
theorem changed_p (H Z : Nat) (ls : List (List Bx)) (c : Option Nat) (hv : VS ⟨H, Z, ls⟩ H Z) (n : Nat) (hn : n < H) (hours zones : Bool) : Pure Try.prog 50 [.agg [i64 (H : Nat), i64 (Z : Nat), landsA ls c], i64 (n : Nat), .bool hours, .bool zones] (.agg [i64 (H : Nat), i64 (Z : Nat), landsA (chgQ Z H n hours zones ls) none]) := by
  have hv' := hv
  obtain ⟨_, _, hH, hZ1, hln, hlb, hbx⟩ := hv'
  simp only at hln hlb hbx
  have hZ := hZ1.2
  have hHZ : Z * H ≤ 1152 := Nat.mul_le_mul hZ hH.2
  have hHZc : H * Z = Z * H := Nat.mul_comm _ _
  refine pure_of_body Try.func50 (c := body Try.f50) rfl (by simp [Try.ntmps50]) fun w0 Φ0 => ?_
  refine W_seq rfl ?_
  refine W_reg rfl ?_
  refine Rv rfl rfl rfl (U_boxF rfl rfl rfl) rfl rfl ?_
  refine Ra rfl rfl rfl (U_alloc) rfl rfl rfl ?_
  refine Re rfl ?_
  refine thenQ_n ?_
  refine W_seq rfl ?_
  refine W_reg rfl ?_
  refine Rv rfl rfl rfl (U_fieldAddrR rfl) rfl rfl ?_
  refine Rv rfl rfl rfl (U_load1 rfl rfl rfl) rfl rfl ?_
  refine Rv rfl rfl rfl (U_fieldAddrR rfl) rfl rfl ?_
  refine Rv rfl rfl rfl (U_load1 rfl rfl rfl) rfl rfl ?_
  refine Rv rfl rfl rfl (U_build rfl rfl) rfl rfl ?_
  refine Ra rfl rfl rfl (U_alloc) rfl rfl rfl ?_
  refine Rn rfl rfl rfl (U_storeAll rfl rfl rfl rfl rfl rfl) rfl ?_
  refine Re rfl ?_
  refine thenQ_n ?_
  refine W_seq rfl ?_
  refine W_seq rfl ?_
  refine W_reg rfl ?_
  refine Rv rfl rfl rfl (U_assign rfl) rfl rfl ?_
  refine Re rfl ?_
  refine thenQ_n ?_
  refine W_block rfl ?_
  refine WweakH (b := 1) (cs' := [i64 ((H : Nat) : Int), i64 ((Z : Nat) : Int), .out 2 0 1]) rfl (leL_cons (le_refl _) (leL_cons (le_refl _) (leL_cons le_nils_out (leL_refl _)))) ?_
  refine LoopTo (T' := [(1, i64 ((n : Nat) : Int)), (2, .bool hours), (3, .bool zones), (4, .rop [i64 ((H : Nat) : Int), i64 ((Z : Nat) : Int), .ros (ls.map boxesL) ls.length c] 0), (8, .ptr 0 0), (9, .ptr 1 0), (10, i64 ((0 : Nat) : Int))]) (H' := [(0, some (.cells [i64 0, i64 0, .nils] 24)), (1, some (.cells [i64 ((H : Nat) : Int), i64 ((Z : Nat) : Int), .out 2 [].length 1] 24)), (2, outB ([].map boxesL) 46 [].length)]) (n := 3) rfl (fun mz_ qz_ => ∃ (i : Nat) (D : List (List Bx)), i ≤ ls.length ∧ D = (chgQ Z H n hours zones ls).take i ∧ mz_ = ls.length - i ∧ qz_ = ⟨[(1, i64 ((n : Nat) : Int)), (2, .bool hours), (3, .bool zones), (4, .rop [i64 ((H : Nat) : Int), i64 ((Z : Nat) : Int), .ros (ls.map boxesL) ls.length c] 0), (8, .ptr 0 0), (9, .ptr 1 0), (10, i64 ((i : Nat) : Int))], [(0, some (.cells [i64 0, i64 0, .nils] 24)), (1, some (.cells [i64 ((H : Nat) : Int), i64 ((Z : Nat) : Int), .out 2 D.length 1] 24)), (2, outB (D.map boxesL) 46 D.length)], 3, []⟩) ⟨0, [], (by omega), rfl, rfl, rfl⟩ id ⟨eD rfl rfl, eD rfl rfl, eD rfl rfl, eD rfl rfl, e_ rfl rfl, e_ rfl rfl, eD rfl rfl, trivial⟩ ⟨rD rfl rfl rfl, r_ rfl rfl rfl, rO0 rfl, trivial⟩ rfl rfl rfl rfl (fun _ _ => rfl) ?_
  rintro _ _ ⟨i, D, hi0_0, hi0_1, rfl, rfl⟩
  have hDl : D.length = i := by rw [hi0_1, List.length_take, chgQ_len]; omega
  refine W_seq rfl ?_
  refine W_seq rfl ?_
  refine W_reg rfl ?_
  refine Rv rfl rfl rfl (U_move rfl) rfl rfl ?_
  refine Rv rfl rfl rfl (U_fieldAddrR rfl) rfl rfl ?_
  refine Rv rfl rfl rfl (U_load1 rfl rfl rfl) rfl rfl ?_
  refine Rv rfl rfl rfl (U_lenOf rfl len_ros) rfl rfl ?_
  refine Rv rfl rfl rfl (U_lss rfl rfl) rfl rfl ?_
  refine Re rfl ?_
  refine thenQ_n ?_
  refine WcondP rfl rfl (fun hc0 => ?_) (fun hc0 => ?_)
  · refine W_skip rfl ?_
    refine thenQ_n ?_
    refine W_seq rfl ?_
    refine W_block rfl ?_
    refine W_seq rfl ?_
    refine W_reg rfl ?_
    refine Rv rfl rfl rfl (U_assign rfl) rfl rfl ?_
    refine Re rfl ?_
    refine thenQ_n ?_
    refine W_seq rfl ?_
    refine W_seq rfl ?_
    refine W_reg rfl ?_
    refine Rv rfl rfl rfl (U_assign rfl) rfl rfl ?_
    refine Re rfl ?_
    refine thenQ_n ?_
    refine W_block rfl ?_
    refine LoopTo (T' := [(1, i64 ((n : Nat) : Int)), (2, .bool hours), (3, .bool zones), (4, .rop [i64 ((H : Nat) : Int), i64 ((Z : Nat) : Int), .ros (ls.map boxesL) ls.length c] 0), (8, .ptr 0 0), (9, .ptr 1 0), (10, i64 ((i : Nat) : Int)), (11, .out 3 [].length 4), (12, i64 ((0 : Nat) : Int))]) (H' := [(0, some (.cells [i64 0, i64 0, .nils] 24)), (1, some (.cells [i64 ((H : Nat) : Int), i64 ((Z : Nat) : Int), .out 2 D.length 1] 24)), (2, outB (D.map boxesL) 46 D.length), (3, outB ([].flatMap bxC) 44 [].length)]) (n := 4) rfl (fun mz_ qz_ => ∃ (k : Nat) (E : List Bx), k ≤ ls[i].length ∧ E = (ls[i].take k).map (chgB Z H n hours zones) ∧ mz_ = ls[i].length - k ∧ qz_ = ⟨[(1, i64 ((n : Nat) : Int)), (2, .bool hours), (3, .bool zones), (4, .rop [i64 ((H : Nat) : Int), i64 ((Z : Nat) : Int), .ros (ls.map boxesL) ls.length c] 0), (8, .ptr 0 0), (9, .ptr 1 0), (10, i64 ((i : Nat) : Int)), (11, .out 3 E.length 4), (12, i64 ((k : Nat) : Int))], [(0, some (.cells [i64 0, i64 0, .nils] 24)), (1, some (.cells [i64 ((H : Nat) : Int), i64 ((Z : Nat) : Int), .out 2 D.length 1] 24)), (2, outB (D.map boxesL) 46 D.length), (3, outB (E.flatMap bxC) 44 E.length)], 4, []⟩) ⟨0, [], (by omega), rfl, rfl, rfl⟩ id ⟨eD rfl rfl, eD rfl rfl, eD rfl rfl, eD rfl rfl, e_ rfl rfl, e_ rfl rfl, eD rfl rfl, eW rfl le_nils_out rfl, eD rfl rfl, trivial⟩ ⟨rD rfl rfl rfl, r_ rfl rfl rfl, rO (mapD (fun _ => rfl) _) rfl rfl, rO0 rfl, trivial⟩ rfl rfl rfl rfl (fun _ _ => rfl) ?_
    rintro _ _ ⟨k, E, hi1_0, hi1_1, rfl, rfl⟩
    have hEl : E.length = k := by rw [hi1_1, List.length_map, List.length_take]; omega
    refine W_seq rfl ?_
    refine W_seq rfl ?_
    refine W_reg rfl ?_
    refine Rv rfl rfl rfl (U_move rfl) rfl rfl ?_
    refine Rv rfl rfl rfl (U_fieldAddrR rfl) rfl rfl ?_
    refine Rv rfl rfl rfl (U_load1 rfl rfl rfl) rfl rfl ?_
    refine Rv rfl rfl rfl (U_move rfl) rfl rfl ?_
    have hx1 : i < ls.length := by omega
    refine Rv rfl rfl rfl (U_indexR (j := i) rfl rfl rfl hx1) rfl rfl ?_
    refine Rv rfl rfl rfl (U_load1 rfl rfl (getM hx1)) rfl rfl ?_
    refine Rv rfl rfl rfl (U_lenOf rfl len_ros) rfl rfl ?_
    refine Rv rfl rfl rfl (U_lss rfl rfl) rfl rfl ?_
    refine Re rfl ?_
    refine thenQ_n ?_
    refine WcondP rfl rfl (fun hc1 => ?_) (fun hc1 => ?_)
    · have hlbi := hlb ls[i] (List.getElem_mem (by omega))
      have hbi := hbx ls[i] (List.getElem_mem (by omega)) ls[i][k] (List.getElem_mem (by omega))
      have e1 : (ls[i][k].fr + (n : Int)).tmod (H : Int) = (ls[i][k].fr + (n : Int)) % (H : Int) := tmodP (by omega)
      have m1 := Int.emod_nonneg (ls[i][k].fr + (n : Int)) (show (H : Int) ≠ 0 by omega)
      have m2 := Int.emod_lt_of_pos (ls[i][k].fr + (n : Int)) (show (0 : Int) < (H : Int) by omega)
      have e2 : (2 * (H : Int) - (ls[i][k].fr + (n : Int)) % (H : Int) - ls[i][k].wd).tmod (H : Int) = (2 * (H : Int) - (ls[i][k].fr + (n : Int)) % (H : Int) - ls[i][k].wd) % (H : Int) := tmodP (by omega)
      refine W_skip rfl ?_
      refine thenQ_n ?_
      refine W_seq rfl ?_
      refine W_block rfl ?_
      refine W_seq rfl ?_
      refine W_reg rfl ?_
      refine Rv rfl rfl rfl (U_fieldAddrR rfl) rfl rfl ?_
      refine Rv rfl rfl rfl (U_load1 rfl rfl rfl) rfl rfl ?_
      refine Rv rfl rfl rfl (U_move rfl) rfl rfl ?_
      refine Rv rfl rfl rfl (U_indexR (j := i) rfl rfl rfl hx1) rfl rfl ?_
      refine Rv rfl rfl rfl (U_load1 rfl rfl (getM hx1)) rfl rfl ?_
      refine Rv rfl rfl rfl (U_move rfl) rfl rfl ?_
      have hx2 : k < ls[i].length := by omega
      refine Rv rfl rfl rfl (U_indexR (j := k) rfl rfl rfl hx2) rfl rfl ?_
      refine Rv rfl rfl rfl (U_load4 rfl rfl (bxG0 hx2) (bxG1 hx2) (bxG2 hx2) (bxG3 hx2)) rfl rfl ?_
      refine Ra rfl rfl rfl (U_alloc) rfl rfl rfl ?_
      refine Rn rfl rfl rfl (U_storeAll rfl rfl rfl rfl rfl rfl) rfl ?_
      refine Re rfl ?_
      refine thenQ_n ?_
      refine W_seq rfl ?_
      refine W_reg rfl ?_
      refine Rv rfl rfl rfl (U_fieldAddr rfl) rfl rfl ?_
      refine Rv rfl rfl rfl (U_load1 rfl rfl rfl) rfl rfl ?_
      refine Rv rfl rfl rfl (U_move rfl) rfl rfl ?_
      refine Rv rfl rfl rfl (U_add rfl rfl (w64 (by omega) (by omega))) rfl rfl ?_
      refine Rv rfl rfl rfl (U_fieldAddrR rfl) rfl rfl ?_
      refine Rv rfl rfl rfl (U_load1 rfl rfl rfl) rfl rfl ?_
      refine Rv rfl rfl rfl (U_rem rfl rfl (by omega) rfl) rfl rfl ?_
      refine Rv rfl rfl rfl (U_fieldAddr rfl) rfl rfl ?_
      refine Rn rfl rfl rfl (U_store rfl rfl rfl rfl rfl (Nat.le_of_ble_eq_true rfl) rfl rfl) rfl ?_
      refine Re rfl ?_
      refine thenQ_n ?_
      refine W_seq rfl ?_
      refine W_seq rfl ?_
      refine W_reg rfl ?_
      refine Rv rfl rfl rfl (U_move rfl) rfl rfl ?_
      refine Re rfl ?_
      refine thenQ_n ?_
      refine Wcond rfl rfl (fun hc2 => ?_) (fun hc2 => ?_)
      · have hcq1 := hc2
        refine W_reg rfl ?_
        refine Rv rfl rfl rfl (U_fieldAddrR rfl) rfl rfl ?_
        refine Rv rfl rfl rfl (U_load1 rfl rfl rfl) rfl rfl ?_
        refine Rv rfl rfl rfl (U_mul rfl rfl (w64 (by omega) (by omega))) rfl rfl ?_
        refine Rv rfl rfl rfl (U_fieldAddr rfl) rfl rfl ?_
        refine Rv rfl rfl rfl (U_load1 rfl rfl rfl) rfl rfl ?_
        refine Rv rfl rfl rfl (U_sub rfl rfl (w64 (by omega) (by omega))) rfl rfl ?_
        refine Rv rfl rfl rfl (U_fieldAddr rfl) rfl rfl ?_
        refine Rv rfl rfl rfl (U_load1 rfl rfl rfl) rfl rfl ?_
        refine Rv rfl rfl rfl (U_sub rfl rfl (w64 (by omega) (by omega))) rfl rfl ?_
        refine Rv rfl rfl rfl (U_fieldAddrR rfl) rfl rfl ?_
        refine Rv rfl rfl rfl (U_load1 rfl rfl rfl) rfl rfl ?_
        refine Rv rfl rfl rfl (U_rem rfl rfl (by omega) rfl) rfl rfl ?_
        refine Rv rfl rfl rfl (U_fieldAddr rfl) rfl rfl ?_
        refine Rn rfl rfl rfl (U_store rfl rfl rfl rfl rfl (Nat.le_of_ble_eq_true rfl) rfl rfl) rfl ?_
        refine Re rfl ?_
        refine thenQ_n ?_
        refine W_seq rfl ?_
        refine W_seq rfl ?_
        refine W_reg rfl ?_
        refine Rv rfl rfl rfl (U_move rfl) rfl rfl ?_
        refine Re rfl ?_
        refine thenQ_n ?_
        refine Wcond rfl rfl (fun hc3 => ?_) (fun hc3 => ?_)
        · have hcq2 := hc3
          refine WdrawL [68, 73] rfl (by kernel_rfl) (by kernel_rfl) ?_
          refine Dv rfl rfl rfl (U_fieldAddrR rfl) rfl rfl ?_
          refine Dv rfl rfl rfl (U_load1 rfl rfl rfl) rfl rfl ?_
          refine Dv rfl rfl rfl (U_fieldAddr rfl) rfl rfl ?_
          refine Dv rfl rfl rfl (U_load1 rfl rfl rfl) rfl rfl ?_
          refine Dv rfl rfl rfl (U_sub rfl rfl (w64 (by omega) (by omega))) rfl rfl ?_
          refine Dv rfl rfl rfl (U_fieldAddrR rfl) rfl rfl ?_
          refine Dv rfl rfl rfl (U_load1 rfl rfl rfl) rfl rfl ?_
          refine Dv rfl rfl rfl (U_fieldAddr rfl) rfl rfl ?_
          refine Dv rfl rfl rfl (U_load1 rfl rfl rfl) rfl rfl ?_
          refine Dv rfl rfl rfl (U_sub rfl rfl (w64 (by omega) (by omega))) rfl rfl ?_
          refine Dv rfl rfl rfl (U_fieldAddr rfl) rfl rfl ?_
          refine Dn_ rfl rfl rfl (U_store rfl rfl rfl rfl rfl (Nat.le_of_ble_eq_true rfl) rfl rfl) rfl rfl ?_
          refine Dv rfl rfl rfl (U_fieldAddr rfl) rfl rfl ?_
          refine Dn_ rfl rfl rfl (U_store rfl rfl rfl rfl rfl (Nat.le_of_ble_eq_true rfl) rfl rfl) rfl rfl ?_
          refine Dr.nil rfl ?_
          refine thenQ_n ?_
          refine W_reg rfl ?_
          refine Rv rfl rfl rfl (U_move rfl) rfl rfl ?_
          refine Rv rfl rfl rfl (U_load4 rfl rfl rfl rfl rfl rfl) rfl rfl ?_
          refine Rv rfl rfl rfl (U_buildSliceF (by rfl) (by decide) rfl rfl rfl) rfl rfl ?_
          refine Ra rfl rfl rfl (U_appO (b := 3) (m := 0) (cs' := (E ++ [(⟨((((2 * ((H : Nat) : Int)) - ((((ls[i][k]).fr) + ((n : Nat) : Int)).tmod ((H : Nat) : Int))) - ((ls[i][k]).wd)).tmod ((H : Nat) : Int)), (ls[i][k]).wd, (((Z : Nat) : Int) - ((ls[i][k]).hi)), (((Z : Nat) : Int) - ((ls[i][k]).lo))⟩ : Bx)]).flatMap bxC) (n' := (E ++ [(⟨((((2 * ((H : Nat) : Int)) - ((((ls[i][k]).fr) + ((n : Nat) : Int)).tmod ((H : Nat) : Int))) - ((ls[i][k]).wd)).tmod ((H : Nat) : Int)), (ls[i][k]).wd, (((Z : Nat) : Int) - ((ls[i][k]).hi)), (((Z : Nat) : Int) - ((ls[i][k]).lo))⟩ : Bx)]).length) rfl rfl (by simp) rfl (flat_len (z := 4) (fun _ => rfl) _) rfl rfl (by omega) (by rw [List.flatMap_append]; rfl) (len1 _ _)) rfl rfl rfl ?_
          refine Rv rfl rfl rfl (U_assign rfl) rfl rfl ?_
          refine Re rfl ?_
          refine blkQ_n ?_
          refine thenQ_n ?_
          refine W_reg rfl ?_
          refine Rv rfl rfl rfl (U_move rfl) rfl rfl ?_
          refine Rv rfl rfl rfl (U_add rfl rfl (w64e (m := ((k + 1 : Nat) : Int)) (by omega) (by omega) (by omega))) rfl rfl ?_
          refine Rv rfl rfl rfl (U_assign rfl) rfl rfl ?_
          refine Re rfl ?_
          refine thenQ_n ?_
          exact againTo (T' := [(1, i64 ((n : Nat) : Int)), (2, .bool hours), (3, .bool zones), (4, .rop [i64 ((H : Nat) : Int), i64 ((Z : Nat) : Int), .ros (ls.map boxesL) ls.length c] 0), (8, .ptr 0 0), (9, .ptr 1 0), (10, i64 ((i : Nat) : Int)), (11, .out 3 (E ++ [(⟨((((2 * ((H : Nat) : Int)) - ((((ls[i][k]).fr) + ((n : Nat) : Int)).tmod ((H : Nat) : Int))) - ((ls[i][k]).wd)).tmod ((H : Nat) : Int)), (ls[i][k]).wd, (((Z : Nat) : Int) - ((ls[i][k]).hi)), (((Z : Nat) : Int) - ((ls[i][k]).lo))⟩ : Bx)]).length 4), (12, i64 (((k + 1) : Nat) : Int))]) (H' := [(0, some (.cells [i64 0, i64 0, .nils] 24)), (1, some (.cells [i64 ((H : Nat) : Int), i64 ((Z : Nat) : Int), .out 2 D.length 1] 24)), (2, outB (D.map boxesL) 46 D.length), (3, outB ((E ++ [(⟨((((2 * ((H : Nat) : Int)) - ((((ls[i][k]).fr) + ((n : Nat) : Int)).tmod ((H : Nat) : Int))) - ((ls[i][k]).wd)).tmod ((H : Nat) : Int)), (ls[i][k]).wd, (((Z : Nat) : Int) - ((ls[i][k]).hi)), (((Z : Nat) : Int) - ((ls[i][k]).lo))⟩ : Bx)]).flatMap bxC) 44 (E ++ [(⟨((((2 * ((H : Nat) : Int)) - ((((ls[i][k]).fr) + ((n : Nat) : Int)).tmod ((H : Nat) : Int))) - ((ls[i][k]).wd)).tmod ((H : Nat) : Int)), (ls[i][k]).wd, (((Z : Nat) : Int) - ((ls[i][k]).hi)), (((Z : Nat) : Int) - ((ls[i][k]).lo))⟩ : Bx)]).length)]) (n := 4) (ls[i].length - (k + 1)) ⟨k + 1, E ++ [(⟨((((2 * ((H : Nat) : Int)) - ((((ls[i][k]).fr) + ((n : Nat) : Int)).tmod ((H : Nat) : Int))) - ((ls[i][k]).wd)).tmod ((H : Nat) : Int)), (ls[i][k]).wd, (((Z : Nat) : Int) - ((ls[i][k]).hi)), (((Z : Nat) : Int) - ((ls[i][k]).lo))⟩ : Bx)], (by omega), (by refine chgS (by omega) hi1_1 ?_; first | (simp only [chgB, shB, fhB, fzB, hcq1, hcq2, e1, e2, if_true, Bool.false_eq_true, if_false]; done) | (simp [chgB, shB, fhB, fzB, hcq1, hcq2, e1, e2])), rfl, rfl⟩ (by omega) (mapN [0, 1, 2, 5]) ⟨eD rfl rfl, eD rfl rfl, eD rfl rfl, eD rfl rfl, e_ rfl rfl, e_ rfl rfl, eD rfl rfl, e_ rfl rfl, eD rfl rfl, trivial⟩ ⟨rD rfl rfl rfl, r_ rfl rfl rfl, rO (mapD (fun _ => rfl) _) rfl rfl, rO (flatD (fun _ => rfl) _) rfl rfl, trivial⟩ rfl rfl rfl rfl (fun _ h => absurd h (Nat.not_lt_zero _))
        · have hc3' := Bool.eq_false_iff.1 hc3
          have hcq2 := hc3
          refine W_skip rfl ?_
          refine thenQ_n ?_
          refine W_reg rfl ?_
          refine Rv rfl rfl rfl (U_move rfl) rfl rfl ?_
          refine Rv rfl rfl rfl (U_load4 rfl rfl rfl rfl rfl rfl) rfl rfl ?_
          refine Rv rfl rfl rfl (U_buildSliceF (by rfl) (by decide) rfl rfl rfl) rfl rfl ?_
          refine Ra rfl rfl rfl (U_appO (b := 3) (m := 0) (cs' := (E ++ [(⟨((((2 * ((H : Nat) : Int)) - ((((ls[i][k]).fr) + ((n : Nat) : Int)).tmod ((H : Nat) : Int))) - ((ls[i][k]).wd)).tmod ((H : Nat) : Int)), (ls[i][k]).wd, (ls[i][k]).lo, (ls[i][k]).hi⟩ : Bx)]).flatMap bxC) (n' := (E ++ [(⟨((((2 * ((H : Nat) : Int)) - ((((ls[i][k]).fr) + ((n : Nat) : Int)).tmod ((H : Nat) : Int))) - ((ls[i][k]).wd)).tmod ((H : Nat) : Int)), (ls[i][k]).wd, (ls[i][k]).lo, (ls[i][k]).hi⟩ : Bx)]).length) rfl rfl (by simp) rfl (flat_len (z := 4) (fun _ => rfl) _) rfl rfl (by omega) (by rw [List.flatMap_append]; rfl) (len1 _ _)) rfl rfl rfl ?_
          refine Rv rfl rfl rfl (U_assign rfl) rfl rfl ?_
          refine Re rfl ?_
          refine blkQ_n ?_
          refine thenQ_n ?_
          refine W_reg rfl ?_
          refine Rv rfl rfl rfl (U_move rfl) rfl rfl ?_
          refine Rv rfl rfl rfl (U_add rfl rfl (w64e (m := ((k + 1 : Nat) : Int)) (by omega) (by omega) (by omega))) rfl rfl ?_
          refine Rv rfl rfl rfl (U_assign rfl) rfl rfl ?_
          refine Re rfl ?_
          refine thenQ_n ?_
          exact againTo (T' := [(1, i64 ((n : Nat) : Int)), (2, .bool hours), (3, .bool zones), (4, .rop [i64 ((H : Nat) : Int), i64 ((Z : Nat) : Int), .ros (ls.map boxesL) ls.length c] 0), (8, .ptr 0 0), (9, .ptr 1 0), (10, i64 ((i : Nat) : Int)), (11, .out 3 (E ++ [(⟨((((2 * ((H : Nat) : Int)) - ((((ls[i][k]).fr) + ((n : Nat) : Int)).tmod ((H : Nat) : Int))) - ((ls[i][k]).wd)).tmod ((H : Nat) : Int)), (ls[i][k]).wd, (ls[i][k]).lo, (ls[i][k]).hi⟩ : Bx)]).length 4), (12, i64 (((k + 1) : Nat) : Int))]) (H' := [(0, some (.cells [i64 0, i64 0, .nils] 24)), (1, some (.cells [i64 ((H : Nat) : Int), i64 ((Z : Nat) : Int), .out 2 D.length 1] 24)), (2, outB (D.map boxesL) 46 D.length), (3, outB ((E ++ [(⟨((((2 * ((H : Nat) : Int)) - ((((ls[i][k]).fr) + ((n : Nat) : Int)).tmod ((H : Nat) : Int))) - ((ls[i][k]).wd)).tmod ((H : Nat) : Int)), (ls[i][k]).wd, (ls[i][k]).lo, (ls[i][k]).hi⟩ : Bx)]).flatMap bxC) 44 (E ++ [(⟨((((2 * ((H : Nat) : Int)) - ((((ls[i][k]).fr) + ((n : Nat) : Int)).tmod ((H : Nat) : Int))) - ((ls[i][k]).wd)).tmod ((H : Nat) : Int)), (ls[i][k]).wd, (ls[i][k]).lo, (ls[i][k]).hi⟩ : Bx)]).length)]) (n := 4) (ls[i].length - (k + 1)) ⟨k + 1, E ++ [(⟨((((2 * ((H : Nat) : Int)) - ((((ls[i][k]).fr) + ((n : Nat) : Int)).tmod ((H : Nat) : Int))) - ((ls[i][k]).wd)).tmod ((H : Nat) : Int)), (ls[i][k]).wd, (ls[i][k]).lo, (ls[i][k]).hi⟩ : Bx)], (by omega), (by refine chgS (by omega) hi1_1 ?_; first | (simp only [chgB, shB, fhB, fzB, hcq1, hcq2, e1, e2, if_true, Bool.false_eq_true, if_false]; done) | (simp [chgB, shB, fhB, fzB, hcq1, hcq2, e1, e2])), rfl, rfl⟩ (by omega) (mapN [0, 1, 2, 5]) ⟨eD rfl rfl, eD rfl rfl, eD rfl rfl, eD rfl rfl, e_ rfl rfl, e_ rfl rfl, eD rfl rfl, e_ rfl rfl, eD rfl rfl, trivial⟩ ⟨rD rfl rfl rfl, r_ rfl rfl rfl, rO (mapD (fun _ => rfl) _) rfl rfl, rO (flatD (fun _ => rfl) _) rfl rfl, trivial⟩ rfl rfl rfl rfl (fun _ h => absurd h (Nat.not_lt_zero _))
      · have hc2' := Bool.eq_false_iff.1 hc2
        have hcq1 := hc2
        refine W_skip rfl ?_
        refine thenQ_n ?_
        refine W_seq rfl ?_
        refine W_seq rfl ?_
        refine W_reg rfl ?_
        refine Rv rfl rfl rfl (U_move rfl) rfl rfl ?_
        refine Re rfl ?_
        refine thenQ_n ?_
        refine Wcond rfl rfl (fun hc3 => ?_) (fun hc3 => ?_)
        · have hcq2 := hc3
          refine WdrawL [68, 73] rfl (by kernel_rfl) (by kernel_rfl) ?_
          refine Dv rfl rfl rfl (U_fieldAddrR rfl) rfl rfl ?_
          refine Dv rfl rfl rfl (U_load1 rfl rfl rfl) rfl rfl ?_
          refine Dv rfl rfl rfl (U_fieldAddr rfl) rfl rfl ?_
          refine Dv rfl rfl rfl (U_load1 rfl rfl rfl) rfl rfl ?_
          refine Dv rfl rfl rfl (U_sub rfl rfl (w64 (by omega) (by omega))) rfl rfl ?_
          refine Dv rfl rfl rfl (U_fieldAddrR rfl) rfl rfl ?_
          refine Dv rfl rfl rfl (U_load1 rfl rfl rfl) rfl rfl ?_
          refine Dv rfl rfl rfl (U_fieldAddr rfl) rfl rfl ?_
          refine Dv rfl rfl rfl (U_load1 rfl rfl rfl) rfl rfl ?_
          refine Dv rfl rfl rfl (U_sub rfl rfl (w64 (by omega) (by omega))) rfl rfl ?_
          refine Dv rfl rfl rfl (U_fieldAddr rfl) rfl rfl ?_
          refine Dn_ rfl rfl rfl (U_store rfl rfl rfl rfl rfl (Nat.le_of_ble_eq_true rfl) rfl rfl) rfl rfl ?_
          refine Dv rfl rfl rfl (U_fieldAddr rfl) rfl rfl ?_
          refine Dn_ rfl rfl rfl (U_store rfl rfl rfl rfl rfl (Nat.le_of_ble_eq_true rfl) rfl rfl) rfl rfl ?_
          refine Dr.nil rfl ?_
          refine thenQ_n ?_
          refine W_reg rfl ?_
          refine Rv rfl rfl rfl (U_move rfl) rfl rfl ?_
          refine Rv rfl rfl rfl (U_load4 rfl rfl rfl rfl rfl rfl) rfl rfl ?_
          refine Rv rfl rfl rfl (U_buildSliceF (by rfl) (by decide) rfl rfl rfl) rfl rfl ?_
          refine Ra rfl rfl rfl (U_appO (b := 3) (m := 0) (cs' := (E ++ [(⟨((((ls[i][k]).fr) + ((n : Nat) : Int)).tmod ((H : Nat) : Int)), (ls[i][k]).wd, (((Z : Nat) : Int) - ((ls[i][k]).hi)), (((Z : Nat) : Int) - ((ls[i][k]).lo))⟩ : Bx)]).flatMap bxC) (n' := (E ++ [(⟨((((ls[i][k]).fr) + ((n : Nat) : Int)).tmod ((H : Nat) : Int)), (ls[i][k]).wd, (((Z : Nat) : Int) - ((ls[i][k]).hi)), (((Z : Nat) : Int) - ((ls[i][k]).lo))⟩ : Bx)]).length) rfl rfl (by simp) rfl (flat_len (z := 4) (fun _ => rfl) _) rfl rfl (by omega) (by rw [List.flatMap_append]; rfl) (len1 _ _)) rfl rfl rfl ?_
          refine Rv rfl rfl rfl (U_assign rfl) rfl rfl ?_
          refine Re rfl ?_
          refine blkQ_n ?_
          refine thenQ_n ?_
          refine W_reg rfl ?_
          refine Rv rfl rfl rfl (U_move rfl) rfl rfl ?_
          refine Rv rfl rfl rfl (U_add rfl rfl (w64e (m := ((k + 1 : Nat) : Int)) (by omega) (by omega) (by omega))) rfl rfl ?_
          refine Rv rfl rfl rfl (U_assign rfl) rfl rfl ?_
          refine Re rfl ?_
          refine thenQ_n ?_
          exact againTo (T' := [(1, i64 ((n : Nat) : Int)), (2, .bool hours), (3, .bool zones), (4, .rop [i64 ((H : Nat) : Int), i64 ((Z : Nat) : Int), .ros (ls.map boxesL) ls.length c] 0), (8, .ptr 0 0), (9, .ptr 1 0), (10, i64 ((i : Nat) : Int)), (11, .out 3 (E ++ [(⟨((((ls[i][k]).fr) + ((n : Nat) : Int)).tmod ((H : Nat) : Int)), (ls[i][k]).wd, (((Z : Nat) : Int) - ((ls[i][k]).hi)), (((Z : Nat) : Int) - ((ls[i][k]).lo))⟩ : Bx)]).length 4), (12, i64 (((k + 1) : Nat) : Int))]) (H' := [(0, some (.cells [i64 0, i64 0, .nils] 24)), (1, some (.cells [i64 ((H : Nat) : Int), i64 ((Z : Nat) : Int), .out 2 D.length 1] 24)), (2, outB (D.map boxesL) 46 D.length), (3, outB ((E ++ [(⟨((((ls[i][k]).fr) + ((n : Nat) : Int)).tmod ((H : Nat) : Int)), (ls[i][k]).wd, (((Z : Nat) : Int) - ((ls[i][k]).hi)), (((Z : Nat) : Int) - ((ls[i][k]).lo))⟩ : Bx)]).flatMap bxC) 44 (E ++ [(⟨((((ls[i][k]).fr) + ((n : Nat) : Int)).tmod ((H : Nat) : Int)), (ls[i][k]).wd, (((Z : Nat) : Int) - ((ls[i][k]).hi)), (((Z : Nat) : Int) - ((ls[i][k]).lo))⟩ : Bx)]).length)]) (n := 4) (ls[i].length - (k + 1)) ⟨k + 1, E ++ [(⟨((((ls[i][k]).fr) + ((n : Nat) : Int)).tmod ((H : Nat) : Int)), (ls[i][k]).wd, (((Z : Nat) : Int) - ((ls[i][k]).hi)), (((Z : Nat) : Int) - ((ls[i][k]).lo))⟩ : Bx)], (by omega), (by refine chgS (by omega) hi1_1 ?_; first | (simp only [chgB, shB, fhB, fzB, hcq1, hcq2, e1, e2, if_true, Bool.false_eq_true, if_false]; done) | (simp [chgB, shB, fhB, fzB, hcq1, hcq2, e1, e2])), rfl, rfl⟩ (by omega) (mapN [0, 1, 2, 5]) ⟨eD rfl rfl, eD rfl rfl, eD rfl rfl, eD rfl rfl, e_ rfl rfl, e_ rfl rfl, eD rfl rfl, e_ rfl rfl, eD rfl rfl, trivial⟩ ⟨rD rfl rfl rfl, r_ rfl rfl rfl, rO (mapD (fun _ => rfl) _) rfl rfl, rO (flatD (fun _ => rfl) _) rfl rfl, trivial⟩ rfl rfl rfl rfl (fun _ h => absurd h (Nat.not_lt_zero _))
        · have hc3' := Bool.eq_false_iff.1 hc3
          have hcq2 := hc3
          refine W_skip rfl ?_
          refine thenQ_n ?_
          refine W_reg rfl ?_
          refine Rv rfl rfl rfl (U_move rfl) rfl rfl ?_
          refine Rv rfl rfl rfl (U_load4 rfl rfl rfl rfl rfl rfl) rfl rfl ?_
          refine Rv rfl rfl rfl (U_buildSliceF (by rfl) (by decide) rfl rfl rfl) rfl rfl ?_
          refine Ra rfl rfl rfl (U_appO (b := 3) (m := 0) (cs' := (E ++ [(⟨((((ls[i][k]).fr) + ((n : Nat) : Int)).tmod ((H : Nat) : Int)), (ls[i][k]).wd, (ls[i][k]).lo, (ls[i][k]).hi⟩ : Bx)]).flatMap bxC) (n' := (E ++ [(⟨((((ls[i][k]).fr) + ((n : Nat) : Int)).tmod ((H : Nat) : Int)), (ls[i][k]).wd, (ls[i][k]).lo, (ls[i][k]).hi⟩ : Bx)]).length) rfl rfl (by simp) rfl (flat_len (z := 4) (fun _ => rfl) _) rfl rfl (by omega) (by rw [List.flatMap_append]; rfl) (len1 _ _)) rfl rfl rfl ?_
          refine Rv rfl rfl rfl (U_assign rfl) rfl rfl ?_
          refine Re rfl ?_
          refine blkQ_n ?_
          refine thenQ_n ?_
          refine W_reg rfl ?_
          refine Rv rfl rfl rfl (U_move rfl) rfl rfl ?_
          refine Rv rfl rfl rfl (U_add rfl rfl (w64e (m := ((k + 1 : Nat) : Int)) (by omega) (by omega) (by omega))) rfl rfl ?_
          refine Rv rfl rfl rfl (U_assign rfl) rfl rfl ?_
          refine Re rfl ?_
          refine thenQ_n ?_
          exact againTo (T' := [(1, i64 ((n : Nat) : Int)), (2, .bool hours), (3, .bool zones), (4, .rop [i64 ((H : Nat) : Int), i64 ((Z : Nat) : Int), .ros (ls.map boxesL) ls.length c] 0), (8, .ptr 0 0), (9, .ptr 1 0), (10, i64 ((i : Nat) : Int)), (11, .out 3 (E ++ [(⟨((((ls[i][k]).fr) + ((n : Nat) : Int)).tmod ((H : Nat) : Int)), (ls[i][k]).wd, (ls[i][k]).lo, (ls[i][k]).hi⟩ : Bx)]).length 4), (12, i64 (((k + 1) : Nat) : Int))]) (H' := [(0, some (.cells [i64 0, i64 0, .nils] 24)), (1, some (.cells [i64 ((H : Nat) : Int), i64 ((Z : Nat) : Int), .out 2 D.length 1] 24)), (2, outB (D.map boxesL) 46 D.length), (3, outB ((E ++ [(⟨((((ls[i][k]).fr) + ((n : Nat) : Int)).tmod ((H : Nat) : Int)), (ls[i][k]).wd, (ls[i][k]).lo, (ls[i][k]).hi⟩ : Bx)]).flatMap bxC) 44 (E ++ [(⟨((((ls[i][k]).fr) + ((n : Nat) : Int)).tmod ((H : Nat) : Int)), (ls[i][k]).wd, (ls[i][k]).lo, (ls[i][k]).hi⟩ : Bx)]).length)]) (n := 4) (ls[i].length - (k + 1)) ⟨k + 1, E ++ [(⟨((((ls[i][k]).fr) + ((n : Nat) : Int)).tmod ((H : Nat) : Int)), (ls[i][k]).wd, (ls[i][k]).lo, (ls[i][k]).hi⟩ : Bx)], (by omega), (by refine chgS (by omega) hi1_1 ?_; first | (simp only [chgB, shB, fhB, fzB, hcq1, hcq2, e1, e2, if_true, Bool.false_eq_true, if_false]; done) | (simp [chgB, shB, fhB, fzB, hcq1, hcq2, e1, e2])), rfl, rfl⟩ (by omega) (mapN [0, 1, 2, 5]) ⟨eD rfl rfl, eD rfl rfl, eD rfl rfl, eD rfl rfl, e_ rfl rfl, e_ rfl rfl, eD rfl rfl, e_ rfl rfl, eD rfl rfl, trivial⟩ ⟨rD rfl rfl rfl, r_ rfl rfl rfl, rO (mapD (fun _ => rfl) _) rfl rfl, rO (flatD (fun _ => rfl) _) rfl rfl, trivial⟩ rfl rfl rfl rfl (fun _ h => absurd h (Nat.not_lt_zero _))
    · have hEr : E = (ls[i].map (chgB Z H n hours zones)) := by rw [hi1_1, List.take_of_length_le (by omega)]
      refine W_exit rfl ?_
      refine thenQ_x ?_
      refine thenQ_x ?_
      refine blkQ_x rfl ?_
      refine thenQ_n ?_
      subst hEr
      refine WfrO 3 ((ls[i].map (chgB Z H n hours zones)).flatMap bxC) rfl (flatD (fun _ => rfl) _) (T' := [(1, i64 ((n : Nat) : Int)), (2, .bool hours), (3, .bool zones), (4, .rop [i64 ((H : Nat) : Int), i64 ((Z : Nat) : Int), .ros (ls.map boxesL) ls.length c] 0), (8, .ptr 0 0), (9, .ptr 1 0), (10, i64 ((i : Nat) : Int)), (11, .ros ((ls[i].map (chgB Z H n hours zones)).flatMap bxC) ((ls[i].map (chgB Z H n hours zones)).length) none)]) (H' := [(0, some (.cells [i64 0, i64 0, .nils] 24)), (1, some (.cells [i64 ((H : Nat) : Int), i64 ((Z : Nat) : Int), .out 2 D.length 1] 24)), (2, outB (D.map boxesL) 46 D.length)]) ⟨fD rfl rfl, fD rfl rfl, fD rfl rfl, fD rfl rfl, fS rfl rfl, fS rfl rfl, fD rfl rfl, fO rfl, trivial⟩ ⟨⟨rfl, .cells (.cons (.same rfl) (.cons (.same rfl) (.cons (.same rfl) .nil)))⟩, ⟨rfl, .cells (.cons (.same rfl) (.cons (.same rfl) (.cons (.same rfl) .nil)))⟩, ⟨rfl, .out (mapD (fun _ => rfl) _)⟩, trivial⟩ ?_
      refine W_reg rfl ?_
      refine Rv rfl rfl rfl (U_fieldAddr rfl) rfl rfl ?_
      refine Rv rfl rfl rfl (U_load1 rfl rfl rfl) rfl rfl ?_
      refine Rv rfl rfl rfl (U_move rfl) rfl rfl ?_
      refine Rv rfl rfl rfl (U_buildSliceF (by rfl) (by decide) rfl rfl rfl) rfl rfl ?_
      refine Ra rfl rfl rfl (U_appO (b := 2) (m := 0) (cs' := (D ++ [ls[i].map (chgB Z H n hours zones)]).map boxesL) (n' := (D ++ [ls[i].map (chgB Z H n hours zones)]).length) rfl rfl (by simp) rfl (map_len1 _) rfl rfl (by omega) (appM _ _) (len1 _ _)) rfl rfl rfl ?_
      refine Rv rfl rfl rfl (U_fieldAddr rfl) rfl rfl ?_
      refine Rn rfl rfl rfl (U_store rfl rfl rfl rfl rfl (Nat.le_of_ble_eq_true rfl) rfl rfl) rfl ?_
      refine Re rfl ?_
      refine blkQ_n ?_
      refine thenQ_n ?_
      refine W_reg rfl ?_
      refine Rv rfl rfl rfl (U_move rfl) rfl rfl ?_
      refine Rv rfl rfl rfl (U_add rfl rfl (w64e (m := ((i + 1 : Nat) : Int)) (by omega) (by omega) (by omega))) rfl rfl ?_
      refine Rv rfl rfl rfl (U_assign rfl) rfl rfl ?_
      refine Re rfl ?_
      refine thenQ_n ?_
      exact againTo (T' := [(1, i64 ((n : Nat) : Int)), (2, .bool hours), (3, .bool zones), (4, .rop [i64 ((H : Nat) : Int), i64 ((Z : Nat) : Int), .ros (ls.map boxesL) ls.length c] 0), (8, .ptr 0 0), (9, .ptr 1 0), (10, i64 (((i + 1) : Nat) : Int))]) (H' := [(0, some (.cells [i64 0, i64 0, .nils] 24)), (1, some (.cells [i64 ((H : Nat) : Int), i64 ((Z : Nat) : Int), .out 2 (D ++ [ls[i].map (chgB Z H n hours zones)]).length 1] 24)), (2, outB ((D ++ [ls[i].map (chgB Z H n hours zones)]).map boxesL) 46 (D ++ [ls[i].map (chgB Z H n hours zones)]).length)]) (n := 3) (ls.length - (i + 1)) ⟨i + 1, D ++ [ls[i].map (chgB Z H n hours zones)], (by omega), (by rw [chgQ_snoc (by omega), ← hi0_1]), rfl, rfl⟩ (by omega) (mapN [0, 1, 4]) ⟨eD rfl rfl, eD rfl rfl, eD rfl rfl, eD rfl rfl, e_ rfl rfl, e_ rfl rfl, eD rfl rfl, trivial⟩ ⟨rD rfl rfl rfl, r_ rfl rfl rfl, rO (mapD (fun _ => rfl) _) rfl rfl, trivial⟩ rfl rfl rfl rfl (fun _ h => absurd h (Nat.not_lt_zero _))
  · refine W_exit rfl ?_
    refine thenQ_x ?_
    refine thenQ_x ?_
    refine blkQ_x rfl ?_
    refine thenQ_n ?_
    refine W_seq rfl ?_
    refine W_reg rfl ?_
    refine Rv rfl rfl rfl (U_load3 rfl rfl rfl rfl rfl) rfl rfl ?_
    refine Rn rfl rfl rfl (U_storeAll rfl rfl rfl rfl rfl rfl) rfl ?_
    refine Re rfl ?_
    refine thenQ_n ?_
    refine WfrO 2 (D.map boxesL) rfl (mapD (fun _ => rfl) _) (T' := [(8, .ptr 0 0)]) (H' := [(0, some (.cells [i64 ((H : Nat) : Int), i64 ((Z : Nat) : Int), .ros (D.map boxesL) D.length none] 24))]) ⟨fS rfl rfl, trivial⟩ ⟨⟨rfl, .cells (.cons (.same rfl) (.cons (.same rfl) (.cons .out .nil)))⟩, trivial⟩ ?_
    refine W_ret rfl ?_
    exact retL (rlA rfl rfl rfl rl0) (by first | rfl | (simp only [packA]; rw [hi0_1, List.take_of_length_le (by rw [chgQ_len]; omega)]; first | done | rfl)) rfl
section
variable (H Z : Nat) (ls : List (List Bx)) (c : Option Nat) (hc : chkS ⟨H, Z, ls⟩ = 0) (hv : VS ⟨H, Z, ls⟩ H Z) (l0 : List (List Bx)) (t u : Pl2 → Pl2) (ht : Turn Z H t u) (hx : Trns Z H t l0 ls)
include hc hv ht hx
theorem sizT_p (a : Nat) (ha : a < ls.length) (ha2 : a < l0.length) : Pure Try.prog 27 [.agg [i64 (H : Nat), i64 (Z : Nat), landsA ls c], i64 (a : Nat)] (.tup [i64 ((sizQ Z H l0[a] : Nat) : Int), i64 0]) := by
  rw [← trnd_siz ht (hx.at_ a ha2 ha)]; exact siz_g H Z ls c hc hv a ha
theorem pieT_p (a : Nat) (ha : a < ls.length) (ha2 : a < l0.length) : Pure Try.prog 29 [.agg [i64 (H : Nat), i64 (Z : Nat), landsA ls c], i64 (a : Nat)] (.tup [i64 ((pieQ Z H l0[a] : Nat) : Int), i64 0]) := by
  rw [← trnd_pie ht (hx.at_ a ha2 ha)]; exact pie_g H Z ls c hc hv a ha
theorem brdT_p (a b : Nat) (ha : a < ls.length) (hb : b < ls.length) (ha2 : a < l0.length) (hb2 : b < l0.length) (hn : a ≠ b) : Pure Try.prog 31 [.agg [i64 (H : Nat), i64 (Z : Nat), landsA ls c], i64 (a : Nat), i64 (b : Nat)] (.tup [i64 ((brQ Z H l0[a] l0[b] : Nat) : Int), i64 0]) := by
  rw [← trnd_br ht (hx.at_ a ha2 ha) (hx.at_ b hb2 hb)]; exact brd_g H Z ls c hc hv a b ha hb hn
theorem neiT_p (a : Nat) (ha : a < ls.length) : Pure Try.prog 33 [.agg [i64 (H : Nat), i64 (Z : Nat), landsA ls c], i64 (a : Nat)] (.tup [intsA (neiK Z H l0 a l0.length) none, i64 0]) := by
  rw [← trns_nei ht hx, ← hx.len]; exact nei_g H Z ls c hc hv a ha
theorem tinT_p : Pure Try.prog 37 [.agg [i64 (H : Nat), i64 (Z : Nat), landsA ls c]] (.tup [intsA (tinQ (ntrK Z H l0 l0.length)) none, i64 0]) := by
  rw [← trns_ntr ht hx, ← hx.len]; exact tin_g H Z ls c hc hv
theorem onceT_p (h0 : chkS ⟨H, Z, l0⟩ = 0) : Pure Try.prog 25 [.agg [i64 (H : Nat), i64 (Z : Nat), landsA ls c]] (i64 (onceQ ⟨H, Z, l0⟩)) := by
  have := onceA_p ⟨H, Z, ls⟩ c (vs_ln hv) (vs_bl hv)
  have e : onceQ ⟨H, Z, ls⟩ = onceQ ⟨H, Z, l0⟩ := by
    cases e : fltQ Z H l0 with
    | none => rw [onceN h0 e, onceN hc ((trns_flt ht hx).2 e)]
    | some p =>
      cases e2 : fltQ Z H ls with
      | none => rw [(trns_flt ht hx).1 e2] at e; cases e
      | some q => rw [onceS h0 e, onceS hc e2]
  rwa [e] at this
end
theorem borderTurnedF_p (s : Sk) (c : Option Nat) (hf : (!grt s && decide (chkS s = 0)) = false) (m : Nat) (hm : m < 256) (hours zones : Bool) (a b : Nat) (ha : a < 256) (hb : b < 256) : Pure Try.prog 8 [.agg [i64 s.h, i64 s.z, landsA s.ls c], .int .u8 (m : Nat), .bool hours, .bool zones, .int .u8 (a : Nat), .int .u8 (b : Nat)] (.bool true) := by
  refine pure_of_body Try.func8 (c := body Try.f8) rfl (by simp [Try.ntmps8]) fun w0 Φ0 => ?_
  refine W_seq rfl ?_
  refine W_reg rfl ?_
  refine Rv rfl rfl rfl (U_boxF rfl rfl rfl) rfl rfl ?_
  refine Rv rfl rfl rfl (U_assign rfl) rfl rfl ?_
  refine Re rfl ?_
  refine thenQ_n ?_
  refine W_seq rfl ?_
  refine W_seq rfl ?_
  refine W_reg rfl ?_
  refine Rv rfl rfl rfl (U_load3 rfl rfl rfl rfl rfl) rfl rfl ?_
  refine Rv rfl rfl rfl (U_call rfl rfl (fineF_p s c hf) rfl) rfl rfl ?_
  refine Rv rfl rfl rfl (U_not rfl) rfl rfl ?_
  refine Re rfl ?_
  refine thenQ_n ?_
  refine Wcond rfl rfl (fun _ => ?_) (fun h => nomatch h)
  refine W_seq rfl ?_
  refine W_reg rfl ?_
  refine Rv rfl rfl rfl (U_call rfl rfl (works_p) rfl) rfl rfl ?_
  refine Rv rfl rfl rfl (U_assign rfl) rfl rfl ?_
  refine Re rfl ?_
  refine thenQ_n ?_
  refine W_ret rfl ?_
  refine thenQ_r ?_
  exact retL (rlT rfl rl0) rfl rfl
theorem borderTurned1_p (H Z : Nat) (ls : List (List Bx)) (c : Option Nat) (hc : chkS ⟨H, Z, ls⟩ = 0) (hv : VS ⟨H, Z, ls⟩ H Z) (hg : grt ⟨H, Z, ls⟩ = false) (m : Nat) (hm : m < 256) (hours zones : Bool) (a b : Nat) (ha : a < 256) (hb : b < 256) (hn0 : 0 < ls.length) (hab : a % ls.length ≠ b % ls.length) : Pure Try.prog 8 [.agg [i64 (H : Nat), i64 (Z : Nat), landsA ls c], .int .u8 (m : Nat), .bool hours, .bool zones, .int .u8 (a : Nat), .int .u8 (b : Nat)] (.bool true) := by
  have hv' := hv
  obtain ⟨_, _, hH, hZ1, hln, hlb, hbx⟩ := hv'
  simp only at hln hlb hbx
  have hZ := hZ1.2
  have hHZ : Z * H ≤ 1152 := Nat.mul_le_mul hZ hH.2
  have hHZc : H * Z = Z * H := Nat.mul_comm _ _
  have hmH : m % H < H := Nat.mod_lt _ (by omega)
  obtain ⟨t, u, ht, hx⟩ := chg_trns hv hmH hours zones
  have hvx := chgQ_vs (n := m % H) (hours := hours) (zones := zones) hv
  have hcx := vs_chk hvx
  have htl : (tinQ (ntrK Z H ls ls.length)).length = ls.length := by rw [tin_len ntr_ok, ntrK_len]
  have hia : a % ls.length < ls.length := Nat.mod_lt _ hn0
  have hib : b % ls.length < ls.length := Nat.mod_lt _ hn0
  refine pure_of_body Try.func8 (c := body Try.f8) rfl (by simp [Try.ntmps8]) fun w0 Φ0 => ?_
  refine W_seq rfl ?_
  refine W_reg rfl ?_
  refine Rv rfl rfl rfl (U_boxF rfl rfl rfl) rfl rfl ?_
  refine Rv rfl rfl rfl (U_assign rfl) rfl rfl ?_
  refine Re rfl ?_
  refine thenQ_n ?_
  refine W_seq rfl ?_
  refine W_seq rfl ?_
  refine W_reg rfl ?_
  refine Rv rfl rfl rfl (U_load3 rfl rfl rfl rfl rfl) rfl rfl ?_
  refine Rv rfl rfl rfl (U_call rfl rfl (fineT_p H Z ls c hg hc) rfl) rfl rfl ?_
  refine Rv rfl rfl rfl (U_not rfl) rfl rfl ?_
  refine Re rfl ?_
  refine thenQ_n ?_
  refine Wcond rfl rfl (fun h => nomatch h) (fun _ => ?_)
  refine W_skip rfl ?_
  refine thenQ_n ?_
  refine W_seq rfl ?_
  refine Wdraw rfl (by kernel_rfl) (by kernel_rfl) ?_
  refine Dv rfl rfl rfl (U_load3 rfl rfl rfl rfl rfl) rfl rfl ?_
  refine Dv rfl rfl rfl (U_move rfl) rfl rfl ?_
  refine Dv rfl rfl rfl (U_convInt (by rfl) rfl (wr_i64 (by omega) (by omega))) rfl rfl ?_
  refine Dv rfl rfl rfl (U_fieldAddrR rfl) rfl rfl ?_
  refine Dv rfl rfl rfl (U_load1 rfl rfl rfl) rfl rfl ?_
  refine Dv rfl rfl rfl (U_rem (c := ((m % H : Nat) : Int)) rfl rfl (by omega) (tmodN _ _)) rfl rfl ?_
  refine Dv rfl rfl rfl (U_move rfl) rfl rfl ?_
  refine Dv rfl rfl rfl (U_move rfl) rfl rfl ?_
  refine Dv rfl rfl rfl (U_call rfl rfl (changed_p H Z ls c hv (m % H) (by omega) hours zones) rfl) rfl rfl ?_
  refine Da rfl rfl rfl (U_alloc) rfl rfl rfl rfl ?_
  refine Dn_ rfl rfl rfl (U_storeAll rfl rfl rfl rfl rfl rfl) rfl rfl ?_
  refine Dr.nil rfl ?_
  refine thenQ_n ?_
  refine WfrN 0 rfl rfl (T' := [(4, .int .u8 ((a : Nat) : Int)), (5, .int .u8 ((b : Nat) : Int)), (6, .rop [i64 ((H : Nat) : Int), i64 ((Z : Nat) : Int), .ros (ls.map boxesL) ls.length c] 0), (13, .rop [i64 ((H : Nat) : Int), i64 ((Z : Nat) : Int), .ros ((chgQ Z H (m % H) hours zones ls).map boxesL) ((chgQ Z H (m % H) hours zones ls).length) none] 0)]) (H' := []) ⟨⟨_, rfl, rfl⟩, ⟨_, rfl, rfl⟩, ⟨_, rfl, rfl⟩, ⟨_, rfl, rfl⟩, trivial⟩ trivial ?_
  refine W_seq rfl ?_
  refine W_reg rfl ?_
  refine Rv rfl rfl rfl (U_load3 rfl rfl rfl rfl rfl) rfl rfl ?_
  refine Rv rfl rfl rfl (U_call rfl rfl (tin_g H Z ls c hc hv) rfl) rfl rfl ?_
  refine Rv rfl rfl rfl (U_move rfl) rfl rfl ?_
  refine Rv rfl rfl rfl (U_extract rfl rfl) rfl rfl ?_
  refine Rv rfl rfl rfl (U_extract rfl rfl) rfl rfl ?_
  refine Rv rfl rfl rfl (U_assign rfl) rfl rfl ?_
  refine Rv rfl rfl rfl (U_assign rfl) rfl rfl ?_
  refine Re rfl ?_
  refine thenQ_n ?_
  refine W_seq rfl ?_
  refine W_reg rfl ?_
  refine Rv rfl rfl rfl (U_load3 rfl rfl rfl rfl rfl) rfl rfl ?_
  refine Rv rfl rfl rfl (U_call rfl rfl (tinT_p H Z (chgQ Z H (m % H) hours zones ls) none hcx hvx ls t u ht hx) rfl) rfl rfl ?_
  refine Rv rfl rfl rfl (U_move rfl) rfl rfl ?_
  refine Rv rfl rfl rfl (U_extract rfl rfl) rfl rfl ?_
  refine Rv rfl rfl rfl (U_extract rfl rfl) rfl rfl ?_
  refine Rv rfl rfl rfl (U_assign rfl) rfl rfl ?_
  refine Rv rfl rfl rfl (U_assign rfl) rfl rfl ?_
  refine Re rfl ?_
  refine thenQ_n ?_
  refine W_seq rfl ?_
  refine W_seq rfl ?_
  refine Wdraw rfl (by kernel_rfl) (by kernel_rfl) ?_
  refine Dv rfl rfl rfl (U_load3 rfl rfl rfl rfl rfl) rfl rfl ?_
  refine Dv rfl rfl rfl (U_call rfl rfl (onceA_p ⟨H, Z, ls⟩ c (vs_ln hv) (vs_bl hv)) rfl) rfl rfl ?_
  refine Dv rfl rfl rfl (U_load3 rfl rfl rfl rfl rfl) rfl rfl ?_
  refine Dv rfl rfl rfl (U_call rfl rfl (onceT_p H Z (chgQ Z H (m % H) hours zones ls) none hcx hvx ls t u ht hx hc) rfl) rfl rfl ?_
  refine Dv rfl rfl rfl (U_neqS rfl rfl) rfl rfl ?_
  refine Dv rfl rfl rfl (U_move rfl) rfl rfl ?_
  refine Dv rfl rfl rfl (U_move rfl) rfl rfl ?_
  refine Dv rfl rfl rfl (U_neq rfl rfl) rfl rfl ?_
  refine Dv rfl rfl rfl (U_pick_f rfl rfl) rfl rfl ?_
  refine Dv rfl rfl rfl (U_move rfl) rfl rfl ?_
  refine Dv rfl rfl rfl (U_move rfl) rfl rfl ?_
  refine Dv rfl rfl rfl (U_neq rfl rfl) rfl rfl ?_
  refine Dv rfl rfl rfl (U_pick_f rfl rfl) rfl rfl ?_
  refine Dv rfl rfl rfl (U_move rfl) rfl rfl ?_
  refine Dv rfl rfl rfl (U_move rfl) rfl rfl ?_
  refine Dv rfl rfl rfl (U_move rfl) rfl rfl ?_
  refine Dv rfl rfl rfl (U_call rfl rfl (intsS_p (tinQ (ntrK Z H ls ls.length)) none none (by first | assumption | omega | exact neiK_sz (by omega) | exact tinQ_sz (by omega))) rfl) rfl rfl ?_
  refine Dv rfl rfl rfl (U_not rfl) rfl rfl ?_
  refine Dv rfl rfl rfl (U_pick_f rfl rfl) rfl rfl ?_
  refine Dv rfl rfl rfl (U_move rfl) rfl rfl ?_
  refine Dv rfl rfl rfl (U_move rfl) rfl rfl ?_
  refine Dv rfl rfl rfl (U_lenOf rfl len_ros) rfl rfl ?_
  refine Dv rfl rfl rfl (U_fieldAddrR rfl) rfl rfl ?_
  refine Dv rfl rfl rfl (U_load1 rfl rfl rfl) rfl rfl ?_
  refine Dv rfl rfl rfl (U_lenOf rfl len_ros) rfl rfl ?_
  refine Dv rfl rfl rfl (U_neq rfl rfl) rfl rfl ?_
  refine Dv rfl rfl rfl (U_pick_f rfl rfl) rfl rfl ?_
  refine Dr.nil rfl ?_
  refine thenQ_n ?_
  refine WcondP rfl rfl (fun hc1 => absurd hc1 (by simp; omega)) (fun hc1 => ?_)
  refine W_skip rfl ?_
  refine thenQ_n ?_
  refine W_seq rfl ?_
  refine W_seq rfl ?_
  refine W_reg rfl ?_
  refine Rv rfl rfl rfl (U_fieldAddrR rfl) rfl rfl ?_
  refine Rv rfl rfl rfl (U_load1 rfl rfl rfl) rfl rfl ?_
  refine Rv rfl rfl rfl (U_lenOf rfl len_ros) rfl rfl ?_
  refine Rv rfl rfl rfl (U_eql rfl rfl) rfl rfl ?_
  refine Re rfl ?_
  refine thenQ_n ?_
  refine WcondP rfl rfl (fun hc2 => ?_) (fun hc2 => ?_)
  · refine W_seq rfl ?_
    refine W_reg rfl ?_
    refine Rv rfl rfl rfl (U_call rfl rfl (works_p) rfl) rfl rfl ?_
    refine Rv rfl rfl rfl (U_assign rfl) rfl rfl ?_
    refine Re rfl ?_
    refine thenQ_n ?_
    refine W_ret rfl ?_
    refine thenQ_r ?_
    exact retL (rlT rfl rl0) rfl rfl
  · refine W_skip rfl ?_
    refine thenQ_n ?_
    refine W_seq rfl ?_
    refine Wdraw rfl (by kernel_rfl) (by kernel_rfl) ?_
    refine Dv rfl rfl rfl (U_move rfl) rfl rfl ?_
    refine Dv rfl rfl rfl (U_convInt (by rfl) rfl (wr_i64 (by omega) (by omega))) rfl rfl ?_
    refine Dv rfl rfl rfl (U_fieldAddrR rfl) rfl rfl ?_
    refine Dv rfl rfl rfl (U_load1 rfl rfl rfl) rfl rfl ?_
    refine Dv rfl rfl rfl (U_lenOf rfl len_ros) rfl rfl ?_
    refine Dv rfl rfl rfl (U_rem (c := ((a % ls.length : Nat) : Int)) rfl rfl (by omega) (tmodN _ _)) rfl rfl ?_
    refine Dv rfl rfl rfl (U_move rfl) rfl rfl ?_
    refine Dv rfl rfl rfl (U_convInt (by rfl) rfl (wr_i64 (by omega) (by omega))) rfl rfl ?_
    refine Dv rfl rfl rfl (U_fieldAddrR rfl) rfl rfl ?_
    refine Dv rfl rfl rfl (U_load1 rfl rfl rfl) rfl rfl ?_
    refine Dv rfl rfl rfl (U_lenOf rfl len_ros) rfl rfl ?_
    refine Dv rfl rfl rfl (U_rem (c := ((b % ls.length : Nat) : Int)) rfl rfl (by omega) (tmodN _ _)) rfl rfl ?_
    refine Dv rfl rfl rfl (U_assign rfl) rfl rfl ?_
    refine Dv rfl rfl rfl (U_assign rfl) rfl rfl ?_
    refine Dr.nil rfl ?_
    refine thenQ_n ?_
    refine W_seq rfl ?_
    refine W_reg rfl ?_
    refine Rv rfl rfl rfl (U_load3 rfl rfl rfl rfl rfl) rfl rfl ?_
    refine Rv rfl rfl rfl (U_move rfl) rfl rfl ?_
    refine Rv rfl rfl rfl (U_call rfl rfl (siz_g H Z ls c hc hv (a % ls.length) (by omega)) rfl) rfl rfl ?_
    refine Rv rfl rfl rfl (U_move rfl) rfl rfl ?_
    refine Rv rfl rfl rfl (U_extract rfl rfl) rfl rfl ?_
    refine Rv rfl rfl rfl (U_extract rfl rfl) rfl rfl ?_
    refine Rv rfl rfl rfl (U_assign rfl) rfl rfl ?_
    refine Rv rfl rfl rfl (U_assign rfl) rfl rfl ?_
    refine Re rfl ?_
    refine thenQ_n ?_
    refine W_seq rfl ?_
    refine W_reg rfl ?_
    refine Rv rfl rfl rfl (U_load3 rfl rfl rfl rfl rfl) rfl rfl ?_
    refine Rv rfl rfl rfl (U_move rfl) rfl rfl ?_
    refine Rv rfl rfl rfl (U_call rfl rfl (sizT_p H Z (chgQ Z H (m % H) hours zones ls) none hcx hvx ls t u ht hx (a % ls.length) (by rw [chgQ_len]; omega) (by omega)) rfl) rfl rfl ?_
    refine Rv rfl rfl rfl (U_move rfl) rfl rfl ?_
    refine Rv rfl rfl rfl (U_extract rfl rfl) rfl rfl ?_
    refine Rv rfl rfl rfl (U_extract rfl rfl) rfl rfl ?_
    refine Rv rfl rfl rfl (U_assign rfl) rfl rfl ?_
    refine Rv rfl rfl rfl (U_assign rfl) rfl rfl ?_
    refine Re rfl ?_
    refine thenQ_n ?_
    refine W_seq rfl ?_
    refine W_reg rfl ?_
    refine Rv rfl rfl rfl (U_load3 rfl rfl rfl rfl rfl) rfl rfl ?_
    refine Rv rfl rfl rfl (U_move rfl) rfl rfl ?_
    refine Rv rfl rfl rfl (U_call rfl rfl (pie_g H Z ls c hc hv (a % ls.length) (by omega)) rfl) rfl rfl ?_
    refine Rv rfl rfl rfl (U_move rfl) rfl rfl ?_
    refine Rv rfl rfl rfl (U_extract rfl rfl) rfl rfl ?_
    refine Rv rfl rfl rfl (U_extract rfl rfl) rfl rfl ?_
    refine Rv rfl rfl rfl (U_assign rfl) rfl rfl ?_
    refine Rv rfl rfl rfl (U_assign rfl) rfl rfl ?_
    refine Re rfl ?_
    refine thenQ_n ?_
    refine W_seq rfl ?_
    refine W_reg rfl ?_
    refine Rv rfl rfl rfl (U_load3 rfl rfl rfl rfl rfl) rfl rfl ?_
    refine Rv rfl rfl rfl (U_move rfl) rfl rfl ?_
    refine Rv rfl rfl rfl (U_call rfl rfl (pieT_p H Z (chgQ Z H (m % H) hours zones ls) none hcx hvx ls t u ht hx (a % ls.length) (by rw [chgQ_len]; omega) (by omega)) rfl) rfl rfl ?_
    refine Rv rfl rfl rfl (U_move rfl) rfl rfl ?_
    refine Rv rfl rfl rfl (U_extract rfl rfl) rfl rfl ?_
    refine Rv rfl rfl rfl (U_extract rfl rfl) rfl rfl ?_
    refine Rv rfl rfl rfl (U_assign rfl) rfl rfl ?_
    refine Rv rfl rfl rfl (U_assign rfl) rfl rfl ?_
    refine Re rfl ?_
    refine thenQ_n ?_
    refine W_seq rfl ?_
    refine W_reg rfl ?_
    refine Rv rfl rfl rfl (U_load3 rfl rfl rfl rfl rfl) rfl rfl ?_
    refine Rv rfl rfl rfl (U_move rfl) rfl rfl ?_
    refine Rv rfl rfl rfl (U_move rfl) rfl rfl ?_
    refine Rv rfl rfl rfl (U_call rfl rfl (brd_g H Z ls c hc hv (a % ls.length) (b % ls.length) (by omega) (by omega) (by omega)) rfl) rfl rfl ?_
    refine Rv rfl rfl rfl (U_move rfl) rfl rfl ?_
    refine Rv rfl rfl rfl (U_extract rfl rfl) rfl rfl ?_
    refine Rv rfl rfl rfl (U_extract rfl rfl) rfl rfl ?_
    refine Rv rfl rfl rfl (U_assign rfl) rfl rfl ?_
    refine Rv rfl rfl rfl (U_assign rfl) rfl rfl ?_
    refine Re rfl ?_
    refine thenQ_n ?_
    refine W_seq rfl ?_
    refine W_reg rfl ?_
    refine Rv rfl rfl rfl (U_load3 rfl rfl rfl rfl rfl) rfl rfl ?_
    refine Rv rfl rfl rfl (U_move rfl) rfl rfl ?_
    refine Rv rfl rfl rfl (U_move rfl) rfl rfl ?_
    refine Rv rfl rfl rfl (U_call rfl rfl (brdT_p H Z (chgQ Z H (m % H) hours zones ls) none hcx hvx ls t u ht hx (a % ls.length) (b % ls.length) (by rw [chgQ_len]; omega) (by rw [chgQ_len]; omega) (by omega) (by omega) (by omega)) rfl) rfl rfl ?_
    refine Rv rfl rfl rfl (U_move rfl) rfl rfl ?_
    refine Rv rfl rfl rfl (U_extract rfl rfl) rfl rfl ?_
    refine Rv rfl rfl rfl (U_extract rfl rfl) rfl rfl ?_
    refine Rv rfl rfl rfl (U_assign rfl) rfl rfl ?_
    refine Rv rfl rfl rfl (U_assign rfl) rfl rfl ?_
    refine Re rfl ?_
    refine thenQ_n ?_
    refine W_seq rfl ?_
    refine W_reg rfl ?_
    refine Rv rfl rfl rfl (U_load3 rfl rfl rfl rfl rfl) rfl rfl ?_
    refine Rv rfl rfl rfl (U_move rfl) rfl rfl ?_
    refine Rv rfl rfl rfl (U_call rfl rfl (nei_g H Z ls c hc hv (a % ls.length) (by omega)) rfl) rfl rfl ?_
    refine Rv rfl rfl rfl (U_move rfl) rfl rfl ?_
    refine Rv rfl rfl rfl (U_extract rfl rfl) rfl rfl ?_
    refine Rv rfl rfl rfl (U_extract rfl rfl) rfl rfl ?_
    refine Rv rfl rfl rfl (U_assign rfl) rfl rfl ?_
    refine Rv rfl rfl rfl (U_assign rfl) rfl rfl ?_
    refine Re rfl ?_
    refine thenQ_n ?_
    refine W_seq rfl ?_
    refine W_reg rfl ?_
    refine Rv rfl rfl rfl (U_load3 rfl rfl rfl rfl rfl) rfl rfl ?_
    refine Rv rfl rfl rfl (U_move rfl) rfl rfl ?_
    refine Rv rfl rfl rfl (U_call rfl rfl (neiT_p H Z (chgQ Z H (m % H) hours zones ls) none hcx hvx ls t u ht hx (a % ls.length) (by rw [chgQ_len]; omega)) rfl) rfl rfl ?_
    refine Rv rfl rfl rfl (U_move rfl) rfl rfl ?_
    refine Rv rfl rfl rfl (U_extract rfl rfl) rfl rfl ?_
    refine Rv rfl rfl rfl (U_extract rfl rfl) rfl rfl ?_
    refine Rv rfl rfl rfl (U_assign rfl) rfl rfl ?_
    refine Rv rfl rfl rfl (U_assign rfl) rfl rfl ?_
    refine Re rfl ?_
    refine thenQ_n ?_
    refine W_seq rfl ?_
    refine Wjoin ⟨[(12, .bool (decide ((decide ((0 : Int) = 15)) = (decide (((a % ls.length : Nat) : Int) = ((b % ls.length : Nat) : Int))))))], [], 0, []⟩ ?_ ?_
    · refine W_reg rfl ?_
      refine Rv rfl rfl rfl (U_move rfl) rfl rfl ?_
      refine Rv rfl rfl rfl (U_eql rfl rfl) rfl rfl ?_
      refine Rv rfl rfl rfl (U_move rfl) rfl rfl ?_
      refine Rv rfl rfl rfl (U_move rfl) rfl rfl ?_
      refine Rv rfl rfl rfl (U_eql rfl rfl) rfl rfl ?_
      refine Rv rfl rfl rfl (U_pick_t rfl rfl) rfl rfl ?_
      refine Rv rfl rfl rfl (U_move rfl) rfl rfl ?_
      refine Rv rfl rfl rfl (U_move rfl) rfl rfl ?_
      refine Rv rfl rfl rfl (U_move rfl) rfl rfl ?_
      refine Rv rfl rfl rfl (U_eqlS rfl rfl) rfl rfl ?_
      refine Rv rfl rfl rfl (U_pick_t rfl rfl) rfl rfl ?_
      refine Rv rfl rfl rfl (U_move rfl) rfl rfl ?_
      refine Rv rfl rfl rfl (U_move rfl) rfl rfl ?_
      refine Rv rfl rfl rfl (U_eql rfl rfl) rfl rfl ?_
      refine Rv rfl rfl rfl (U_pick_t rfl rfl) rfl rfl ?_
      refine Rv rfl rfl rfl (U_move rfl) rfl rfl ?_
      refine Rv rfl rfl rfl (U_move rfl) rfl rfl ?_
      refine Rv rfl rfl rfl (U_eql rfl rfl) rfl rfl ?_
      refine Rv rfl rfl rfl (U_pick_t rfl rfl) rfl rfl ?_
      refine Rv rfl rfl rfl (U_move rfl) rfl rfl ?_
      refine Rv rfl rfl rfl (U_move rfl) rfl rfl ?_
      refine Rv rfl rfl rfl (U_move rfl) rfl rfl ?_
      refine Rv rfl rfl rfl (U_eqlS rfl rfl) rfl rfl ?_
      refine Rv rfl rfl rfl (U_pick_t rfl rfl) rfl rfl ?_
      refine Rv rfl rfl rfl (U_move rfl) rfl rfl ?_
      refine Rv rfl rfl rfl (U_move rfl) rfl rfl ?_
      refine Rv rfl rfl rfl (U_move rfl) rfl rfl ?_
      refine Rv rfl rfl rfl (U_eql rfl rfl) rfl rfl ?_
      refine Rv rfl rfl rfl (U_pick_t rfl rfl) rfl rfl ?_
      refine Rv rfl rfl rfl (U_move rfl) rfl rfl ?_
      refine Rv rfl rfl rfl (U_move rfl) rfl rfl ?_
      refine Rv rfl rfl rfl (U_eql rfl rfl) rfl rfl ?_
      refine Rv rfl rfl rfl (U_move rfl) rfl rfl ?_
      refine Rv rfl rfl rfl (U_move rfl) rfl rfl ?_
      refine Rv rfl rfl rfl (U_eql rfl rfl) rfl rfl ?_
      refine Rv rfl rfl rfl (U_eqlB rfl rfl) rfl rfl ?_
      refine Rv rfl rfl rfl (U_pick_t rfl rfl) rfl rfl ?_
      refine Rv rfl rfl rfl (U_move rfl) rfl rfl ?_
      refine Rsplit (t := 188) rfl (fun hg1 => ?_) (fun hg1 => ?_)
      · rw [hg1]
        have hg1' : (decide ((0 : Int) = 15)) = (decide (((a % ls.length : Nat) : Int) = ((b % ls.length : Nat) : Int))) := of_decide_eq_true hg1
        refine Rv rfl rfl rfl (U_move rfl) rfl rfl ?_
        refine Rv rfl rfl rfl (U_move rfl) rfl rfl ?_
        refine Rv rfl rfl rfl (U_eqlS rfl rfl) rfl rfl ?_
        refine Rv rfl rfl rfl (U_pick_t rfl rfl) rfl rfl ?_
        refine Rv rfl rfl rfl (U_move rfl) rfl rfl ?_
        refine Rv rfl rfl rfl (U_move rfl) rfl rfl ?_
        refine Rv rfl rfl rfl (U_eql rfl rfl) rfl rfl ?_
        refine Rv rfl rfl rfl (U_pick_t rfl rfl) rfl rfl ?_
        refine Rv rfl rfl rfl (U_move rfl) rfl rfl ?_
        refine Rv rfl rfl rfl (U_move rfl) rfl rfl ?_
        refine Rv rfl rfl rfl (U_eql rfl rfl) rfl rfl ?_
        refine Rv rfl rfl rfl (U_pick_t rfl rfl) rfl rfl ?_
        refine Rv rfl rfl rfl (U_move rfl) rfl rfl ?_
        refine Rv rfl rfl rfl (U_move rfl) rfl rfl ?_
        refine Rv rfl rfl rfl (U_move rfl) rfl rfl ?_
        refine Rv rfl rfl rfl (U_call rfl rfl (intsS_p (neiK Z H ls (a % ls.length) ls.length) none none (by first | assumption | omega | exact neiK_sz (by omega) | exact tinQ_sz (by omega))) rfl) rfl rfl ?_
        refine Rv rfl rfl rfl (U_pick_t rfl rfl) rfl rfl ?_
        refine Rv rfl rfl rfl (U_move rfl) rfl rfl ?_
        refine Rv rfl rfl rfl (U_call rfl rfl (works_p) rfl) rfl rfl ?_
        refine Rv rfl rfl rfl (U_pick_t rfl rfl) rfl rfl ?_
        refine Rv rfl rfl rfl (U_assign rfl) rfl rfl ?_
        refine Re rfl ?_
        exact joinTo id ⟨eD rfl rfl, trivial⟩ trivial rfl rfl rfl rfl (fun _ _ => rfl)
      · rw [hg1]
        have hg1' : ¬ ((decide ((0 : Int) = 15)) = (decide (((a % ls.length : Nat) : Int) = ((b % ls.length : Nat) : Int)))) := of_decide_eq_false hg1
        refine Rs rfl rfl rfl rfl rfl ?_
        refine Rs rfl rfl rfl rfl rfl ?_
        refine Rs rfl rfl rfl rfl rfl ?_
        refine Rv rfl rfl rfl (U_pick_f rfl rfl) rfl rfl ?_
        refine Rv rfl rfl rfl (U_move rfl) rfl rfl ?_
        refine Rs rfl rfl rfl rfl rfl ?_
        refine Rs rfl rfl rfl rfl rfl ?_
        refine Rv rfl rfl rfl (U_pick_f rfl rfl) rfl rfl ?_
        refine Rv rfl rfl rfl (U_move rfl) rfl rfl ?_
        refine Rs rfl rfl rfl rfl rfl ?_
        refine Rs rfl rfl rfl rfl rfl ?_
        refine Rv rfl rfl rfl (U_pick_f rfl rfl) rfl rfl ?_
        refine Rv rfl rfl rfl (U_move rfl) rfl rfl ?_
        refine Rs rfl rfl rfl rfl rfl ?_
        refine Rs rfl rfl rfl rfl rfl ?_
        refine Rs rfl rfl rfl rfl rfl ?_
        refine Rv rfl rfl rfl (U_pick_f rfl rfl) rfl rfl ?_
        refine Rv rfl rfl rfl (U_move rfl) rfl rfl ?_
        refine Rs rfl rfl rfl rfl rfl ?_
        refine Rv rfl rfl rfl (U_pick_f rfl rfl) rfl rfl ?_
        refine Rv rfl rfl rfl (U_assign rfl) rfl rfl ?_
        refine Re rfl ?_
        exact joinTo id ⟨eD rfl rfl, trivial⟩ trivial rfl rfl rfl rfl (fun _ _ => rfl)
    refine thenQ_n ?_
    refine W_ret rfl ?_
    exact retL (rlT rfl rl0) (by first | rfl | (simp only [packA]; simp; omega; first | done | rfl)) rfl
theorem borderTurned0_p (H Z : Nat) (ls : List (List Bx)) (c : Option Nat) (hc : chkS ⟨H, Z, ls⟩ = 0) (hv : VS ⟨H, Z, ls⟩ H Z) (hg : grt ⟨H, Z, ls⟩ = false) (m : Nat) (hm : m < 256) (hours zones : Bool) (a b : Nat) (ha : a < 256) (hb : b < 256) (hn0 : ls.length = 0) : Pure Try.prog 8 [.agg [i64 (H : Nat), i64 (Z : Nat), landsA ls c], .int .u8 (m : Nat), .bool hours, .bool zones, .int .u8 (a : Nat), .int .u8 (b : Nat)] (.bool true) := by
  have hv' := hv
  obtain ⟨_, _, hH, hZ1, hln, hlb, hbx⟩ := hv'
  simp only at hln hlb hbx
  have hZ := hZ1.2
  have hHZ : Z * H ≤ 1152 := Nat.mul_le_mul hZ hH.2
  have hHZc : H * Z = Z * H := Nat.mul_comm _ _
  have hmH : m % H < H := Nat.mod_lt _ (by omega)
  obtain ⟨t, u, ht, hx⟩ := chg_trns hv hmH hours zones
  have hvx := chgQ_vs (n := m % H) (hours := hours) (zones := zones) hv
  have hcx := vs_chk hvx
  have htl : (tinQ (ntrK Z H ls ls.length)).length = ls.length := by rw [tin_len ntr_ok, ntrK_len]
  refine pure_of_body Try.func8 (c := body Try.f8) rfl (by simp [Try.ntmps8]) fun w0 Φ0 => ?_
  refine W_seq rfl ?_
  refine W_reg rfl ?_
  refine Rv rfl rfl rfl (U_boxF rfl rfl rfl) rfl rfl ?_
  refine Rv rfl rfl rfl (U_assign rfl) rfl rfl ?_
  refine Re rfl ?_
  refine thenQ_n ?_
  refine W_seq rfl ?_
  refine W_seq rfl ?_
  refine W_reg rfl ?_
  refine Rv rfl rfl rfl (U_load3 rfl rfl rfl rfl rfl) rfl rfl ?_
  refine Rv rfl rfl rfl (U_call rfl rfl (fineT_p H Z ls c hg hc) rfl) rfl rfl ?_
  refine Rv rfl rfl rfl (U_not rfl) rfl rfl ?_
  refine Re rfl ?_
  refine thenQ_n ?_
  refine Wcond rfl rfl (fun h => nomatch h) (fun _ => ?_)
  refine W_skip rfl ?_
  refine thenQ_n ?_
  refine W_seq rfl ?_
  refine Wdraw rfl (by kernel_rfl) (by kernel_rfl) ?_
  refine Dv rfl rfl rfl (U_load3 rfl rfl rfl rfl rfl) rfl rfl ?_
  refine Dv rfl rfl rfl (U_move rfl) rfl rfl ?_
  refine Dv rfl rfl rfl (U_convInt (by rfl) rfl (wr_i64 (by omega) (by omega))) rfl rfl ?_
  refine Dv rfl rfl rfl (U_fieldAddrR rfl) rfl rfl ?_
  refine Dv rfl rfl rfl (U_load1 rfl rfl rfl) rfl rfl ?_
  refine Dv rfl rfl rfl (U_rem (c := ((m % H : Nat) : Int)) rfl rfl (by omega) (tmodN _ _)) rfl rfl ?_
  refine Dv rfl rfl rfl (U_move rfl) rfl rfl ?_
  refine Dv rfl rfl rfl (U_move rfl) rfl rfl ?_
  refine Dv rfl rfl rfl (U_call rfl rfl (changed_p H Z ls c hv (m % H) (by omega) hours zones) rfl) rfl rfl ?_
  refine Da rfl rfl rfl (U_alloc) rfl rfl rfl rfl ?_
  refine Dn_ rfl rfl rfl (U_storeAll rfl rfl rfl rfl rfl rfl) rfl rfl ?_
  refine Dr.nil rfl ?_
  refine thenQ_n ?_
  refine WfrN 0 rfl rfl (T' := [(4, .int .u8 ((a : Nat) : Int)), (5, .int .u8 ((b : Nat) : Int)), (6, .rop [i64 ((H : Nat) : Int), i64 ((Z : Nat) : Int), .ros (ls.map boxesL) ls.length c] 0), (13, .rop [i64 ((H : Nat) : Int), i64 ((Z : Nat) : Int), .ros ((chgQ Z H (m % H) hours zones ls).map boxesL) ((chgQ Z H (m % H) hours zones ls).length) none] 0)]) (H' := []) ⟨⟨_, rfl, rfl⟩, ⟨_, rfl, rfl⟩, ⟨_, rfl, rfl⟩, ⟨_, rfl, rfl⟩, trivial⟩ trivial ?_
  refine W_seq rfl ?_
  refine W_reg rfl ?_
  refine Rv rfl rfl rfl (U_load3 rfl rfl rfl rfl rfl) rfl rfl ?_
  refine Rv rfl rfl rfl (U_call rfl rfl (tin_g H Z ls c hc hv) rfl) rfl rfl ?_
  refine Rv rfl rfl rfl (U_move rfl) rfl rfl ?_
  refine Rv rfl rfl rfl (U_extract rfl rfl) rfl rfl ?_
  refine Rv rfl rfl rfl (U_extract rfl rfl) rfl rfl ?_
  refine Rv rfl rfl rfl (U_assign rfl) rfl rfl ?_
  refine Rv rfl rfl rfl (U_assign rfl) rfl rfl ?_
  refine Re rfl ?_
  refine thenQ_n ?_
  refine W_seq rfl ?_
  refine W_reg rfl ?_
  refine Rv rfl rfl rfl (U_load3 rfl rfl rfl rfl rfl) rfl rfl ?_
  refine Rv rfl rfl rfl (U_call rfl rfl (tinT_p H Z (chgQ Z H (m % H) hours zones ls) none hcx hvx ls t u ht hx) rfl) rfl rfl ?_
  refine Rv rfl rfl rfl (U_move rfl) rfl rfl ?_
  refine Rv rfl rfl rfl (U_extract rfl rfl) rfl rfl ?_
  refine Rv rfl rfl rfl (U_extract rfl rfl) rfl rfl ?_
  refine Rv rfl rfl rfl (U_assign rfl) rfl rfl ?_
  refine Rv rfl rfl rfl (U_assign rfl) rfl rfl ?_
  refine Re rfl ?_
  refine thenQ_n ?_
  refine W_seq rfl ?_
  refine W_seq rfl ?_
  refine Wdraw rfl (by kernel_rfl) (by kernel_rfl) ?_
  refine Dv rfl rfl rfl (U_load3 rfl rfl rfl rfl rfl) rfl rfl ?_
  refine Dv rfl rfl rfl (U_call rfl rfl (onceA_p ⟨H, Z, ls⟩ c (vs_ln hv) (vs_bl hv)) rfl) rfl rfl ?_
  refine Dv rfl rfl rfl (U_load3 rfl rfl rfl rfl rfl) rfl rfl ?_
  refine Dv rfl rfl rfl (U_call rfl rfl (onceT_p H Z (chgQ Z H (m % H) hours zones ls) none hcx hvx ls t u ht hx hc) rfl) rfl rfl ?_
  refine Dv rfl rfl rfl (U_neqS rfl rfl) rfl rfl ?_
  refine Dv rfl rfl rfl (U_move rfl) rfl rfl ?_
  refine Dv rfl rfl rfl (U_move rfl) rfl rfl ?_
  refine Dv rfl rfl rfl (U_neq rfl rfl) rfl rfl ?_
  refine Dv rfl rfl rfl (U_pick_f rfl rfl) rfl rfl ?_
  refine Dv rfl rfl rfl (U_move rfl) rfl rfl ?_
  refine Dv rfl rfl rfl (U_move rfl) rfl rfl ?_
  refine Dv rfl rfl rfl (U_neq rfl rfl) rfl rfl ?_
  refine Dv rfl rfl rfl (U_pick_f rfl rfl) rfl rfl ?_
  refine Dv rfl rfl rfl (U_move rfl) rfl rfl ?_
  refine Dv rfl rfl rfl (U_move rfl) rfl rfl ?_
  refine Dv rfl rfl rfl (U_move rfl) rfl rfl ?_
  refine Dv rfl rfl rfl (U_call rfl rfl (intsS_p (tinQ (ntrK Z H ls ls.length)) none none (by first | assumption | omega | exact neiK_sz (by omega) | exact tinQ_sz (by omega))) rfl) rfl rfl ?_
  refine Dv rfl rfl rfl (U_not rfl) rfl rfl ?_
  refine Dv rfl rfl rfl (U_pick_f rfl rfl) rfl rfl ?_
  refine Dv rfl rfl rfl (U_move rfl) rfl rfl ?_
  refine Dv rfl rfl rfl (U_move rfl) rfl rfl ?_
  refine Dv rfl rfl rfl (U_lenOf rfl len_ros) rfl rfl ?_
  refine Dv rfl rfl rfl (U_fieldAddrR rfl) rfl rfl ?_
  refine Dv rfl rfl rfl (U_load1 rfl rfl rfl) rfl rfl ?_
  refine Dv rfl rfl rfl (U_lenOf rfl len_ros) rfl rfl ?_
  refine Dv rfl rfl rfl (U_neq rfl rfl) rfl rfl ?_
  refine Dv rfl rfl rfl (U_pick_f rfl rfl) rfl rfl ?_
  refine Dr.nil rfl ?_
  refine thenQ_n ?_
  refine WcondP rfl rfl (fun hc1 => absurd hc1 (by simp; omega)) (fun hc1 => ?_)
  refine W_skip rfl ?_
  refine thenQ_n ?_
  refine W_seq rfl ?_
  refine W_seq rfl ?_
  refine W_reg rfl ?_
  refine Rv rfl rfl rfl (U_fieldAddrR rfl) rfl rfl ?_
  refine Rv rfl rfl rfl (U_load1 rfl rfl rfl) rfl rfl ?_
  refine Rv rfl rfl rfl (U_lenOf rfl len_ros) rfl rfl ?_
  refine Rv rfl rfl rfl (U_eql rfl rfl) rfl rfl ?_
  refine Re rfl ?_
  refine thenQ_n ?_
  refine WcondP rfl rfl (fun hc2 => ?_) (fun hc2 => absurd (by omega) hc2)
  refine W_seq rfl ?_
  refine W_reg rfl ?_
  refine Rv rfl rfl rfl (U_call rfl rfl (works_p) rfl) rfl rfl ?_
  refine Rv rfl rfl rfl (U_assign rfl) rfl rfl ?_
  refine Re rfl ?_
  refine thenQ_n ?_
  refine W_ret rfl ?_
  refine thenQ_r ?_
  exact retL (rlT rfl rl0) rfl rfl
theorem borderTurned2_p (H Z : Nat) (ls : List (List Bx)) (c : Option Nat) (hc : chkS ⟨H, Z, ls⟩ = 0) (hv : VS ⟨H, Z, ls⟩ H Z) (hg : grt ⟨H, Z, ls⟩ = false) (m : Nat) (hm : m < 256) (hours zones : Bool) (a b : Nat) (ha : a < 256) (hb : b < 256) (hn0 : 0 < ls.length) (hab : a % ls.length = b % ls.length) : Pure Try.prog 8 [.agg [i64 (H : Nat), i64 (Z : Nat), landsA ls c], .int .u8 (m : Nat), .bool hours, .bool zones, .int .u8 (a : Nat), .int .u8 (b : Nat)] (.bool true) := by
  have hv' := hv
  obtain ⟨_, _, hH, hZ1, hln, hlb, hbx⟩ := hv'
  simp only at hln hlb hbx
  have hZ := hZ1.2
  have hHZ : Z * H ≤ 1152 := Nat.mul_le_mul hZ hH.2
  have hHZc : H * Z = Z * H := Nat.mul_comm _ _
  have hmH : m % H < H := Nat.mod_lt _ (by omega)
  obtain ⟨t, u, ht, hx⟩ := chg_trns hv hmH hours zones
  have hvx := chgQ_vs (n := m % H) (hours := hours) (zones := zones) hv
  have hcx := vs_chk hvx
  have htl : (tinQ (ntrK Z H ls ls.length)).length = ls.length := by rw [tin_len ntr_ok, ntrK_len]
  have hia : a % ls.length < ls.length := Nat.mod_lt _ hn0
  have hib : b % ls.length < ls.length := Nat.mod_lt _ hn0
  refine pure_of_body Try.func8 (c := body Try.f8) rfl (by simp [Try.ntmps8]) fun w0 Φ0 => ?_
  refine W_seq rfl ?_
  refine W_reg rfl ?_
  refine Rv rfl rfl rfl (U_boxF rfl rfl rfl) rfl rfl ?_
  refine Rv rfl rfl rfl (U_assign rfl) rfl rfl ?_
  refine Re rfl ?_
  refine thenQ_n ?_
  refine W_seq rfl ?_
  refine W_seq rfl ?_
  refine W_reg rfl ?_
  refine Rv rfl rfl rfl (U_load3 rfl rfl rfl rfl rfl) rfl rfl ?_
  refine Rv rfl rfl rfl (U_call rfl rfl (fineT_p H Z ls c hg hc) rfl) rfl rfl ?_
  refine Rv rfl rfl rfl (U_not rfl) rfl rfl ?_
  refine Re rfl ?_
  refine thenQ_n ?_
  refine Wcond rfl rfl (fun h => nomatch h) (fun _ => ?_)
  refine W_skip rfl ?_
  refine thenQ_n ?_
  refine W_seq rfl ?_
  refine Wdraw rfl (by kernel_rfl) (by kernel_rfl) ?_
  refine Dv rfl rfl rfl (U_load3 rfl rfl rfl rfl rfl) rfl rfl ?_
  refine Dv rfl rfl rfl (U_move rfl) rfl rfl ?_
  refine Dv rfl rfl rfl (U_convInt (by rfl) rfl (wr_i64 (by omega) (by omega))) rfl rfl ?_
  refine Dv rfl rfl rfl (U_fieldAddrR rfl) rfl rfl ?_
  refine Dv rfl rfl rfl (U_load1 rfl rfl rfl) rfl rfl ?_
  refine Dv rfl rfl rfl (U_rem (c := ((m % H : Nat) : Int)) rfl rfl (by omega) (tmodN _ _)) rfl rfl ?_
  refine Dv rfl rfl rfl (U_move rfl) rfl rfl ?_
  refine Dv rfl rfl rfl (U_move rfl) rfl rfl ?_
  refine Dv rfl rfl rfl (U_call rfl rfl (changed_p H Z ls c hv (m % H) (by omega) hours zones) rfl) rfl rfl ?_
  refine Da rfl rfl rfl (U_alloc) rfl rfl rfl rfl ?_
  refine Dn_ rfl rfl rfl (U_storeAll rfl rfl rfl rfl rfl rfl) rfl rfl ?_
  refine Dr.nil rfl ?_
  refine thenQ_n ?_
  refine WfrN 0 rfl rfl (T' := [(4, .int .u8 ((a : Nat) : Int)), (5, .int .u8 ((b : Nat) : Int)), (6, .rop [i64 ((H : Nat) : Int), i64 ((Z : Nat) : Int), .ros (ls.map boxesL) ls.length c] 0), (13, .rop [i64 ((H : Nat) : Int), i64 ((Z : Nat) : Int), .ros ((chgQ Z H (m % H) hours zones ls).map boxesL) ((chgQ Z H (m % H) hours zones ls).length) none] 0)]) (H' := []) ⟨⟨_, rfl, rfl⟩, ⟨_, rfl, rfl⟩, ⟨_, rfl, rfl⟩, ⟨_, rfl, rfl⟩, trivial⟩ trivial ?_
  refine W_seq rfl ?_
  refine W_reg rfl ?_
  refine Rv rfl rfl rfl (U_load3 rfl rfl rfl rfl rfl) rfl rfl ?_
  refine Rv rfl rfl rfl (U_call rfl rfl (tin_g H Z ls c hc hv) rfl) rfl rfl ?_
  refine Rv rfl rfl rfl (U_move rfl) rfl rfl ?_
  refine Rv rfl rfl rfl (U_extract rfl rfl) rfl rfl ?_
  refine Rv rfl rfl rfl (U_extract rfl rfl) rfl rfl ?_
  refine Rv rfl rfl rfl (U_assign rfl) rfl rfl ?_
  refine Rv rfl rfl rfl (U_assign rfl) rfl rfl ?_
  refine Re rfl ?_
  refine thenQ_n ?_
  refine W_seq rfl ?_
  refine W_reg rfl ?_
  refine Rv rfl rfl rfl (U_load3 rfl rfl rfl rfl rfl) rfl rfl ?_
  refine Rv rfl rfl rfl (U_call rfl rfl (tinT_p H Z (chgQ Z H (m % H) hours zones ls) none hcx hvx ls t u ht hx) rfl) rfl rfl ?_
  refine Rv rfl rfl rfl (U_move rfl) rfl rfl ?_
  refine Rv rfl rfl rfl (U_extract rfl rfl) rfl rfl ?_
  refine Rv rfl rfl rfl (U_extract rfl rfl) rfl rfl ?_
  refine Rv rfl rfl rfl (U_assign rfl) rfl rfl ?_
  refine Rv rfl rfl rfl (U_assign rfl) rfl rfl ?_
  refine Re rfl ?_
  refine thenQ_n ?_
  refine W_seq rfl ?_
  refine W_seq rfl ?_
  refine Wdraw rfl (by kernel_rfl) (by kernel_rfl) ?_
  refine Dv rfl rfl rfl (U_load3 rfl rfl rfl rfl rfl) rfl rfl ?_
  refine Dv rfl rfl rfl (U_call rfl rfl (onceA_p ⟨H, Z, ls⟩ c (vs_ln hv) (vs_bl hv)) rfl) rfl rfl ?_
  refine Dv rfl rfl rfl (U_load3 rfl rfl rfl rfl rfl) rfl rfl ?_
  refine Dv rfl rfl rfl (U_call rfl rfl (onceT_p H Z (chgQ Z H (m % H) hours zones ls) none hcx hvx ls t u ht hx hc) rfl) rfl rfl ?_
  refine Dv rfl rfl rfl (U_neqS rfl rfl) rfl rfl ?_
  refine Dv rfl rfl rfl (U_move rfl) rfl rfl ?_
  refine Dv rfl rfl rfl (U_move rfl) rfl rfl ?_
  refine Dv rfl rfl rfl (U_neq rfl rfl) rfl rfl ?_
  refine Dv rfl rfl rfl (U_pick_f rfl rfl) rfl rfl ?_
  refine Dv rfl rfl rfl (U_move rfl) rfl rfl ?_
  refine Dv rfl rfl rfl (U_move rfl) rfl rfl ?_
  refine Dv rfl rfl rfl (U_neq rfl rfl) rfl rfl ?_
  refine Dv rfl rfl rfl (U_pick_f rfl rfl) rfl rfl ?_
  refine Dv rfl rfl rfl (U_move rfl) rfl rfl ?_
  refine Dv rfl rfl rfl (U_move rfl) rfl rfl ?_
  refine Dv rfl rfl rfl (U_move rfl) rfl rfl ?_
  refine Dv rfl rfl rfl (U_call rfl rfl (intsS_p (tinQ (ntrK Z H ls ls.length)) none none (by first | assumption | omega | exact neiK_sz (by omega) | exact tinQ_sz (by omega))) rfl) rfl rfl ?_
  refine Dv rfl rfl rfl (U_not rfl) rfl rfl ?_
  refine Dv rfl rfl rfl (U_pick_f rfl rfl) rfl rfl ?_
  refine Dv rfl rfl rfl (U_move rfl) rfl rfl ?_
  refine Dv rfl rfl rfl (U_move rfl) rfl rfl ?_
  refine Dv rfl rfl rfl (U_lenOf rfl len_ros) rfl rfl ?_
  refine Dv rfl rfl rfl (U_fieldAddrR rfl) rfl rfl ?_
  refine Dv rfl rfl rfl (U_load1 rfl rfl rfl) rfl rfl ?_
  refine Dv rfl rfl rfl (U_lenOf rfl len_ros) rfl rfl ?_
  refine Dv rfl rfl rfl (U_neq rfl rfl) rfl rfl ?_
  refine Dv rfl rfl rfl (U_pick_f rfl rfl) rfl rfl ?_
  refine Dr.nil rfl ?_
  refine thenQ_n ?_
  refine WcondP rfl rfl (fun hc1 => absurd hc1 (by simp; omega)) (fun hc1 => ?_)
  refine W_skip rfl ?_
  refine thenQ_n ?_
  refine W_seq rfl ?_
  refine W_seq rfl ?_
  refine W_reg rfl ?_
  refine Rv rfl rfl rfl (U_fieldAddrR rfl) rfl rfl ?_
  refine Rv rfl rfl rfl (U_load1 rfl rfl rfl) rfl rfl ?_
  refine Rv rfl rfl rfl (U_lenOf rfl len_ros) rfl rfl ?_
  refine Rv rfl rfl rfl (U_eql rfl rfl) rfl rfl ?_
  refine Re rfl ?_
  refine thenQ_n ?_
  refine WcondP rfl rfl (fun hc2 => ?_) (fun hc2 => ?_)
  · refine W_seq rfl ?_
    refine W_reg rfl ?_
    refine Rv rfl rfl rfl (U_call rfl rfl (works_p) rfl) rfl rfl ?_
    refine Rv rfl rfl rfl (U_assign rfl) rfl rfl ?_
    refine Re rfl ?_
    refine thenQ_n ?_
    refine W_ret rfl ?_
    refine thenQ_r ?_
    exact retL (rlT rfl rl0) rfl rfl
  · refine W_skip rfl ?_
    refine thenQ_n ?_
    refine W_seq rfl ?_
    refine Wdraw rfl (by kernel_rfl) (by kernel_rfl) ?_
    refine Dv rfl rfl rfl (U_move rfl) rfl rfl ?_
    refine Dv rfl rfl rfl (U_convInt (by rfl) rfl (wr_i64 (by omega) (by omega))) rfl rfl ?_
    refine Dv rfl rfl rfl (U_fieldAddrR rfl) rfl rfl ?_
    refine Dv rfl rfl rfl (U_load1 rfl rfl rfl) rfl rfl ?_
    refine Dv rfl rfl rfl (U_lenOf rfl len_ros) rfl rfl ?_
    refine Dv rfl rfl rfl (U_rem (c := ((a % ls.length : Nat) : Int)) rfl rfl (by omega) (tmodN _ _)) rfl rfl ?_
    refine Dv rfl rfl rfl (U_move rfl) rfl rfl ?_
    refine Dv rfl rfl rfl (U_convInt (by rfl) rfl (wr_i64 (by omega) (by omega))) rfl rfl ?_
    refine Dv rfl rfl rfl (U_fieldAddrR rfl) rfl rfl ?_
    refine Dv rfl rfl rfl (U_load1 rfl rfl rfl) rfl rfl ?_
    refine Dv rfl rfl rfl (U_lenOf rfl len_ros) rfl rfl ?_
    refine Dv rfl rfl rfl (U_rem (c := ((b % ls.length : Nat) : Int)) rfl rfl (by omega) (tmodN _ _)) rfl rfl ?_
    refine Dv rfl rfl rfl (U_assign rfl) rfl rfl ?_
    refine Dv rfl rfl rfl (U_assign rfl) rfl rfl ?_
    refine Dr.nil rfl ?_
    refine thenQ_n ?_
    refine W_seq rfl ?_
    refine W_reg rfl ?_
    refine Rv rfl rfl rfl (U_load3 rfl rfl rfl rfl rfl) rfl rfl ?_
    refine Rv rfl rfl rfl (U_move rfl) rfl rfl ?_
    refine Rv rfl rfl rfl (U_call rfl rfl (siz_g H Z ls c hc hv (a % ls.length) (by omega)) rfl) rfl rfl ?_
    refine Rv rfl rfl rfl (U_move rfl) rfl rfl ?_
    refine Rv rfl rfl rfl (U_extract rfl rfl) rfl rfl ?_
    refine Rv rfl rfl rfl (U_extract rfl rfl) rfl rfl ?_
    refine Rv rfl rfl rfl (U_assign rfl) rfl rfl ?_
    refine Rv rfl rfl rfl (U_assign rfl) rfl rfl ?_
    refine Re rfl ?_
    refine thenQ_n ?_
    refine W_seq rfl ?_
    refine W_reg rfl ?_
    refine Rv rfl rfl rfl (U_load3 rfl rfl rfl rfl rfl) rfl rfl ?_
    refine Rv rfl rfl rfl (U_move rfl) rfl rfl ?_
    refine Rv rfl rfl rfl (U_call rfl rfl (sizT_p H Z (chgQ Z H (m % H) hours zones ls) none hcx hvx ls t u ht hx (a % ls.length) (by rw [chgQ_len]; omega) (by omega)) rfl) rfl rfl ?_
    refine Rv rfl rfl rfl (U_move rfl) rfl rfl ?_
    refine Rv rfl rfl rfl (U_extract rfl rfl) rfl rfl ?_
    refine Rv rfl rfl rfl (U_extract rfl rfl) rfl rfl ?_
    refine Rv rfl rfl rfl (U_assign rfl) rfl rfl ?_
    refine Rv rfl rfl rfl (U_assign rfl) rfl rfl ?_
    refine Re rfl ?_
    refine thenQ_n ?_
    refine W_seq rfl ?_
    refine W_reg rfl ?_
    refine Rv rfl rfl rfl (U_load3 rfl rfl rfl rfl rfl) rfl rfl ?_
    refine Rv rfl rfl rfl (U_move rfl) rfl rfl ?_
    refine Rv rfl rfl rfl (U_call rfl rfl (pie_g H Z ls c hc hv (a % ls.length) (by omega)) rfl) rfl rfl ?_
    refine Rv rfl rfl rfl (U_move rfl) rfl rfl ?_
    refine Rv rfl rfl rfl (U_extract rfl rfl) rfl rfl ?_
    refine Rv rfl rfl rfl (U_extract rfl rfl) rfl rfl ?_
    refine Rv rfl rfl rfl (U_assign rfl) rfl rfl ?_
    refine Rv rfl rfl rfl (U_assign rfl) rfl rfl ?_
    refine Re rfl ?_
    refine thenQ_n ?_
    refine W_seq rfl ?_
    refine W_reg rfl ?_
    refine Rv rfl rfl rfl (U_load3 rfl rfl rfl rfl rfl) rfl rfl ?_
    refine Rv rfl rfl rfl (U_move rfl) rfl rfl ?_
    refine Rv rfl rfl rfl (U_call rfl rfl (pieT_p H Z (chgQ Z H (m % H) hours zones ls) none hcx hvx ls t u ht hx (a % ls.length) (by rw [chgQ_len]; omega) (by omega)) rfl) rfl rfl ?_
    refine Rv rfl rfl rfl (U_move rfl) rfl rfl ?_
    refine Rv rfl rfl rfl (U_extract rfl rfl) rfl rfl ?_
    refine Rv rfl rfl rfl (U_extract rfl rfl) rfl rfl ?_
    refine Rv rfl rfl rfl (U_assign rfl) rfl rfl ?_
    refine Rv rfl rfl rfl (U_assign rfl) rfl rfl ?_
    refine Re rfl ?_
    refine thenQ_n ?_
    refine W_seq rfl ?_
    refine W_reg rfl ?_
    refine Rv rfl rfl rfl (U_load3 rfl rfl rfl rfl rfl) rfl rfl ?_
    refine Rv rfl rfl rfl (U_move rfl) rfl rfl ?_
    refine Rv rfl rfl rfl (U_move rfl) rfl rfl ?_
    refine Rv rfl rfl rfl (U_call rfl rfl (brdZ_p H Z ls c hc hv (a % ls.length) (b % ls.length) (by omega) hab) rfl) rfl rfl ?_
    refine Rv rfl rfl rfl (U_move rfl) rfl rfl ?_
    refine Rv rfl rfl rfl (U_extract rfl rfl) rfl rfl ?_
    refine Rv rfl rfl rfl (U_extract rfl rfl) rfl rfl ?_
    refine Rv rfl rfl rfl (U_assign rfl) rfl rfl ?_
    refine Rv rfl rfl rfl (U_assign rfl) rfl rfl ?_
    refine Re rfl ?_
    refine thenQ_n ?_
    refine W_seq rfl ?_
    refine W_reg rfl ?_
    refine Rv rfl rfl rfl (U_load3 rfl rfl rfl rfl rfl) rfl rfl ?_
    refine Rv rfl rfl rfl (U_move rfl) rfl rfl ?_
    refine Rv rfl rfl rfl (U_move rfl) rfl rfl ?_
    refine Rv rfl rfl rfl (U_call rfl rfl (brdZ_p H Z (chgQ Z H (m % H) hours zones ls) none hcx hvx (a % ls.length) (b % ls.length) (by rw [chgQ_len]; omega) hab) rfl) rfl rfl ?_
    refine Rv rfl rfl rfl (U_move rfl) rfl rfl ?_
    refine Rv rfl rfl rfl (U_extract rfl rfl) rfl rfl ?_
    refine Rv rfl rfl rfl (U_extract rfl rfl) rfl rfl ?_
    refine Rv rfl rfl rfl (U_assign rfl) rfl rfl ?_
    refine Rv rfl rfl rfl (U_assign rfl) rfl rfl ?_
    refine Re rfl ?_
    refine thenQ_n ?_
    refine W_seq rfl ?_
    refine W_reg rfl ?_
    refine Rv rfl rfl rfl (U_load3 rfl rfl rfl rfl rfl) rfl rfl ?_
    refine Rv rfl rfl rfl (U_move rfl) rfl rfl ?_
    refine Rv rfl rfl rfl (U_call rfl rfl (nei_g H Z ls c hc hv (a % ls.length) (by omega)) rfl) rfl rfl ?_
    refine Rv rfl rfl rfl (U_move rfl) rfl rfl ?_
    refine Rv rfl rfl rfl (U_extract rfl rfl) rfl rfl ?_
    refine Rv rfl rfl rfl (U_extract rfl rfl) rfl rfl ?_
    refine Rv rfl rfl rfl (U_assign rfl) rfl rfl ?_
    refine Rv rfl rfl rfl (U_assign rfl) rfl rfl ?_
    refine Re rfl ?_
    refine thenQ_n ?_
    refine W_seq rfl ?_
    refine W_reg rfl ?_
    refine Rv rfl rfl rfl (U_load3 rfl rfl rfl rfl rfl) rfl rfl ?_
    refine Rv rfl rfl rfl (U_move rfl) rfl rfl ?_
    refine Rv rfl rfl rfl (U_call rfl rfl (neiT_p H Z (chgQ Z H (m % H) hours zones ls) none hcx hvx ls t u ht hx (a % ls.length) (by rw [chgQ_len]; omega)) rfl) rfl rfl ?_
    refine Rv rfl rfl rfl (U_move rfl) rfl rfl ?_
    refine Rv rfl rfl rfl (U_extract rfl rfl) rfl rfl ?_
    refine Rv rfl rfl rfl (U_extract rfl rfl) rfl rfl ?_
    refine Rv rfl rfl rfl (U_assign rfl) rfl rfl ?_
    refine Rv rfl rfl rfl (U_assign rfl) rfl rfl ?_
    refine Re rfl ?_
    refine thenQ_n ?_
    refine W_seq rfl ?_
    refine Wjoin ⟨[(12, .bool (decide ((decide ((15 : Int) = 15)) = (decide (((a % ls.length : Nat) : Int) = ((b % ls.length : Nat) : Int))))))], [], 0, []⟩ ?_ ?_
    · refine W_reg rfl ?_
      refine Rv rfl rfl rfl (U_move rfl) rfl rfl ?_
      refine Rv rfl rfl rfl (U_eql rfl rfl) rfl rfl ?_
      refine Rv rfl rfl rfl (U_move rfl) rfl rfl ?_
      refine Rv rfl rfl rfl (U_move rfl) rfl rfl ?_
      refine Rv rfl rfl rfl (U_eql rfl rfl) rfl rfl ?_
      refine Rv rfl rfl rfl (U_pick_t rfl rfl) rfl rfl ?_
      refine Rv rfl rfl rfl (U_move rfl) rfl rfl ?_
      refine Rv rfl rfl rfl (U_move rfl) rfl rfl ?_
      refine Rv rfl rfl rfl (U_move rfl) rfl rfl ?_
      refine Rv rfl rfl rfl (U_eqlS rfl rfl) rfl rfl ?_
      refine Rv rfl rfl rfl (U_pick_t rfl rfl) rfl rfl ?_
      refine Rv rfl rfl rfl (U_move rfl) rfl rfl ?_
      refine Rv rfl rfl rfl (U_move rfl) rfl rfl ?_
      refine Rv rfl rfl rfl (U_eql rfl rfl) rfl rfl ?_
      refine Rv rfl rfl rfl (U_pick_t rfl rfl) rfl rfl ?_
      refine Rv rfl rfl rfl (U_move rfl) rfl rfl ?_
      refine Rv rfl rfl rfl (U_move rfl) rfl rfl ?_
      refine Rv rfl rfl rfl (U_eql rfl rfl) rfl rfl ?_
      refine Rv rfl rfl rfl (U_pick_t rfl rfl) rfl rfl ?_
      refine Rv rfl rfl rfl (U_move rfl) rfl rfl ?_
      refine Rv rfl rfl rfl (U_move rfl) rfl rfl ?_
      refine Rv rfl rfl rfl (U_move rfl) rfl rfl ?_
      refine Rv rfl rfl rfl (U_eqlS rfl rfl) rfl rfl ?_
      refine Rv rfl rfl rfl (U_pick_t rfl rfl) rfl rfl ?_
      refine Rv rfl rfl rfl (U_move rfl) rfl rfl ?_
      refine Rv rfl rfl rfl (U_move rfl) rfl rfl ?_
      refine Rv rfl rfl rfl (U_move rfl) rfl rfl ?_
      refine Rv rfl rfl rfl (U_eql rfl rfl) rfl rfl ?_
      refine Rv rfl rfl rfl (U_pick_t rfl rfl) rfl rfl ?_
      refine Rv rfl rfl rfl (U_move rfl) rfl rfl ?_
      refine Rv rfl rfl rfl (U_move rfl) rfl rfl ?_
      refine Rv rfl rfl rfl (U_eql rfl rfl) rfl rfl ?_
      refine Rv rfl rfl rfl (U_move rfl) rfl rfl ?_
      refine Rv rfl rfl rfl (U_move rfl) rfl rfl ?_
      refine Rv rfl rfl rfl (U_eql rfl rfl) rfl rfl ?_
      refine Rv rfl rfl rfl (U_eqlB rfl rfl) rfl rfl ?_
      refine Rv rfl rfl rfl (U_pick_t rfl rfl) rfl rfl ?_
      refine Rv rfl rfl rfl (U_move rfl) rfl rfl ?_
      refine Rsplit (t := 188) rfl (fun hg1 => ?_) (fun hg1 => ?_)
      · rw [hg1]
        have hg1' : (decide ((15 : Int) = 15)) = (decide (((a % ls.length : Nat) : Int) = ((b % ls.length : Nat) : Int))) := of_decide_eq_true hg1
        refine Rv rfl rfl rfl (U_move rfl) rfl rfl ?_
        refine Rv rfl rfl rfl (U_move rfl) rfl rfl ?_
        refine Rv rfl rfl rfl (U_eql rfl rfl) rfl rfl ?_
        refine Rv rfl rfl rfl (U_pick_t rfl rfl) rfl rfl ?_
        refine Rv rfl rfl rfl (U_move rfl) rfl rfl ?_
        refine Rv rfl rfl rfl (U_move rfl) rfl rfl ?_
        refine Rv rfl rfl rfl (U_eql rfl rfl) rfl rfl ?_
        refine Rv rfl rfl rfl (U_pick_t rfl rfl) rfl rfl ?_
        refine Rv rfl rfl rfl (U_move rfl) rfl rfl ?_
        refine Rv rfl rfl rfl (U_move rfl) rfl rfl ?_
        refine Rv rfl rfl rfl (U_eql rfl rfl) rfl rfl ?_
        refine Rv rfl rfl rfl (U_pick_t rfl rfl) rfl rfl ?_
        refine Rv rfl rfl rfl (U_move rfl) rfl rfl ?_
        refine Rv rfl rfl rfl (U_move rfl) rfl rfl ?_
        refine Rv rfl rfl rfl (U_move rfl) rfl rfl ?_
        refine Rv rfl rfl rfl (U_call rfl rfl (intsS_p (neiK Z H ls (a % ls.length) ls.length) none none (by first | assumption | omega | exact neiK_sz (by omega) | exact tinQ_sz (by omega))) rfl) rfl rfl ?_
        refine Rv rfl rfl rfl (U_pick_t rfl rfl) rfl rfl ?_
        refine Rv rfl rfl rfl (U_move rfl) rfl rfl ?_
        refine Rv rfl rfl rfl (U_call rfl rfl (works_p) rfl) rfl rfl ?_
        refine Rv rfl rfl rfl (U_pick_t rfl rfl) rfl rfl ?_
        refine Rv rfl rfl rfl (U_assign rfl) rfl rfl ?_
        refine Re rfl ?_
        exact joinTo id ⟨eD rfl rfl, trivial⟩ trivial rfl rfl rfl rfl (fun _ _ => rfl)
      · rw [hg1]
        have hg1' : ¬ ((decide ((15 : Int) = 15)) = (decide (((a % ls.length : Nat) : Int) = ((b % ls.length : Nat) : Int)))) := of_decide_eq_false hg1
        refine Rs rfl rfl rfl rfl rfl ?_
        refine Rs rfl rfl rfl rfl rfl ?_
        refine Rs rfl rfl rfl rfl rfl ?_
        refine Rv rfl rfl rfl (U_pick_f rfl rfl) rfl rfl ?_
        refine Rv rfl rfl rfl (U_move rfl) rfl rfl ?_
        refine Rs rfl rfl rfl rfl rfl ?_
        refine Rs rfl rfl rfl rfl rfl ?_
        refine Rv rfl rfl rfl (U_pick_f rfl rfl) rfl rfl ?_
        refine Rv rfl rfl rfl (U_move rfl) rfl rfl ?_
        refine Rs rfl rfl rfl rfl rfl ?_
        refine Rs rfl rfl rfl rfl rfl ?_
        refine Rv rfl rfl rfl (U_pick_f rfl rfl) rfl rfl ?_
        refine Rv rfl rfl rfl (U_move rfl) rfl rfl ?_
        refine Rs rfl rfl rfl rfl rfl ?_
        refine Rs rfl rfl rfl rfl rfl ?_
        refine Rs rfl rfl rfl rfl rfl ?_
        refine Rv rfl rfl rfl (U_pick_f rfl rfl) rfl rfl ?_
        refine Rv rfl rfl rfl (U_move rfl) rfl rfl ?_
        refine Rs rfl rfl rfl rfl rfl ?_
        refine Rv rfl rfl rfl (U_pick_f rfl rfl) rfl rfl ?_
        refine Rv rfl rfl rfl (U_assign rfl) rfl rfl ?_
        refine Re rfl ?_
        exact joinTo id ⟨eD rfl rfl, trivial⟩ trivial rfl rfl rfl rfl (fun _ _ => rfl)
    refine thenQ_n ?_
    refine W_ret rfl ?_
    exact retL (rlT rfl rl0) (by first | rfl | (simp only [packA]; simp; omega; first | done | rfl)) rfl
theorem borderTurned_p (s : Sk) (c : Option Nat) (m : Nat) (hm : m < 256) (hours zones : Bool) (a b : Nat) (ha : a < 256) (hb : b < 256) : Pure Try.prog 8 [.agg [i64 s.h, i64 s.z, landsA s.ls c], .int .u8 (m : Nat), .bool hours, .bool zones, .int .u8 (a : Nat), .int .u8 (b : Nat)] (.bool true) := by
  cases hf : (!grt s && decide (chkS s = 0)) with
  | false => exact borderTurnedF_p s c hf m hm hours zones a b ha hb
  | true =>
    simp only [Bool.and_eq_true, Bool.not_eq_true', decide_eq_true_eq] at hf
    obtain ⟨H, Z, ls, rfl, hv⟩ := sk_ok hf.2
    have hc := hf.2
    have hg := hf.1
    by_cases hn0 : ls.length = 0
    · exact borderTurned0_p H Z ls c hc hv hg m hm hours zones a b ha hb hn0
    · by_cases hab : a % ls.length = b % ls.length
      · exact borderTurned2_p H Z ls c hc hv hg m hm hours zones a b ha hb (by omega) hab
      · exact borderTurned1_p H Z ls c hc hv hg m hm hours zones a b ha hb (by omega) hab
end Go.Proofs.Ythlolelbmhfdbaa
end
