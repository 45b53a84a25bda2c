import Derived.KernelRfl
import Derived.Test.YthlolelbmhfdbaaM5
set_option linter.all false
section
namespace Go.AE
open Go.RowKit
section
variable {ρ : Env} {Φ : Fz} {w : World}
end
section
variable {C : Ctx} {o : Oper} {T : AT} {H : AH} {nx nx' : Nat} {v : AV} {ups : AH}
end
section ops
variable {C : Ctx} {T : AT} {H : AH} {nx : Nat} {d : Option Tmp} {ty : TypeId} {pos : String} {after : Array Edge} {g : Option (Nat × Bool)}
section num
variable {x y : Operand} {k : IntKind} {a b c : Int} {t t' : TypeId}
theorem U_mul (hx : ev T x = some (.int k a)) (hy : ev T y = some (.int k b)) (hc : k.wrap (a * b) = c) : OpU C ⟨d, .binOp .mul t x y t', ty, pos, after, g⟩ T H nx (.int k c) [] nx :=
  binInt hx hy rfl (by simp) fun w => ⟨.int k c, by simp [binOp, Op.intArith, hc], fun _ _ => mk_int⟩
theorem U_quo (hx : ev T x = some (.int k a)) (hy : ev T y = some (.int k b)) (h0 : b ≠ 0) (hc : k.wrap (a.tdiv b) = c) : OpU C ⟨d, .binOp .quo t x y t', ty, pos, after, g⟩ T H nx (.int k c) [] nx :=
  binInt hx hy rfl (by simp) fun w => ⟨.int k c, by simp [binOp, Op.intDiv, h0, hc], fun _ _ => mk_int⟩
end num
end ops
end Go.AE
end

section
namespace Go.AE
open Go.RowKit
section
variable {C : Ctx} {ρ : Env} {Φ : Fz} {H : AH} {w : World}
end
section ops
variable {C : Ctx} {T : AT} {H : AH} {nx : Nat} {d : Option Tmp} {ty : TypeId} {pos : String} {after : Array Edge} {g : Option (Nat × Bool)}
theorem U_convInt {s t : TypeId} {x : Operand} {k k' : IntKind} {n m : Int} {dd : TypeDesc} [hT : TyInt C.P t k'] (hs : C.P.underlying s = some dd) (hx : ev T x = some (.int k n)) (hm : k'.wrap n = m) : OpU C ⟨d, .convert s t x, ty, pos, after, g⟩ T H nx (.int k' m) [] nx :=
  OpU.of_value (by intro c; simp) fun ρ Φ a w h2 _ => by
    refine ⟨.int k' m, ?_, mk_int⟩
    simp only [execOp, convert, con_int (ev_con h2 hx), Sem.run_bind, run_underlying hs, run_underlying hT.un, Result.andThen_ok, Conv.intToInt, hm, Sem.run_pure]
end ops
end Go.AE
end

section
namespace Go.AE
open Go.RowKit
section
variable {C : Ctx} {c : Code} {Q : Exit → St → Prop} {T T' : AT} {H H' : AH} {nx : Nat} {df : List Nat} {cs : List AV} {t : TypeId}
end
section ops
variable {C : Ctx} {T : AT} {H : AH} {nx : Nat} {d : Option Tmp} {ty : TypeId} {pos : String} {after : Array Edge} {g : Option (Nat × Bool)}
end ops
theorem setM {α : Type} {g : α → AV} {l : List α} {k : Nat} {x : α} : setC (l.map g) (0 + k * 1) [g x] = (l.set k x).map g := by simp [setC, List.map_set]
end Go.AE
end

section
namespace Go.AE
open Go.RowKit
theorem wr_i64 {n : Int} (h1 : -9223372036854775808 ≤ n) (h2 : n ≤ 9223372036854775807) : IntKind.i64.wrap n = n := w64 h1 h2
theorem tdivN (a b : Nat) : (a : Int).tdiv b = ((a / b : Nat) : Int) := by rw [Int.tdiv_eq_ediv_of_nonneg (by omega)]; rfl
theorem wquoN {a b : Nat} (h : a ≤ 9223372036854775807) : IntKind.i64.wrap ((a : Int).tdiv b) = ((a / b : Nat) : Int) := by
  rw [tdivN]; have := Nat.div_le_self a b; generalize a / b = q at *; exact w64 (by omega) (by omega)
section
variable {P : Program} {T : AT} {H : AH} {nx : Nat}
end
section ops
variable {C : Ctx} {T : AT} {H : AH} {nx : Nat} {d : Option Tmp} {ty : TypeId} {pos : String} {after : Array Edge} {g : Option (Nat × Bool)}
end ops
end Go.AE
end

section
namespace Go.AE
open Go.RowKit
section
variable {C : Ctx} {T : AT} {H : AH} {nx : Nat} {d : Option Tmp} {ty : TypeId} {pos : String} {after : Array Edge} {g : Option (Nat × Bool)}
theorem U_neqS {t t' : TypeId} {x y : Operand} {k : IntKind} {a : Int} (hx : ev T x = some (.int k a)) (hy : ev T y = some (.int k a)) : OpU C ⟨d, .binOp .neq t x y t', ty, pos, after, g⟩ T H nx (.bool false) [] nx := by
  have h := U_neq (C := C) (t := t) (t' := t') (d := d) (ty := ty) (pos := pos) (after := after) (g := g) (H := H) (nx := nx) hx hy
  rwa [decide_eq_false (fun k => k rfl)] at h
end
end Go.AE
end

section
namespace Go.AE
open Go.RowKit
section
variable {C : Ctx} {T : AT} {H : AH} {nx : Nat} {d : Option Tmp} {ty : TypeId} {pos : String} {after : Array Edge} {g : Option (Nat × Bool)}
theorem stLt {α : Type} {f : α → AV} {l : List α} {j : Nat} (h : j < l.length) : 0 + j * 1 + 1 ≤ (l.map f).length := by simp; omega
end
end Go.AE
end

section
namespace Go.Proofs.Ythlolelbmhfdbaa
set_option maxRecDepth 20000
open Go.AE
theorem any_false {α : Type} {p : α → Bool} {l : List α} (h : ∀ j (hj : j < l.length), p l[j] = false) : l.any p = false := by
  rw [List.any_eq_false]; intro x hx; obtain ⟨j, hj, rfl⟩ := List.getElem_of_mem hx; rw [h j hj]; simp
end Go.Proofs.Ythlolelbmhfdbaa
end

section
namespace Go.Proofs.Ythlolelbmhfdbaa
set_option maxRecDepth 20000
open Go.AE
theorem any_f {α : Type} {p : α → Bool} {l : List α} (h : ∀ j (hj : j < l.length), p l[j] = false) : l.any p = false := any_false h
theorem bef_succ {α : Type} {p : α → Bool} {l : List α} {k : Nat} (h : ∀ j (hj : j < l.length), j < k → p l[j] = false) (hk : k < l.length) (hp : p l[k] = false) : ∀ j (hj : j < l.length), j < k + 1 → p l[j] = false := fun j hj h2 => by
  rcases Nat.lt_succ_iff_lt_or_eq.1 h2 with h2 | rfl
  · exact h j hj h2
  · exact hp
theorem isBR_p (b : Bx) (H Z : Int) (hH : 1 ≤ H ∧ H ≤ 48) (hZ : 1 ≤ Z ∧ Z ≤ 24) : Pure Try.prog 74 [bxA b, i64 H, i64 Z] (.bool (isB b H Z)) := by
  refine pure_of_body Try.func74 (c := body Try.f74) J (by simp [Try.ntmps74]) fun w0 Φ0 => ?_
  refine Wsr J J ?_
  refine Rv J J J (U_boxF J J J) J J ?_
  refine Rv J J J (U_assign J) J J ?_
  refine Rt J ?_
  refine W_seq J ?_
  refine W_seq J ?_
  refine Wjoin ⟨[(2, i64 Z), (3, .rop [i64 b.fr, i64 b.wd, i64 b.lo, i64 b.hi] 0), (26, .bool ((decide (b.fr < 0)) || ((decide (H ≤ b.fr)) || ((decide (b.wd < 1)) || (decide (H < b.wd))))))], [], 0, []⟩ ?_ ?_
  · refine W_reg J ?_
    refine Rv J J J (U_fieldAddrR J) J J ?_
    refine Rv J J J (U_load1 J J J) J J ?_
    refine Rv J J J (U_lss J J) J J ?_
    refine Rv J J J (U_move J) J J ?_
    refine Rsplit (t := 10) J (fun hg1 => ?_) (fun hg1 => ?_)
    · rw [hg1]
      have hg1' : b.fr < 0 := of_decide_eq_true hg1
      refine Rs J J J J J ?_
      refine Rs J J J J J ?_
      refine Rs J J J J J ?_
      refine Rs J J J J J ?_
      refine Rv J J J (U_pick_t J J) J J ?_
      refine Rv J J J (U_move J) J J ?_
      refine Rs J J J J J ?_
      refine Rs J J J J J ?_
      refine Rs J J J J J ?_
      refine Rv J J J (U_pick_t J J) J J ?_
      refine Rv J J J (U_move J) J J ?_
      refine Rs J J J J J ?_
      refine Rs J J J J J ?_
      refine Rs J J J J J ?_
      refine Rs J J J J J ?_
      refine Rv J J J (U_pick_t J J) J J ?_
      refine Re J ?_
      exact joinTo id ⟨eD J J, eD J J, eD J J, trivial⟩ trivial J J J J (fun _ _ => J)
    · rw [hg1]
      have hg1' : ¬ (b.fr < 0) := of_decide_eq_false hg1
      refine Rv J J J (U_fieldAddrR J) J J ?_
      refine Rv J J J (U_load1 J J J) J J ?_
      refine Rv J J J (U_move J) J J ?_
      refine Rv J J J (U_geq J J) J J ?_
      refine Rv J J J (U_pick_f J J) J J ?_
      refine Rv J J J (U_move J) J J ?_
      refine Rsplit (t := 16) J (fun hg2 => ?_) (fun hg2 => ?_)
      · rw [hg2]
        have hg2' : H ≤ b.fr := of_decide_eq_true hg2
        refine Rs J J J J J ?_
        refine Rs J J J J J ?_
        refine Rs J J J J J ?_
        refine Rv J J J (U_pick_t J J) J J ?_
        refine Rv J J J (U_move J) J J ?_
        refine Rs J J J J J ?_
        refine Rs J J J J J ?_
        refine Rs J J J J J ?_
        refine Rs J J J J J ?_
        refine Rv J J J (U_pick_t J J) J J ?_
        refine Re J ?_
        exact joinTo id ⟨eD J J, eD J J, eD J J, trivial⟩ trivial J J J J (fun _ _ => J)
      · rw [hg2]
        have hg2' : ¬ (H ≤ b.fr) := of_decide_eq_false hg2
        refine Rv J J J (U_fieldAddrR J) J J ?_
        refine Rv J J J (U_load1 J J J) J J ?_
        refine Rv J J J (U_lss J J) J J ?_
        refine Rv J J J (U_pick_f J J) J J ?_
        refine Rv J J J (U_move J) J J ?_
        refine Rsplit (t := 21) J (fun hg3 => ?_) (fun hg3 => ?_)
        · rw [hg3]
          have hg3' : b.wd < 1 := of_decide_eq_true hg3
          refine Rs J J J J J ?_
          refine Rs J J J J J ?_
          refine Rs J J J J J ?_
          refine Rs J J J J J ?_
          refine Rv J J J (U_pick_t J J) J J ?_
          refine Re J ?_
          exact joinTo id ⟨eD J J, eD J J, eD J J, trivial⟩ trivial J J J J (fun _ _ => J)
        · rw [hg3]
          have hg3' : ¬ (b.wd < 1) := of_decide_eq_false hg3
          refine Rv J J J (U_fieldAddrR J) J J ?_
          refine Rv J J J (U_load1 J J J) J J ?_
          refine Rv J J J (U_move J) J J ?_
          refine Rv J J J (U_gtr J J) J J ?_
          refine Rv J J J (U_pick_f J J) J J ?_
          refine Re J ?_
          exact joinTo id ⟨eD J J, eD J J, eD J J, trivial⟩ trivial J J J J (fun _ _ => J)
  refine thenQ_n ?_
  refine Wcond J J (fun hc0 => ?_) (fun hc0 => ?_)
  · refine Wsr J J ?_
    refine Rv J J J (U_assign J) J J ?_
    refine Rt J ?_
    refine W_ret J ?_
    refine thenQ_r ?_
    exact retL (rlT J rl0) (by first | rfl | (simp only [packA]; congr 1; symm; unfold isB; rw [inL1, inL1, inL1, inL1, Bool.eq_false_iff]; intro h; simp at h hc0; omega; first | done | rfl) | (simp only [packA]; congr 1; unfold isB; rw [inL1, inL1, inL1, inL1, Bool.eq_iff_iff]; simp at hc0 ⊢; omega; first | done | rfl)) J
  · have hc0' := Bool.eq_false_iff.1 hc0
    refine W_skip J ?_
    refine thenQ_n ?_
    refine W_seq J ?_
    refine Wjoin ⟨[(6, .bool ((decide (0 ≤ b.lo)) && ((decide (b.lo < b.hi)) && (decide (b.hi ≤ Z)))))], [], 0, []⟩ ?_ ?_
    · refine W_reg J ?_
      refine Rv J J J (U_fieldAddrR J) J J ?_
      refine Rv J J J (U_load1 J J J) J J ?_
      refine Rv J J J (U_geq J J) J J ?_
      refine Rv J J J (U_move J) J J ?_
      refine Rsplit (t := 30) J (fun hg4 => ?_) (fun hg4 => ?_)
      · rw [hg4]
        have hg4' : 0 ≤ b.lo := of_decide_eq_true hg4
        refine Rv J J J (U_fieldAddrR J) J J ?_
        refine Rv J J J (U_load1 J J J) J J ?_
        refine Rv J J J (U_fieldAddrR J) J J ?_
        refine Rv J J J (U_load1 J J J) J J ?_
        refine Rv J J J (U_lss J J) J J ?_
        refine Rv J J J (U_pick_t J J) J J ?_
        refine Rv J J J (U_move J) J J ?_
        refine Rsplit (t := 37) J (fun hg5 => ?_) (fun hg5 => ?_)
        · rw [hg5]
          have hg5' : b.lo < b.hi := of_decide_eq_true hg5
          refine Rv J J J (U_fieldAddrR J) J J ?_
          refine Rv J J J (U_load1 J J J) J J ?_
          refine Rv J J J (U_move J) J J ?_
          refine Rv J J J (U_leq J J) J J ?_
          refine Rv J J J (U_pick_t J J) J J ?_
          refine Rv J J J (U_assign J) J J ?_
          refine Re J ?_
          exact joinTo id ⟨eD J J, trivial⟩ trivial J J J J (fun _ _ => J)
        · rw [hg5]
          have hg5' : ¬ (b.lo < b.hi) := of_decide_eq_false hg5
          refine Rs J J J J J ?_
          refine Rs J J J J J ?_
          refine Rs J J J J J ?_
          refine Rs J J J J J ?_
          refine Rv J J J (U_pick_f J J) J J ?_
          refine Rv J J J (U_assign J) J J ?_
          refine Re J ?_
          exact joinTo id ⟨eD J J, trivial⟩ trivial J J J J (fun _ _ => J)
      · rw [hg4]
        have hg4' : ¬ (0 ≤ b.lo) := of_decide_eq_false hg4
        refine Rs J J J J J ?_
        refine Rs J J J J J ?_
        refine Rs J J J J J ?_
        refine Rs J J J J J ?_
        refine Rs J J J J J ?_
        refine Rv J J J (U_pick_f J J) J J ?_
        refine Rv J J J (U_move J) J J ?_
        refine Rs J J J J J ?_
        refine Rs J J J J J ?_
        refine Rs J J J J J ?_
        refine Rs J J J J J ?_
        refine Rv J J J (U_pick_f J J) J J ?_
        refine Rv J J J (U_assign J) J J ?_
        refine Re J ?_
        exact joinTo id ⟨eD J J, trivial⟩ trivial J J J J (fun _ _ => J)
    refine thenQ_n ?_
    refine W_ret J ?_
    exact retL (rlT J rl0) (by first | rfl | (simp only [packA]; congr 1; symm; unfold isB; rw [inL1, inL1, inL1, inL1, Bool.eq_false_iff]; intro h; simp at h hc0; omega; first | done | rfl) | (simp only [packA]; congr 1; unfold isB; rw [inL1, inL1, inL1, inL1, Bool.eq_iff_iff]; simp at hc0 ⊢; omega; first | done | rfl)) J
theorem chkSR_p (s : Sk) (c : Option Nat) (hl : s.ls.length ≤ 1000000) (hbl : ∀ l ∈ s.ls, l.length ≤ 1000000) : Pure Try.prog 23 [.agg [i64 s.h, i64 s.z, landsA s.ls c]] (i64 (chkS s)) := by
  refine pure_of_body Try.func23 (c := body Try.f23) J (by simp [Try.ntmps23]) fun w0 Φ0 => ?_
  refine Wsr J J ?_
  refine Rv J J J (U_boxF J J J) J J ?_
  refine Rv J J J (U_assign J) J J ?_
  refine Rt J ?_
  refine W_seq J ?_
  refine W_seq J ?_
  refine Wjoin ⟨[(1, .rop [i64 s.h, i64 s.z, .ros (s.ls.map boxesL) s.ls.length c] 0), (23, .bool ((decide (s.h < 1)) || ((decide (48 < s.h)) || ((decide (s.z < 1)) || (decide (24 < s.z))))))], [], 0, []⟩ ?_ ?_
  · refine W_reg J ?_
    refine Rv J J J (U_fieldAddrR J) J J ?_
    refine Rv J J J (U_load1 J J J) J J ?_
    refine Rv J J J (U_lss J J) J J ?_
    refine Rv J J J (U_move J) J J ?_
    refine Rsplit (t := 9) J (fun hg1 => ?_) (fun hg1 => ?_)
    · rw [hg1]
      have hg1' : s.h < 1 := of_decide_eq_true hg1
      refine Rs J J J J J ?_
      refine Rs J J J J J ?_
      refine Rs J J J J J ?_
      refine Rv J J J (U_pick_t J J) J J ?_
      refine Rv J J J (U_move J) J J ?_
      refine Rs J J J J J ?_
      refine Rs J J J J J ?_
      refine Rs J J J J J ?_
      refine Rv J J J (U_pick_t J J) J J ?_
      refine Rv J J J (U_move J) J J ?_
      refine Rs J J J J J ?_
      refine Rs J J J J J ?_
      refine Rs J J J J J ?_
      refine Rv J J J (U_pick_t J J) J J ?_
      refine Re J ?_
      exact joinTo id ⟨eD J J, eD J J, trivial⟩ trivial J J J J (fun _ _ => J)
    · rw [hg1]
      have hg1' : ¬ (s.h < 1) := of_decide_eq_false hg1
      refine Rv J J J (U_fieldAddrR J) J J ?_
      refine Rv J J J (U_load1 J J J) J J ?_
      refine Rv J J J (U_gtr J J) J J ?_
      refine Rv J J J (U_pick_f J J) J J ?_
      refine Rv J J J (U_move J) J J ?_
      refine Rsplit (t := 14) J (fun hg2 => ?_) (fun hg2 => ?_)
      · rw [hg2]
        have hg2' : 48 < s.h := of_decide_eq_true hg2
        refine Rs J J J J J ?_
        refine Rs J J J J J ?_
        refine Rs J J J J J ?_
        refine Rv J J J (U_pick_t J J) J J ?_
        refine Rv J J J (U_move J) J J ?_
        refine Rs J J J J J ?_
        refine Rs J J J J J ?_
        refine Rs J J J J J ?_
        refine Rv J J J (U_pick_t J J) J J ?_
        refine Re J ?_
        exact joinTo id ⟨eD J J, eD J J, trivial⟩ trivial J J J J (fun _ _ => J)
      · rw [hg2]
        have hg2' : ¬ (48 < s.h) := of_decide_eq_false hg2
        refine Rv J J J (U_fieldAddrR J) J J ?_
        refine Rv J J J (U_load1 J J J) J J ?_
        refine Rv J J J (U_lss J J) J J ?_
        refine Rv J J J (U_pick_f J J) J J ?_
        refine Rv J J J (U_move J) J J ?_
        refine Rsplit (t := 19) J (fun hg3 => ?_) (fun hg3 => ?_)
        · rw [hg3]
          have hg3' : s.z < 1 := of_decide_eq_true hg3
          refine Rs J J J J J ?_
          refine Rs J J J J J ?_
          refine Rs J J J J J ?_
          refine Rv J J J (U_pick_t J J) J J ?_
          refine Re J ?_
          exact joinTo id ⟨eD J J, eD J J, trivial⟩ trivial J J J J (fun _ _ => J)
        · rw [hg3]
          have hg3' : ¬ (s.z < 1) := of_decide_eq_false hg3
          refine Rv J J J (U_fieldAddrR J) J J ?_
          refine Rv J J J (U_load1 J J J) J J ?_
          refine Rv J J J (U_gtr J J) J J ?_
          refine Rv J J J (U_pick_f J J) J J ?_
          refine Re J ?_
          exact joinTo id ⟨eD J J, eD J J, trivial⟩ trivial J J J J (fun _ _ => J)
  refine thenQ_n ?_
  refine Wcond J J (fun hc0 => ?_) (fun hc0 => ?_)
  · have hce : chkS s = 3 := by rw [chkS, if_pos (by rw [inL1, inL1]; simp at hc0 ⊢; omega)]
    refine Wsr J J ?_
    refine Rv J J J (U_assign J) J J ?_
    refine Rt J ?_
    refine W_ret J ?_
    refine thenQ_r ?_
    exact retL (rlT J rl0) (by first | rfl | (simp only [packA]; rw [hce]; first | done | rfl)) J
  · have hc0' := Bool.eq_false_iff.1 hc0
    have hr : (1 ≤ s.h ∧ s.h ≤ 48) ∧ 1 ≤ s.z ∧ s.z ≤ 24 := by simp at hc0; omega
    obtain ⟨hh, hz⟩ := hr
    refine W_skip J ?_
    refine thenQ_n ?_
    refine W_seq J ?_
    refine Wsr J J ?_
    refine Rv J J J (U_fieldAddrR J) J J ?_
    refine Rv J J J (U_load1 J J J) J J ?_
    refine Rv J J J (U_lenOf J len_ros) J J ?_
    refine Rv J J J (U_gtr J J) J J ?_
    refine Rt J ?_
    refine WcondP J J (fun hc1 => ?_) (fun hc1 => ?_)
    · have hce : chkS s = 6 := by rw [chkS, if_neg (by rw [inL1, inL1]; simp; omega), if_pos (by simp; omega)]
      refine Wsr J J ?_
      refine Rv J J J (U_assign J) J J ?_
      refine Rt J ?_
      refine W_ret J ?_
      refine thenQ_r ?_
      exact retL (rlT J rl0) (by first | rfl | (simp only [packA]; rw [hce]; first | done | rfl)) J
    · refine W_skip J ?_
      refine thenQ_n ?_
      refine W_seq J ?_
      refine Wsr J J ?_
      refine Rv J J J (U_assign J) J J ?_
      refine Rt J ?_
      refine W_block J ?_
      refine LoopTo (T' := [(1, .rop [i64 s.h, i64 s.z, .ros (s.ls.map boxesL) s.ls.length c] 0), (3, i64 ((0 : Nat) : Int))]) (H' := []) (n := 0) J (fun mz_ qz_ => ∃ (k : Nat), k ≤ s.ls.length ∧ (∀ j (hj : j < s.ls.length), j < k → decide ((600 : Int) < ((s.ls[j].length : Nat) : Int)) = false) ∧ mz_ = s.ls.length - k ∧ qz_ = ⟨[(1, .rop [i64 s.h, i64 s.z, .ros (s.ls.map boxesL) s.ls.length c] 0), (3, i64 ((k : Nat) : Int))], [], 0, []⟩) ⟨0, (by omega), (fun j hj h => absurd h (Nat.not_lt_zero _)), J, J⟩ id ⟨eD J J, eD J J, trivial⟩ trivial J J J J (fun _ _ => J) ?_
      rintro _ _ ⟨k, hi0_0, hi0_1, rfl, rfl⟩
      refine W_seq J ?_
      refine Wsr J J ?_
      refine Rv J J J (U_move J) J J ?_
      refine Rv J J J (U_fieldAddrR J) J J ?_
      refine Rv J J J (U_load1 J J J) J J ?_
      refine Rv J J J (U_lenOf J len_ros) J J ?_
      refine Rv J J J (U_lss J J) J J ?_
      refine Rt J ?_
      refine WcondP J J (fun hc2 => ?_) (fun hc2 => ?_)
      · have hck : k < s.ls.length := by omega
        refine W_skip J ?_
        refine thenQ_n ?_
        refine W_seq J ?_
        refine W_block J ?_
        refine Wsr J J ?_
        refine Rv J J J (U_fieldAddrR J) J J ?_
        refine Rv J J J (U_load1 J J J) J J ?_
        refine Rv J J J (U_move J) J J ?_
        have hx4 : k < s.ls.length := by omega
        refine Rv J J J (U_indexR (j := k) J J J hx4) J J ?_
        refine Rv J J J (U_load1 J J (getM hx4)) J J ?_
        refine Rv J J J (U_lenOf J len_ros) J J ?_
        refine Rv J J J (U_gtr J J) J J ?_
        refine Rt J ?_
        refine WcondP J J (fun hc3 => ?_) (fun hc3 => ?_)
        · have h600 : (s.ls.any fun l => decide ((600 : Int) < ((l.length : Nat) : Int))) = true := any_true hck (by simpa using hc3)
          have hce : chkS s = 6 := by rw [chkS, if_neg (by rw [inL1, inL1]; simp; omega), if_pos (by rw [h600]; simp)]
          refine Wsr J J ?_
          refine Rv J J J (U_assign J) J J ?_
          refine Rt J ?_
          refine W_ret J ?_
          refine blkQ_r ?_
          refine thenQ_r ?_
          refine thenQ_r ?_
          refine blkQ_r ?_
          refine thenQ_r ?_
          exact retL (rlT J rl0) (by first | rfl | (simp only [packA]; rw [hce]; first | done | rfl)) J
        · refine W_skip J ?_
          refine blkQ_n ?_
          refine thenQ_n ?_
          refine W_reg J ?_
          refine Rv J J J (U_move J) J J ?_
          refine Rv J J J (U_add J J (w64e (m := ((k + 1 : Nat) : Int)) (by omega) (by omega) (by omega))) J J ?_
          refine Rv J J J (U_assign J) J J ?_
          refine Rt J ?_
          exact againTo (T' := [(1, .rop [i64 s.h, i64 s.z, .ros (s.ls.map boxesL) s.ls.length c] 0), (3, i64 (((k + 1) : Nat) : Int))]) (H' := []) (n := 0) (s.ls.length - (k + 1)) ⟨k + 1, (by omega), (bef_succ (p := fun l : List Bx => decide ((600 : Int) < ((l.length : Nat) : Int))) hi0_1 hck (by simp; omega)), J, J⟩ (by omega) id ⟨eD J J, eD J J, trivial⟩ trivial J J J J (fun _ _ => J)
      · have h600 : (s.ls.any fun l => decide ((600 : Int) < ((l.length : Nat) : Int))) = false := any_f fun j hj => hi0_1 j hj (by omega)
        refine W_exit J ?_
        refine thenQ_x ?_
        refine thenQ_x ?_
        refine blkQ_x J ?_
        refine thenQ_n ?_
        refine W_seq J ?_
        refine Wsr J J ?_
        refine Rv J J J (U_assign J) J J ?_
        refine Rt J ?_
        refine W_block J ?_
        refine LoopTo (T' := [(1, .rop [i64 s.h, i64 s.z, .ros (s.ls.map boxesL) s.ls.length c] 0), (4, i64 ((0 : Nat) : Int))]) (H' := []) (n := 0) J (fun mz_ qz_ => ∃ (m : Nat), m ≤ s.ls.length ∧ (∀ j (hj : j < s.ls.length), j < m → (s.ls[j].any fun b => !isB b s.h s.z) = false) ∧ mz_ = s.ls.length - m ∧ qz_ = ⟨[(1, .rop [i64 s.h, i64 s.z, .ros (s.ls.map boxesL) s.ls.length c] 0), (4, i64 ((m : Nat) : Int))], [], 0, []⟩) ⟨0, (by omega), (fun j hj h => absurd h (Nat.not_lt_zero _)), J, J⟩ id ⟨eD J J, eD J J, trivial⟩ trivial J J J J (fun _ _ => J) ?_
        rintro _ _ ⟨m, hi1_0, hi1_1, rfl, rfl⟩
        refine W_seq J ?_
        refine Wsr J J ?_
        refine Rv J J J (U_move J) J J ?_
        refine Rv J J J (U_fieldAddrR J) J J ?_
        refine Rv J J J (U_load1 J J J) J J ?_
        refine Rv J J J (U_lenOf J len_ros) J J ?_
        refine Rv J J J (U_lss J J) J J ?_
        refine Rt J ?_
        refine WcondP J J (fun hc4 => ?_) (fun hc4 => ?_)
        · have hcm : m < s.ls.length := by omega
          have hbm := hbl _ (List.getElem_mem hcm)
          refine W_skip J ?_
          refine thenQ_n ?_
          refine W_seq J ?_
          refine W_block J ?_
          refine Wsr J J ?_
          refine Rv J J J (U_assign J) J J ?_
          refine Rt J ?_
          refine W_block J ?_
          refine LoopTo (T' := [(1, .rop [i64 s.h, i64 s.z, .ros (s.ls.map boxesL) s.ls.length c] 0), (4, i64 ((m : Nat) : Int)), (5, i64 ((0 : Nat) : Int))]) (H' := []) (n := 0) J (fun mz_ qz_ => ∃ (i : Nat), i ≤ s.ls[m].length ∧ (∀ j (hj : j < s.ls[m].length), j < i → (!isB s.ls[m][j] s.h s.z) = false) ∧ mz_ = s.ls[m].length - i ∧ qz_ = ⟨[(1, .rop [i64 s.h, i64 s.z, .ros (s.ls.map boxesL) s.ls.length c] 0), (4, i64 ((m : Nat) : Int)), (5, i64 ((i : Nat) : Int))], [], 0, []⟩) ⟨0, (by omega), (fun j hj h => absurd h (Nat.not_lt_zero _)), J, J⟩ id ⟨eD J J, eD J J, eD J J, trivial⟩ trivial J J J J (fun _ _ => J) ?_
          rintro _ _ ⟨i, hi2_0, hi2_1, rfl, rfl⟩
          refine W_seq J ?_
          refine Wsr J J ?_
          refine Rv J J J (U_move J) J J ?_
          refine Rv J J J (U_fieldAddrR J) J J ?_
          refine Rv J J J (U_load1 J J J) J J ?_
          refine Rv J J J (U_move J) J J ?_
          have hx5 : m < s.ls.length := by omega
          refine Rv J J J (U_indexR (j := m) J J J hx5) J J ?_
          refine Rv J J J (U_load1 J J (getM hx5)) J J ?_
          refine Rv J J J (U_lenOf J len_ros) J J ?_
          refine Rv J J J (U_lss J J) J J ?_
          refine Rt J ?_
          refine WcondP J J (fun hc5 => ?_) (fun hc5 => ?_)
          · have hci : i < s.ls[m].length := by omega
            refine W_skip J ?_
            refine thenQ_n ?_
            refine W_seq J ?_
            refine W_block J ?_
            refine W_seq J ?_
            refine Wdraw J (by kernel_rfl) (by kernel_rfl) ?_
            refine Dv J J J (U_fieldAddrR J) J J ?_
            refine Dv J J J (U_load1 J J J) J J ?_
            refine Dv J J J (U_move J) J J ?_
            refine Dv J J J (U_indexR (j := m) J J J hx5) J J ?_
            refine Dv J J J (U_load1 J J (getM hx5)) J J ?_
            refine Dv J J J (U_move J) J J ?_
            have hx6 : i < s.ls[m].length := by omega
            refine Dv J J J (U_indexR (j := i) J J J hx6) J J ?_
            refine Dv J J J (U_load4 J J (bxG0 hx6) (bxG1 hx6) (bxG2 hx6) (bxG3 hx6)) J J ?_
            refine Dv J J J (U_fieldAddrR J) J J ?_
            refine Dv J J J (U_load1 J J J) J J ?_
            refine Dv J J J (U_fieldAddrR J) J J ?_
            refine Dv J J J (U_load1 J J J) J J ?_
            refine Dv J J J (U_call J J (isBR_p (s.ls[m][i]) s.h s.z (by assumption) (by assumption)) J) J J ?_
            refine Dv J J J (U_not J) J J ?_
            refine Dr.nil J ?_
            refine thenQ_n ?_
            refine Wcond J J (fun hc6 => ?_) (fun hc6 => ?_)
            · have hst : (s.ls.any fun l => l.any fun b => !isB b s.h s.z) = true := any_true hcm (any_true hci (by simpa using hc6))
              have hce : chkS s = 2 := by rw [chkS, if_neg (by rw [inL1, inL1]; simp; omega), if_neg (by rw [h600]; simp; omega), if_pos hst]
              refine Wsr J J ?_
              refine Rv J J J (U_assign J) J J ?_
              refine Rt J ?_
              refine W_ret J ?_
              refine blkQ_r ?_
              refine thenQ_r ?_
              refine thenQ_r ?_
              refine blkQ_r ?_
              refine blkQ_r ?_
              refine thenQ_r ?_
              refine thenQ_r ?_
              refine blkQ_r ?_
              refine thenQ_r ?_
              exact retL (rlT J rl0) (by first | rfl | (simp only [packA]; rw [hce]; first | done | rfl)) J
            · have hc6' := Bool.eq_false_iff.1 hc6
              refine W_skip J ?_
              refine blkQ_n ?_
              refine thenQ_n ?_
              refine W_reg J ?_
              refine Rv J J J (U_move J) J J ?_
              refine Rv J J J (U_add J J (w64e (m := ((i + 1 : Nat) : Int)) (by omega) (by omega) (by omega))) J J ?_
              refine Rv J J J (U_assign J) J J ?_
              refine Rt J ?_
              exact againTo (T' := [(1, .rop [i64 s.h, i64 s.z, .ros (s.ls.map boxesL) s.ls.length c] 0), (4, i64 ((m : Nat) : Int)), (5, i64 (((i + 1) : Nat) : Int))]) (H' := []) (n := 0) (s.ls[m].length - (i + 1)) ⟨i + 1, (by omega), (bef_succ (p := fun b : Bx => !isB b s.h s.z) hi2_1 hci (by simpa using hc6)), J, J⟩ (by omega) id ⟨eD J J, eD J J, eD J J, trivial⟩ trivial J J J J (fun _ _ => J)
          · have hla : (s.ls[m].any fun b => !isB b s.h s.z) = false := any_f fun j hj => hi2_1 j hj (by omega)
            refine W_exit J ?_
            refine thenQ_x ?_
            refine thenQ_x ?_
            refine blkQ_x J ?_
            refine blkQ_n ?_
            refine thenQ_n ?_
            refine W_reg J ?_
            refine Rv J J J (U_move J) J J ?_
            refine Rv J J J (U_add J J (w64e (m := ((m + 1 : Nat) : Int)) (by omega) (by omega) (by omega))) J J ?_
            refine Rv J J J (U_assign J) J J ?_
            refine Rt J ?_
            exact againTo (T' := [(1, .rop [i64 s.h, i64 s.z, .ros (s.ls.map boxesL) s.ls.length c] 0), (4, i64 (((m + 1) : Nat) : Int))]) (H' := []) (n := 0) (s.ls.length - (m + 1)) ⟨m + 1, (by omega), (bef_succ (p := fun l : List Bx => l.any fun b => !isB b s.h s.z) hi1_1 hcm hla), J, J⟩ (by omega) id ⟨eD J J, eD J J, trivial⟩ trivial J J J J (fun _ _ => J)
        · have hst : (s.ls.any fun l => l.any fun b => !isB b s.h s.z) = false := any_f fun j hj => hi1_1 j hj (by omega)
          have hce : chkS s = 0 := by rw [chkS, if_neg (by rw [inL1, inL1]; simp; omega), if_neg (by rw [h600]; simp; omega), if_neg (by rw [hst]; simp)]
          refine W_exit J ?_
          refine thenQ_x ?_
          refine thenQ_x ?_
          refine blkQ_x J ?_
          refine thenQ_n ?_
          refine Wsr J J ?_
          refine Rv J J J (U_assign J) J J ?_
          refine Rt J ?_
          refine W_ret J ?_
          exact retL (rlT J rl0) (by first | rfl | (simp only [packA]; rw [hce]; first | done | rfl)) J
end Go.Proofs.Ythlolelbmhfdbaa
end

section
namespace Go.Proofs.Ythlolelbmhfdbaa
set_option maxRecDepth 20000
open Go.AE
abbrev natsA (l : List Nat) (c : Option Nat) : AV := .ros (l.map n64) l.length c
end Go.Proofs.Ythlolelbmhfdbaa
end

section
namespace Go.Proofs.Ythlolelbmhfdbaa
set_option maxRecDepth 20000
open Go.AE
theorem inBoxR_p (b : Bx) (H z h : Nat) (hH : 1 ≤ H ∧ H ≤ 48) (hf : 0 ≤ b.fr ∧ b.fr < H) (hh : h < H) : Pure Try.prog 92 [bxA b, i64 (H : Nat), i64 (h : Nat), i64 (z : Nat)] (.bool (inN b H z h)) := by
  refine pure_of_body Try.func92 (c := body Try.f92) J (by simp [Try.ntmps92]) fun w0 Φ0 => ?_
  refine Wsr J J ?_
  refine Rv J J J (U_boxF J J J) J J ?_
  refine Rv J J J (U_assign J) J J ?_
  refine Rt J ?_
  refine W_seq J ?_
  refine Wjoin ⟨[(8, .bool ((decide ((((((h : Nat) : Int) - b.fr) + ((H : Nat) : Int)) % ((H : Nat) : Int)) < b.wd)) && ((decide (b.lo ≤ ((z : Nat) : Int))) && (decide (((z : Nat) : Int) < b.hi)))))], [], 0, []⟩ ?_ ?_
  · refine Wdraw J (by kernel_rfl) (by kernel_rfl) ?_
    refine Dv J J J (U_move J) J J ?_
    refine Dv J J J (U_fieldAddrR J) J J ?_
    refine Dv J J J (U_load1 J J J) J J ?_
    refine Dv J J J (U_sub J J (w64 (by omega) (by omega))) J J ?_
    refine Dv J J J (U_move J) J J ?_
    refine Dv J J J (U_add J J (w64 (by omega) (by omega))) J J ?_
    refine Dv J J J (U_move J) J J ?_
    refine Dv J J J (U_rem (c := (((((h : Nat) : Int) - b.fr) + ((H : Nat) : Int)) % ((H : Nat) : Int))) J J (by omega) (tmodP (by omega))) J J ?_
    refine Dv J J J (U_fieldAddrR J) J J ?_
    refine Dv J J J (U_load1 J J J) J J ?_
    refine Dv J J J (U_lss J J) J J ?_
    refine Dv J J J (U_move J) J J ?_
    refine Dsplit (t := 20) J (fun hg1 => ?_) (fun hg1 => ?_)
    · rw [hg1]
      have hg1' : (((((h : Nat) : Int) - b.fr) + ((H : Nat) : Int)) % ((H : Nat) : Int)) < b.wd := of_decide_eq_true hg1
      refine Dv J J J (U_move J) J J ?_
      refine Dv J J J (U_fieldAddrR J) J J ?_
      refine Dv J J J (U_load1 J J J) J J ?_
      refine Dv J J J (U_geq J J) J J ?_
      refine Dv J J J (U_pick_t J J) J J ?_
      refine Dv J J J (U_move J) J J ?_
      refine Dsplit (t := 26) J (fun hg2 => ?_) (fun hg2 => ?_)
      · rw [hg2]
        have hg2' : b.lo ≤ ((z : Nat) : Int) := of_decide_eq_true hg2
        refine Dv J J J (U_move J) J J ?_
        refine Dv J J J (U_fieldAddrR J) J J ?_
        refine Dv J J J (U_load1 J J J) J J ?_
        refine Dv J J J (U_lss J J) J J ?_
        refine Dv J J J (U_pick_t J J) J J ?_
        refine Dv J J J (U_assign J) J J ?_
        refine Dr.nil J ?_
        exact joinTo id ⟨eD J J, trivial⟩ trivial J J J J (fun _ _ => J)
      · rw [hg2]
        have hg2' : ¬ (b.lo ≤ ((z : Nat) : Int)) := of_decide_eq_false hg2
        refine Ds J J J J J ?_
        refine Ds J J J J J ?_
        refine Ds J J J J J ?_
        refine Ds J J J J J ?_
        refine Dv J J J (U_pick_f J J) J J ?_
        refine Dv J J J (U_assign J) J J ?_
        refine Dr.nil J ?_
        exact joinTo id ⟨eD J J, trivial⟩ trivial J J J J (fun _ _ => J)
    · rw [hg1]
      have hg1' : ¬ ((((((h : Nat) : Int) - b.fr) + ((H : Nat) : Int)) % ((H : Nat) : Int)) < b.wd) := of_decide_eq_false hg1
      refine Ds J J J J J ?_
      refine Ds J J J J J ?_
      refine Ds J J J J J ?_
      refine Ds J J J J J ?_
      refine Dv J J J (U_pick_f J J) J J ?_
      refine Dv J J J (U_move J) J J ?_
      refine Ds J J J J J ?_
      refine Ds J J J J J ?_
      refine Ds J J J J J ?_
      refine Ds J J J J J ?_
      refine Dv J J J (U_pick_f J J) J J ?_
      refine Dv J J J (U_assign J) J J ?_
      refine Dr.nil J ?_
      exact joinTo id ⟨eD J J, trivial⟩ trivial J J J J (fun _ _ => J)
  refine thenQ_n ?_
  refine W_ret J ?_
  exact retL (rlT J rl0) (by first | rfl | (simp only [packA]; congr 1; rw [Bool.eq_iff_iff]; simp only [inN, Bool.and_eq_true, decide_eq_true_eq]; simp; omega; first | done | rfl)) J
theorem inR_p (H Z : Nat) (ls : List (List Bx)) (c : Option Nat) (hv : VS ⟨H, Z, ls⟩ H Z) (a z h : Nat) (ha : a < ls.length) (hh : h < H) : Pure Try.prog 94 [.agg [i64 (H : Nat), i64 (Z : Nat), landsA ls c], i64 (a : Nat), i64 (h : Nat), i64 (z : Nat)] (.bool (inL' ls[a] H z h)) := by
  have hv' := hv
  obtain ⟨_, _, hH, hZ1, hln, hlb, hbx⟩ := hv'
  simp only at hln hlb hbx
  have hZ := hZ1.2
  have hHZ : Z * H ≤ 1152 := Nat.mul_le_mul hZ hH.2
  have hHZc : H * Z = Z * H := Nat.mul_comm _ _
  have hlba := hlb _ (List.getElem_mem ha)
  refine pure_of_body Try.func94 (c := body Try.f94) J (by simp [Try.ntmps94]) fun w0 Φ0 => ?_
  refine Wsr J J ?_
  refine Rv J J J (U_boxF J J J) J J ?_
  refine Rv J J J (U_assign J) J J ?_
  refine Rt J ?_
  refine Wsr J J ?_
  refine Rv J J J (U_fieldAddrR J) J J ?_
  refine Rv J J J (U_load1 J J J) J J ?_
  refine Rv J J J (U_move J) J J ?_
  have hx1 : a < ls.length := by omega
  refine Rv J J J (U_indexR (j := a) J J J hx1) J J ?_
  refine Rv J J J (U_load1 J J (getM hx1)) J J ?_
  refine Rv J J J (U_assign J) J J ?_
  refine Rt J ?_
  refine W_seq J ?_
  refine Wsr J J ?_
  refine Rv J J J (U_assign J) J J ?_
  refine Rt J ?_
  refine W_block J ?_
  refine LoopTo (T' := [(2, i64 ((h : Nat) : Int)), (3, i64 ((z : Nat) : Int)), (4, .rop [i64 ((H : Nat) : Int), i64 ((Z : Nat) : Int), .ros (ls.map boxesL) ls.length c] 0), (9, .ros (ls[a].flatMap bxC) ls[a].length none), (10, i64 ((0 : Nat) : Int))]) (H' := []) (n := 0) J (fun mz_ qz_ => ∃ (k : Nat), k ≤ ls[a].length ∧ ((∀ j (hj : j < ls[a].length), j < k → inN ls[a][j] H z h = false)) ∧ mz_ = ls[a].length - k ∧ qz_ = ⟨[(2, i64 ((h : Nat) : Int)), (3, i64 ((z : Nat) : Int)), (4, .rop [i64 ((H : Nat) : Int), i64 ((Z : Nat) : Int), .ros (ls.map boxesL) ls.length c] 0), (9, .ros (ls[a].flatMap bxC) ls[a].length none), (10, i64 ((k : Nat) : Int))], [], 0, []⟩) ⟨0, (by omega), (fun j hj h => absurd h (Nat.not_lt_zero _)), J, J⟩ id ⟨eD J J, eD J J, eD J J, eD J J, eD J J, trivial⟩ trivial J J J J (fun _ _ => J) ?_
  rintro _ _ ⟨k, hi0_0, hi0_1, rfl, rfl⟩
  refine W_seq J ?_
  refine Wsr J J ?_
  refine Rv J J J (U_move J) J J ?_
  refine Rv J J J (U_move J) J J ?_
  refine Rv J J J (U_lenOf J len_ros) J J ?_
  refine Rv J J J (U_lss J J) J J ?_
  refine Rt J ?_
  refine WcondP J J (fun hc0 => ?_) (fun hc0 => ?_)
  · have hck : k < ls[a].length := by omega
    have hbb := hbx _ (List.getElem_mem ha) _ (List.getElem_mem hck)
    refine W_skip J ?_
    refine thenQ_n ?_
    refine W_seq J ?_
    refine W_block J ?_
    refine W_seq J ?_
    refine Wdraw J (by kernel_rfl) (by kernel_rfl) ?_
    refine Dv J J J (U_move J) J J ?_
    refine Dv J J J (U_move J) J J ?_
    have hx2 : k < ls[a].length := by omega
    refine Dv J J J (U_indexR (j := k) J J J hx2) J J ?_
    refine Dv J J J (U_load4 J J (bxG0 hx2) (bxG1 hx2) (bxG2 hx2) (bxG3 hx2)) J J ?_
    refine Dv J J J (U_fieldAddrR J) J J ?_
    refine Dv J J J (U_load1 J J J) J J ?_
    refine Dv J J J (U_move J) J J ?_
    refine Dv J J J (U_move J) J J ?_
    refine Dv J J J (U_call J J (inBoxR_p (ls[a][k]) H z h (by omega) hbb.1 (by omega)) J) J J ?_
    refine Dr.nil J ?_
    refine thenQ_n ?_
    refine Wcond J J (fun hc1 => ?_) (fun hc1 => ?_)
    · refine Wsr J J ?_
      refine Rv J J J (U_assign J) J J ?_
      refine Rt J ?_
      refine W_ret J ?_
      refine blkQ_r ?_
      refine thenQ_r ?_
      refine thenQ_r ?_
      refine blkQ_r ?_
      refine thenQ_r ?_
      exact retL (rlT J rl0) (by first | rfl | (simp only [packA]; rw [inL', show ls[a].any (fun b => inN b H z h) = true from any_true hck hc1]; simp [hh]; first | done | rfl) | (simp only [packA]; rw [inL', any_false fun j hj => hi0_1 j hj (by omega)]; simp; first | done | rfl)) J
    · have hc1' := Bool.eq_false_iff.1 hc1
      refine W_skip J ?_
      refine blkQ_n ?_
      refine thenQ_n ?_
      refine W_reg J ?_
      refine Rv J J J (U_move J) J J ?_
      refine Rv J J J (U_add J J (w64e (m := ((k + 1 : Nat) : Int)) (by omega) (by omega) (by omega))) J J ?_
      refine Rv J J J (U_assign J) J J ?_
      refine Rt J ?_
      exact againTo (T' := [(2, i64 ((h : Nat) : Int)), (3, i64 ((z : Nat) : Int)), (4, .rop [i64 ((H : Nat) : Int), i64 ((Z : Nat) : Int), .ros (ls.map boxesL) ls.length c] 0), (9, .ros (ls[a].flatMap bxC) ls[a].length none), (10, i64 (((k + 1) : Nat) : Int))]) (H' := []) (n := 0) (ls[a].length - (k + 1)) ⟨k + 1, (by omega), (by intro j hj h; rcases Nat.lt_succ_iff_lt_or_eq.1 h with h | rfl; exact hi0_1 j hj h; simpa using hc1), J, J⟩ (by omega) id ⟨eD J J, eD J J, eD J J, eD J J, eD J J, trivial⟩ trivial J J J J (fun _ _ => J)
  · refine W_exit J ?_
    refine thenQ_x ?_
    refine thenQ_x ?_
    refine blkQ_x J ?_
    refine thenQ_n ?_
    refine Wsr J J ?_
    refine Rv J J J (U_assign J) J J ?_
    refine Rt J ?_
    refine W_ret J ?_
    exact retL (rlT J rl0) (by first | rfl | (simp only [packA]; rw [inL', show ls[a].any (fun b => inN b H z h) = true from any_true hck hc1]; simp [hh]; first | done | rfl) | (simp only [packA]; rw [inL', any_false fun j hj => hi0_1 j hj (by omega)]; simp; first | done | rfl)) J
abbrev fldA (l : List Nat) (n : Nat) : AV := .ros (l.map n64) n (some n)
def fldK (Z H : Nat) (l : List Bx) (m : Nat) : List Nat := (List.range (Z * H)).map fun i => if i < m then bitQ l H (i / H) (i % H) else 0
theorem fldK_len {Z H m : Nat} {l : List Bx} : (fldK Z H l m).length = Z * H := by simp [fldK]
theorem fldK_0 {Z H : Nat} {l : List Bx} : fldK Z H l 0 = List.replicate (H * Z) 0 := by
  apply List.ext_getElem (by simp [fldK, Nat.mul_comm])
  intro i h1 h2
  simp [fldK]
theorem fldK_all {Z H m : Nat} {l : List Bx} (h : Z * H ≤ m) : fldK Z H l m = fldQ Z H l := by
  refine List.map_congr_left fun i hi => ?_
  rw [if_pos (by have := List.mem_range.1 hi; omega)]
theorem zh_lt {Z H z h : Nat} (hz : z < Z) (hh : h < H) : z * H + h < Z * H := by
  have := Nat.mul_le_mul_right H (show z + 1 ≤ Z by omega)
  rw [Nat.add_mul] at this; omega
theorem fldK_t {Z H z h : Nat} {l : List Bx} (hz : z < Z) (hh : h < H) (e : inL' l H z h = true) : (fldK Z H l (z * H + h)).set (z * H + h) 1 = fldK Z H l (z * H + (h + 1)) := by
  apply List.ext_getElem (by simp [fldK])
  intro i h1 h2
  rw [List.getElem_set]
  have hd := zh_div (z := z) hh
  simp only [fldK, List.getElem_map, List.getElem_range]
  by_cases hi : z * H + h = i
  · subst hi; rw [if_pos rfl, if_pos (by omega), hd.1, hd.2, bitQ, if_pos e]
  · rw [if_neg hi]
    by_cases h3 : i < z * H + h
    · rw [if_pos h3, if_pos (by omega)]
    · rw [if_neg h3, if_neg (by omega)]
theorem fldK_f {Z H z h : Nat} {l : List Bx} (hz : z < Z) (hh : h < H) (e : ¬ inL' l H z h = true) : fldK Z H l (z * H + h) = fldK Z H l (z * H + (h + 1)) := by
  refine List.map_congr_left fun i hi => ?_
  have hd := zh_div (z := z) hh
  by_cases hi : z * H + h = i
  · subst hi; rw [if_neg (by omega), if_pos (by omega), hd.1, hd.2, bitQ, if_neg e]
  · by_cases h3 : i < z * H + h
    · rw [if_pos h3, if_pos (by omega)]
    · rw [if_neg h3, if_neg (by omega)]
theorem field_p (H Z : Nat) (ls : List (List Bx)) (c : Option Nat) (hv : VS ⟨H, Z, ls⟩ H Z) (a : Nat) (ha : a < ls.length) : Pure Try.prog 53 [.agg [i64 (H : Nat), i64 (Z : Nat), landsA ls c], i64 (a : Nat)] (fldA (fldQ Z H ls[a]) (H * Z)) := by
  have hv' := hv
  obtain ⟨_, _, hH, hZ1, hln, hlb, hbx⟩ := hv'
  simp only at hln hlb hbx
  have hZ := hZ1.2
  have hHZ : Z * H ≤ 1152 := Nat.mul_le_mul hZ hH.2
  have hHZc : H * Z = Z * H := Nat.mul_comm _ _
  refine pure_of_body Try.func53 (c := body Try.f53) J (by simp [Try.ntmps53]) fun w0 Φ0 => ?_
  refine Wsr J J ?_
  refine Rv J J J (U_boxF J J J) J J ?_
  refine Rv J J J (U_assign J) J J ?_
  refine Rt J ?_
  refine Wsr J J ?_
  refine Rv J J J (U_fieldAddrR J) J J ?_
  refine Rv J J J (U_load1 J J J) J J ?_
  refine Rv J J J (U_fieldAddrR J) J J ?_
  refine Rv J J J (U_load1 J J J) J J ?_
  refine Rv J J J (U_mul J J (w64e (m := ((H * Z : Nat) : Int)) (by omega) (by omega) (by omega))) J J ?_
  refine Ra J J J (U_mkL (n := H * Z) (cs' := (List.replicate (H * Z) (0 : Nat)).map n64) J J J (by omega) (replM J _)) J J J ?_
  refine Rv J J J (U_assign J) J J ?_
  refine Rt J ?_
  refine W_seq J ?_
  refine Wsr J J ?_
  refine Rv J J J (U_assign J) J J ?_
  refine Rt J ?_
  refine W_block J ?_
  refine LoopTo (T' := [(1, i64 ((a : Nat) : Int)), (2, .rop [i64 ((H : Nat) : Int), i64 ((Z : Nat) : Int), .ros (ls.map boxesL) ls.length c] 0), (5, .slice 0 0 (H * Z) (H * Z)), (6, i64 ((0 : Nat) : Int))]) (H' := [(0, some (.cells ((List.replicate (H * Z) 0).map n64) 3))]) (n := 1) J (fun mz_ qz_ => ∃ (z : Nat) (f : List Nat), z ≤ Z ∧ f = fldK Z H ls[a] (z * H) ∧ mz_ = Z - z ∧ qz_ = ⟨[(1, i64 ((a : Nat) : Int)), (2, .rop [i64 ((H : Nat) : Int), i64 ((Z : Nat) : Int), .ros (ls.map boxesL) ls.length c] 0), (5, .slice 0 0 (H * Z) (H * Z)), (6, i64 ((z : Nat) : Int))], [(0, some (.cells (f.map n64) 3))], 1, []⟩) ⟨0, List.replicate (H * Z) 0, (by omega), (by rw [Nat.zero_mul, fldK_0]), J, J⟩ id ⟨eD J J, eD J J, e_ J J, eD J J, trivial⟩ ⟨rD (mapD (fun _ => J) _) J J, trivial⟩ J J J J (fun _ _ => J) ?_
  rintro _ _ ⟨z, f, hi0_0, hi0_1, rfl, rfl⟩
  refine W_seq J ?_
  refine Wsr J J ?_
  refine Rv J J J (U_move J) J J ?_
  refine Rv J J J (U_fieldAddrR J) J J ?_
  refine Rv J J J (U_load1 J J J) J J ?_
  refine Rv J J J (U_lss J J) J J ?_
  refine Rt J ?_
  refine WcondP J J (fun hc0 => ?_) (fun hc0 => ?_)
  · have hcz : z < Z := by omega
    refine W_skip J ?_
    refine thenQ_n ?_
    refine W_seq J ?_
    refine W_block J ?_
    refine Wsr J J ?_
    refine Rv J J J (U_assign J) J J ?_
    refine Rt J ?_
    refine W_block J ?_
    refine LoopTo (T' := [(1, i64 ((a : Nat) : Int)), (2, .rop [i64 ((H : Nat) : Int), i64 ((Z : Nat) : Int), .ros (ls.map boxesL) ls.length c] 0), (5, .slice 0 0 (H * Z) (H * Z)), (6, i64 ((z : Nat) : Int)), (7, i64 ((0 : Nat) : Int))]) (H' := [(0, some (.cells (f.map n64) 3))]) (n := 1) J (fun mz_ qz_ => ∃ (h : Nat) (f2 : List Nat), h ≤ H ∧ f2 = fldK Z H ls[a] (z * H + h) ∧ mz_ = H - h ∧ qz_ = ⟨[(1, i64 ((a : Nat) : Int)), (2, .rop [i64 ((H : Nat) : Int), i64 ((Z : Nat) : Int), .ros (ls.map boxesL) ls.length c] 0), (5, .slice 0 0 (H * Z) (H * Z)), (6, i64 ((z : Nat) : Int)), (7, i64 ((h : Nat) : Int))], [(0, some (.cells (f2.map n64) 3))], 1, []⟩) ⟨0, f, (by omega), (by rw [hi0_1]; rfl), J, J⟩ id ⟨eD J J, eD J J, e_ J J, eD J J, eD J J, trivial⟩ ⟨rD (mapD (fun _ => J) _) J J, trivial⟩ J J J J (fun _ _ => J) ?_
    rintro _ _ ⟨h, f2, hi1_0, hi1_1, rfl, rfl⟩
    have hfl : f2.length = Z * H := by rw [hi1_1, fldK_len]
    refine W_seq J ?_
    refine Wsr J J ?_
    refine Rv J J J (U_move J) J J ?_
    refine Rv J J J (U_fieldAddrR J) J J ?_
    refine Rv J J J (U_load1 J J J) J J ?_
    refine Rv J J J (U_lss J J) J J ?_
    refine Rt J ?_
    refine WcondP J J (fun hc1 => ?_) (fun hc1 => ?_)
    · have hch : h < H := by omega
      have hzh := zh_lt hcz hch
      refine W_skip J ?_
      refine thenQ_n ?_
      refine W_seq J ?_
      refine W_block J ?_
      refine Wsr J J ?_
      refine Rv J J J (U_load3 J J J J J) J J ?_
      refine Rv J J J (U_move J) J J ?_
      refine Rv J J J (U_move J) J J ?_
      refine Rv J J J (U_move J) J J ?_
      refine Rv J J J (U_call J J (inR_p H Z ls c hv a z h (by omega) (by omega)) J) J J ?_
      refine Rt J ?_
      refine Wcond J J (fun hc2 => ?_) (fun hc2 => ?_)
      · refine W_reg J ?_
        refine Rv J J J (U_move J) J J ?_
        refine Rv J J J (U_move J) J J ?_
        refine Rv J J J (U_fieldAddrR J) J J ?_
        refine Rv J J J (U_load1 J J J) J J ?_
        refine Rv J J J (U_mul J J (w64e (m := ((z * H : Nat) : Int)) (by omega) (by omega) (by omega))) J J ?_
        refine Rv J J J (U_move J) J J ?_
        refine Rv J J J (U_add J J (w64e (m := ((z * H + h : Nat) : Int)) (by omega) (by omega) (by omega))) J J ?_
        have hx1 : (z * H + h) < f2.length := by omega
        refine Rv J J J (U_indexS (j := (z * H + h)) J J J (by omega)) J J ?_
        refine Rn J J J (U_store (n := 1) (cs' := (f2.set (z * H + h) 1).map n64) J J J J J (stLt hx1) J setM) J ?_
        refine Re J ?_
        refine blkQ_n ?_
        refine thenQ_n ?_
        refine W_reg J ?_
        refine Rv J J J (U_move J) J J ?_
        refine Rv J J J (U_add J J (w64e (m := ((h + 1 : Nat) : Int)) (by omega) (by omega) (by omega))) J J ?_
        refine Rv J J J (U_assign J) J J ?_
        refine Rt J ?_
        exact againTo (T' := [(1, i64 ((a : Nat) : Int)), (2, .rop [i64 ((H : Nat) : Int), i64 ((Z : Nat) : Int), .ros (ls.map boxesL) ls.length c] 0), (5, .slice 0 0 (H * Z) (H * Z)), (6, i64 ((z : Nat) : Int)), (7, i64 (((h + 1) : Nat) : Int))]) (H' := [(0, some (.cells ((f2.set (z * H + h) 1).map n64) 3))]) (n := 1) (H - (h + 1)) ⟨h + 1, f2.set (z * H + h) 1, (by omega), (by first | (rw [hi1_1]; exact fldK_t (by omega) (by omega) hc2) | (rw [hi1_1]; exact fldK_f (by omega) (by omega) (by simpa using hc2))), J, J⟩ (by omega) id ⟨eD J J, eD J J, e_ J J, eD J J, eD J J, trivial⟩ ⟨rD (mapD (fun _ => J) _) J J, trivial⟩ J J J J (fun _ _ => J)
      · have hc2' := Bool.eq_false_iff.1 hc2
        refine W_skip J ?_
        refine blkQ_n ?_
        refine thenQ_n ?_
        refine W_reg J ?_
        refine Rv J J J (U_move J) J J ?_
        refine Rv J J J (U_add J J (w64e (m := ((h + 1 : Nat) : Int)) (by omega) (by omega) (by omega))) J J ?_
        refine Rv J J J (U_assign J) J J ?_
        refine Rt J ?_
        exact againTo (T' := [(1, i64 ((a : Nat) : Int)), (2, .rop [i64 ((H : Nat) : Int), i64 ((Z : Nat) : Int), .ros (ls.map boxesL) ls.length c] 0), (5, .slice 0 0 (H * Z) (H * Z)), (6, i64 ((z : Nat) : Int)), (7, i64 (((h + 1) : Nat) : Int))]) (H' := [(0, some (.cells (f2.map n64) 3))]) (n := 1) (H - (h + 1)) ⟨h + 1, f2, (by omega), (by first | (rw [hi1_1]; exact fldK_t (by omega) (by omega) hc2) | (rw [hi1_1]; exact fldK_f (by omega) (by omega) (by simpa using hc2))), J, J⟩ (by omega) id ⟨eD J J, eD J J, e_ J J, eD J J, eD J J, trivial⟩ ⟨rD (mapD (fun _ => J) _) J J, trivial⟩ J J J J (fun _ _ => J)
    · refine W_exit J ?_
      refine thenQ_x ?_
      refine thenQ_x ?_
      refine blkQ_x J ?_
      refine blkQ_n ?_
      refine thenQ_n ?_
      refine W_reg J ?_
      refine Rv J J J (U_move J) J J ?_
      refine Rv J J J (U_add J J (w64e (m := ((z + 1 : Nat) : Int)) (by omega) (by omega) (by omega))) J J ?_
      refine Rv J J J (U_assign J) J J ?_
      refine Rt J ?_
      exact againTo (T' := [(1, i64 ((a : Nat) : Int)), (2, .rop [i64 ((H : Nat) : Int), i64 ((Z : Nat) : Int), .ros (ls.map boxesL) ls.length c] 0), (5, .slice 0 0 (H * Z) (H * Z)), (6, i64 (((z + 1) : Nat) : Int))]) (H' := [(0, some (.cells (f2.map n64) 3))]) (n := 1) (Z - (z + 1)) ⟨z + 1, f2, (by omega), (by rw [hi1_1, show h = H by omega, Nat.succ_mul]), J, J⟩ (by omega) id ⟨eD J J, eD J J, e_ J J, eD J J, trivial⟩ ⟨rD (mapD (fun _ => J) _) J J, trivial⟩ J J J J (fun _ _ => J)
  · refine W_exit J ?_
    refine thenQ_x ?_
    refine thenQ_x ?_
    refine blkQ_x J ?_
    refine thenQ_n ?_
    refine Wsr J J ?_
    refine Rv J J J (U_move J) J J ?_
    refine Rv J J J (U_assign J) J J ?_
    refine Rt J ?_
    refine WfrN 0 J (mapD (fun _ => J) _) (T' := [(4, .ros (f.map n64) (H * Z) (some (H * Z)))]) (H' := []) ⟨⟨_, J, fr_sl (Nat.le_refl _)⟩, trivial⟩ trivial ?_
    refine W_ret J ?_
    exact retL (rlT J rl0) (by first | rfl | (simp only [packA]; rw [hi0_1, fldK_all (by rw [show z = Z by omega]; exact Nat.le_refl _)]; first | done | rfl)) J
end Go.Proofs.Ythlolelbmhfdbaa
end

section
namespace Go.Proofs.Ythlolelbmhfdbaa
set_option maxRecDepth 20000
open Go.AE
def bsN (Z H i : Nat) : List Nat := (bsP Z H (i / H) (i % H)).map fun p => p.1 * H + p.2
theorem bsN_eq {Z H i : Nat} : bsN Z H i = (if 1 < H then [i / H * H + (i % H + 1) % H] else []) ++ (if 2 < H then [i / H * H + (i % H + H - 1) % H] else []) ++ (if 0 < i / H then [i - H] else []) ++ (if i / H + 1 < Z then [i + H] else []) := by
  have hd := Nat.div_add_mod i H
  rw [Nat.mul_comm] at hd
  have e1 : 0 < i / H → (i / H - 1) * H + i % H = i - H := fun h => by
    obtain ⟨m, hm⟩ : ∃ m, i / H = m + 1 := ⟨i / H - 1, by omega⟩
    rw [hm] at hd ⊢
    rw [Nat.succ_mul] at hd
    rw [Nat.add_sub_cancel]; omega
  have e2 : (i / H + 1) * H + i % H = i + H := by rw [Nat.succ_mul]; omega
  unfold bsN bsP
  simp only [List.map_append]
  congr 1
  · congr 1
    · congr 1 <;> (split <;> simp)
    · split
      · rename_i h; simp [e1 h]
      · simp
  · split
    · simp [e2]
    · simp
theorem bsN_lt {Z H i : Nat} (hi : i < Z * H) : ∀ j ∈ bsN Z H i, j < Z * H := by
  intro j hj
  obtain ⟨p, hp, rfl⟩ := List.mem_map.1 hj
  have hH : 0 < H := by rcases Nat.eq_zero_or_pos H with e | e; subst e; omega; exact e
  have := bsP_in (Nat.div_lt_of_lt_mul (by rw [Nat.mul_comm]; exact hi)) (Nat.mod_lt i hH) p hp
  exact zh_lt this.1 this.2
theorem bsN_len {Z H i : Nat} : (bsN Z H i).length ≤ 4 := by rw [bsN, List.length_map]; exact bsP_len
theorem besideR_p (H Z : Nat) (ls : List (List Bx)) (c : Option Nat) (hv : VS ⟨H, Z, ls⟩ H Z) (i : Nat) (hi : i < Z * H) : Pure Try.prog 79 [.agg [i64 (H : Nat), i64 (Z : Nat), landsA ls c], i64 (i : Nat)] (natsA (bsN Z H i) none) := by
  have hv' := hv
  obtain ⟨_, _, hH, hZ1, hln, hlb, hbx⟩ := hv'
  simp only at hln hlb hbx
  have hZ := hZ1.2
  have hHZ : Z * H ≤ 1152 := Nat.mul_le_mul hZ hH.2
  have hHZc : H * Z = Z * H := Nat.mul_comm _ _
  have hdm := Nat.div_add_mod i H
  have hdv : i / H < Z := Nat.div_lt_of_lt_mul (by rw [Nat.mul_comm]; exact hi)
  have hmd : i % H < H := Nat.mod_lt _ (by omega)
  rw [Nat.mul_comm] at hdm
  obtain ⟨z, hzq⟩ : ∃ z, i / H = z := ⟨_, rfl⟩
  obtain ⟨h, hhq⟩ : ∃ h, i % H = h := ⟨_, rfl⟩
  rw [hzq, hhq] at hdm
  rw [hzq] at hdv
  rw [hhq] at hmd
  have hm1 : (h + 1) % H < H := Nat.mod_lt _ (by omega)
  have hm2 : (h + H - 1) % H < H := Nat.mod_lt _ (by omega)
  have hz1 : 0 < z → H ≤ z * H := fun h0 => Nat.le_mul_of_pos_left H h0
  have hzc : H * z = z * H := Nat.mul_comm _ _
  refine pure_of_body Try.func79 (c := body Try.f79) J (by simp [Try.ntmps79]) fun w0 Φ0 => ?_
  refine Wsr J J ?_
  refine Rv J J J (U_boxF J J J) J J ?_
  refine Rv J J J (U_assign J) J J ?_
  refine Rt J ?_
  refine W_seq J ?_
  refine Wdraw J (by kernel_rfl) (by kernel_rfl) ?_
  refine Dv J J J (U_move J) J J ?_
  refine Dv J J J (U_fieldAddrR J) J J ?_
  refine Dv J J J (U_load1 J J J) J J ?_
  refine Dv J J J (U_rem (c := ((h : Nat) : Int)) J J (by omega) (by rw [← hhq]; exact tmodN _ _)) J J ?_
  refine Dv J J J (U_move J) J J ?_
  refine Dv J J J (U_fieldAddrR J) J J ?_
  refine Dv J J J (U_load1 J J J) J J ?_
  refine Dv J J J (U_quo (c := ((z : Nat) : Int)) J J (by omega) (by rw [← hzq]; exact wquoN (by omega))) J J ?_
  refine Dv J J J (U_assign J) J J ?_
  refine Dv J J J (U_assign J) J J ?_
  refine Dr.nil J ?_
  refine thenQ_n ?_
  refine Wsr J J ?_
  refine Rv J J J (U_assign J) J J ?_
  refine Rt J ?_
  refine W_seq J ?_
  refine Wsr J J ?_
  refine Rv J J J (U_fieldAddrR J) J J ?_
  refine Rv J J J (U_load1 J J J) J J ?_
  refine Rv J J J (U_gtr J J) J J ?_
  refine Rt J ?_
  refine WcondP J J (fun hc0 => ?_) (fun hc0 => ?_)
  · refine Wdraw J (by kernel_rfl) (by kernel_rfl) ?_
    refine Dv J J J (U_move J) J J ?_
    refine Dv J J J (U_move J) J J ?_
    refine Dv J J J (U_fieldAddrR J) J J ?_
    refine Dv J J J (U_load1 J J J) J J ?_
    refine Dv J J J (U_mul J J (w64e (m := ((z * H : Nat) : Int)) (by omega) (by omega) (by omega))) J J ?_
    refine Dv J J J (U_move J) J J ?_
    refine Dv J J J (U_add J J (w64e (m := ((h + 1 : Nat) : Int)) (by omega) (by omega) (by omega))) J J ?_
    refine Dv J J J (U_fieldAddrR J) J J ?_
    refine Dv J J J (U_load1 J J J) J J ?_
    refine Dv J J J (U_rem (c := (((h + 1) % H : Nat) : Int)) J J (by omega) (tmodN _ _)) J J ?_
    refine Dv J J J (U_add J J (w64e (m := ((z * H + (h + 1) % H : Nat) : Int)) (by omega) (by omega) (by omega))) J J ?_
    refine Dv J J J (U_buildSliceF (by rfl) (by decide) J J J) J J ?_
    refine Da J J J (U_appN (m := 0) (cs' := [z * H + (h + 1) % H].map n64) (n' := [z * H + (h + 1) % H].length) J J J (by omega) J J) J J J J ?_
    refine Dv J J J (U_assign J) J J ?_
    refine Dr.nil J ?_
    refine thenQ_n ?_
    refine W_seq J ?_
    refine Wsr J J ?_
    refine Rv J J J (U_fieldAddrR J) J J ?_
    refine Rv J J J (U_load1 J J J) J J ?_
    refine Rv J J J (U_gtr J J) J J ?_
    refine Rt J ?_
    refine WcondP J J (fun hc1 => ?_) (fun hc1 => ?_)
    · refine Wjoin ⟨[(1, i64 ((i : Nat) : Int)), (2, .rop [i64 ((H : Nat) : Int), i64 ((Z : Nat) : Int), .ros (ls.map boxesL) ls.length c] 0), (6, i64 ((z : Nat) : Int)), (7, .out 1 (([z * H + (h + 1) % H] ++ [z * H + (h + H - 1) % H]).length) 1)], [(1, outB (([z * H + (h + 1) % H] ++ [z * H + (h + H - 1) % H]).map n64) 3 (([z * H + (h + 1) % H] ++ [z * H + (h + H - 1) % H]).length))], 2, []⟩ ?_ ?_
      · rcases Nat.eq_zero_or_pos [z * H + (h + 1) % H].length with hz1 | hz1
        · refine Wdraw J (by kernel_rfl) (by kernel_rfl) ?_
          refine Dv J J J (U_move J) J J ?_
          refine Dv J J J (U_move J) J J ?_
          refine Dv J J J (U_fieldAddrR J) J J ?_
          refine Dv J J J (U_load1 J J J) J J ?_
          refine Dv J J J (U_mul J J (w64e (m := ((z * H : Nat) : Int)) (by omega) (by omega) (by omega))) J J ?_
          refine Dv J J J (U_move J) J J ?_
          refine Dv J J J (U_fieldAddrR J) J J ?_
          refine Dv J J J (U_load1 J J J) J J ?_
          refine Dv J J J (U_add J J (w64e (m := ((h + H : Nat) : Int)) (by omega) (by omega) (by omega))) J J ?_
          refine Dv J J J (U_sub J J (w64e (m := ((h + H - 1 : Nat) : Int)) (by omega) (by omega) (by omega))) J J ?_
          refine Dv J J J (U_fieldAddrR J) J J ?_
          refine Dv J J J (U_load1 J J J) J J ?_
          refine Dv J J J (U_rem (c := (((h + H - 1) % H : Nat) : Int)) J J (by omega) (tmodN _ _)) J J ?_
          refine Dv J J J (U_add J J (w64e (m := ((z * H + (h + H - 1) % H : Nat) : Int)) (by omega) (by omega) (by omega))) J J ?_
          refine Dv J J J (U_buildSliceF (by rfl) (by decide) J J J) J J ?_
          refine Da J J J (U_appO0 (b := 0) (cs := ([z * H + (h + 1) % H].map n64)) (m := 0) (cs' := ([z * H + (h + 1) % H] ++ [z * H + (h + H - 1) % H]).map n64) (n' := ([z * H + (h + 1) % H] ++ [z * H + (h + H - 1) % H]).length) J hz1 J (by simp) (map_len1 _) J (by simp) (appM _ _) (len1 _ _)) J J J J ?_
          refine Dv J J J (U_assign J) J J ?_
          refine Dr.nil J ?_
          exact joinTo id ⟨eD J J, eD J J, eD J J, e_ J J, trivial⟩ ⟨rO (mapD (fun _ => J) _) J J, trivial⟩ J J J J (fun _ _ => J)
        · refine Wdraw J (by kernel_rfl) (by kernel_rfl) ?_
          refine Dv J J J (U_move J) J J ?_
          refine Dv J J J (U_move J) J J ?_
          refine Dv J J J (U_fieldAddrR J) J J ?_
          refine Dv J J J (U_load1 J J J) J J ?_
          refine Dv J J J (U_mul J J (w64e (m := ((z * H : Nat) : Int)) (by omega) (by omega) (by omega))) J J ?_
          refine Dv J J J (U_move J) J J ?_
          refine Dv J J J (U_fieldAddrR J) J J ?_
          refine Dv J J J (U_load1 J J J) J J ?_
          refine Dv J J J (U_add J J (w64e (m := ((h + H : Nat) : Int)) (by omega) (by omega) (by omega))) J J ?_
          refine Dv J J J (U_sub J J (w64e (m := ((h + H - 1 : Nat) : Int)) (by omega) (by omega) (by omega))) J J ?_
          refine Dv J J J (U_fieldAddrR J) J J ?_
          refine Dv J J J (U_load1 J J J) J J ?_
          refine Dv J J J (U_rem (c := (((h + H - 1) % H : Nat) : Int)) J J (by omega) (tmodN _ _)) J J ?_
          refine Dv J J J (U_add J J (w64e (m := ((z * H + (h + H - 1) % H : Nat) : Int)) (by omega) (by omega) (by omega))) J J ?_
          refine Dv J J J (U_buildSliceF (by rfl) (by decide) J J J) J J ?_
          refine Da J J J (U_appO (b := 0) (m := 0) (cs' := ([z * H + (h + 1) % H] ++ [z * H + (h + H - 1) % H]).map n64) (n' := ([z * H + (h + 1) % H] ++ [z * H + (h + H - 1) % H]).length) J J (by simp) J (map_len1 _) J J (by simp) (appM _ _) (len1 _ _)) J J J (upsO J hz1) ?_
          refine Dv J J J (U_assign J) J J ?_
          refine Dr.nil J ?_
          exact joinTo id ⟨eD J J, eD J J, eD J J, e_ J J, trivial⟩ ⟨rO (mapD (fun _ => J) _) J J, trivial⟩ J J J J (fun _ _ => J)
      refine thenQ_n ?_
      refine W_seq J ?_
      refine Wsr J J ?_
      refine Rv J J J (U_move J) J J ?_
      refine Rv J J J (U_gtr J J) J J ?_
      refine Rt J ?_
      refine WcondP J J (fun hc2 => ?_) (fun hc2 => ?_)
      · refine W_reg J ?_
        refine Rv J J J (U_move J) J J ?_
        refine Rv J J J (U_move J) J J ?_
        refine Rv J J J (U_fieldAddrR J) J J ?_
        refine Rv J J J (U_load1 J J J) J J ?_
        refine Rv J J J (U_sub J J (w64e (m := ((i - H : Nat) : Int)) (by omega) (by omega) (by omega))) J J ?_
        refine Rv J J J (U_buildSliceF (by rfl) (by decide) J J J) J J ?_
        refine Ra J J J (U_appO (b := 1) (m := 0) (cs' := (([z * H + (h + 1) % H] ++ [z * H + (h + H - 1) % H]) ++ [i - H]).map n64) (n' := (([z * H + (h + 1) % H] ++ [z * H + (h + H - 1) % H]) ++ [i - H]).length) J J (by simp) J (map_len1 _) J J (by simp) (appM _ _) (len1 _ _)) J J J ?_
        refine Rv J J J (U_assign J) J J ?_
        refine Rt J ?_
        refine W_seq J ?_
        refine Wsr J J ?_
        refine Rv J J J (U_move J) J J ?_
        refine Rv J J J (U_add J J (w64e (m := ((z + 1 : Nat) : Int)) (by omega) (by omega) (by omega))) J J ?_
        refine Rv J J J (U_fieldAddrR J) J J ?_
        refine Rv J J J (U_load1 J J J) J J ?_
        refine Rv J J J (U_lss J J) J J ?_
        refine Rt J ?_
        refine WcondP J J (fun hc3 => ?_) (fun hc3 => ?_)
        · refine W_reg J ?_
          refine Rv J J J (U_move J) J J ?_
          refine Rv J J J (U_move J) J J ?_
          refine Rv J J J (U_fieldAddrR J) J J ?_
          refine Rv J J J (U_load1 J J J) J J ?_
          refine Rv J J J (U_add J J (w64e (m := ((i + H : Nat) : Int)) (by omega) (by omega) (by omega))) J J ?_
          refine Rv J J J (U_buildSliceF (by rfl) (by decide) J J J) J J ?_
          refine Ra J J J (U_appO (b := 2) (m := 0) (cs' := ((([z * H + (h + 1) % H] ++ [z * H + (h + H - 1) % H]) ++ [i - H]) ++ [i + H]).map n64) (n' := ((([z * H + (h + 1) % H] ++ [z * H + (h + H - 1) % H]) ++ [i - H]) ++ [i + H]).length) J J (by simp) J (map_len1 _) J J (by simp) (appM _ _) (len1 _ _)) J J J ?_
          refine Rv J J J (U_assign J) J J ?_
          refine Rt J ?_
          refine Wsr J J ?_
          refine Rv J J J (U_move J) J J ?_
          refine Rv J J J (U_assign J) J J ?_
          refine Rt J ?_
          refine WfrO 3 (((([z * H + (h + 1) % H] ++ [z * H + (h + H - 1) % H]) ++ [i - H]) ++ [i + H]).map n64) J (mapD (fun _ => J) _) (T' := [(4, .ros (((([z * H + (h + 1) % H] ++ [z * H + (h + H - 1) % H]) ++ [i - H]) ++ [i + H]).map n64) (((([z * H + (h + 1) % H] ++ [z * H + (h + H - 1) % H]) ++ [i - H]) ++ [i + H]).length) none)]) (H' := []) ⟨fO J, trivial⟩ trivial ?_
          refine W_ret J ?_
          exact retL (rlT J rl0) (by first | rfl | (simp only [packA]; rw [bsN_eq, hzq, hhq]; (repeat' split) <;> first | rfl | omega; first | done | rfl)) J
        · refine W_skip J ?_
          refine thenQ_n ?_
          refine Wsr J J ?_
          refine Rv J J J (U_move J) J J ?_
          refine Rv J J J (U_assign J) J J ?_
          refine Rt J ?_
          refine WfrO 2 ((([z * H + (h + 1) % H] ++ [z * H + (h + H - 1) % H]) ++ [i - H]).map n64) J (mapD (fun _ => J) _) (T' := [(4, .ros ((([z * H + (h + 1) % H] ++ [z * H + (h + H - 1) % H]) ++ [i - H]).map n64) ((([z * H + (h + 1) % H] ++ [z * H + (h + H - 1) % H]) ++ [i - H]).length) none)]) (H' := []) ⟨fO J, trivial⟩ trivial ?_
          refine W_ret J ?_
          exact retL (rlT J rl0) (by first | rfl | (simp only [packA]; rw [bsN_eq, hzq, hhq]; (repeat' split) <;> first | rfl | omega; first | done | rfl)) J
      · refine W_skip J ?_
        refine thenQ_n ?_
        refine W_seq J ?_
        refine Wsr J J ?_
        refine Rv J J J (U_move J) J J ?_
        refine Rv J J J (U_add J J (w64e (m := ((z + 1 : Nat) : Int)) (by omega) (by omega) (by omega))) J J ?_
        refine Rv J J J (U_fieldAddrR J) J J ?_
        refine Rv J J J (U_load1 J J J) J J ?_
        refine Rv J J J (U_lss J J) J J ?_
        refine Rt J ?_
        refine WcondP J J (fun hc3 => ?_) (fun hc3 => ?_)
        · refine W_reg J ?_
          refine Rv J J J (U_move J) J J ?_
          refine Rv J J J (U_move J) J J ?_
          refine Rv J J J (U_fieldAddrR J) J J ?_
          refine Rv J J J (U_load1 J J J) J J ?_
          refine Rv J J J (U_add J J (w64e (m := ((i + H : Nat) : Int)) (by omega) (by omega) (by omega))) J J ?_
          refine Rv J J J (U_buildSliceF (by rfl) (by decide) J J J) J J ?_
          refine Ra J J J (U_appO (b := 1) (m := 0) (cs' := (([z * H + (h + 1) % H] ++ [z * H + (h + H - 1) % H]) ++ [i + H]).map n64) (n' := (([z * H + (h + 1) % H] ++ [z * H + (h + H - 1) % H]) ++ [i + H]).length) J J (by simp) J (map_len1 _) J J (by simp) (appM _ _) (len1 _ _)) J J J ?_
          refine Rv J J J (U_assign J) J J ?_
          refine Rt J ?_
          refine Wsr J J ?_
          refine Rv J J J (U_move J) J J ?_
          refine Rv J J J (U_assign J) J J ?_
          refine Rt J ?_
          refine WfrO 2 ((([z * H + (h + 1) % H] ++ [z * H + (h + H - 1) % H]) ++ [i + H]).map n64) J (mapD (fun _ => J) _) (T' := [(4, .ros ((([z * H + (h + 1) % H] ++ [z * H + (h + H - 1) % H]) ++ [i + H]).map n64) ((([z * H + (h + 1) % H] ++ [z * H + (h + H - 1) % H]) ++ [i + H]).length) none)]) (H' := []) ⟨fO J, trivial⟩ trivial ?_
          refine W_ret J ?_
          exact retL (rlT J rl0) (by first | rfl | (simp only [packA]; rw [bsN_eq, hzq, hhq]; (repeat' split) <;> first | rfl | omega; first | done | rfl)) J
        · refine W_skip J ?_
          refine thenQ_n ?_
          refine Wsr J J ?_
          refine Rv J J J (U_move J) J J ?_
          refine Rv J J J (U_assign J) J J ?_
          refine Rt J ?_
          refine WfrO 1 (([z * H + (h + 1) % H] ++ [z * H + (h + H - 1) % H]).map n64) J (mapD (fun _ => J) _) (T' := [(4, .ros (([z * H + (h + 1) % H] ++ [z * H + (h + H - 1) % H]).map n64) (([z * H + (h + 1) % H] ++ [z * H + (h + H - 1) % H]).length) none)]) (H' := []) ⟨fO J, trivial⟩ trivial ?_
          refine W_ret J ?_
          exact retL (rlT J rl0) (by first | rfl | (simp only [packA]; rw [bsN_eq, hzq, hhq]; (repeat' split) <;> first | rfl | omega; first | done | rfl)) J
    · refine W_skip J ?_
      refine thenQ_n ?_
      refine W_seq J ?_
      refine Wsr J J ?_
      refine Rv J J J (U_move J) J J ?_
      refine Rv J J J (U_gtr J J) J J ?_
      refine Rt J ?_
      refine WcondP J J (fun hc2 => ?_) (fun hc2 => ?_)
      · refine W_reg J ?_
        refine Rv J J J (U_move J) J J ?_
        refine Rv J J J (U_move J) J J ?_
        refine Rv J J J (U_fieldAddrR J) J J ?_
        refine Rv J J J (U_load1 J J J) J J ?_
        refine Rv J J J (U_sub J J (w64e (m := ((i - H : Nat) : Int)) (by omega) (by omega) (by omega))) J J ?_
        refine Rv J J J (U_buildSliceF (by rfl) (by decide) J J J) J J ?_
        refine Ra J J J (U_appO (b := 0) (m := 0) (cs' := ([z * H + (h + 1) % H] ++ [i - H]).map n64) (n' := ([z * H + (h + 1) % H] ++ [i - H]).length) J J (by simp) J (map_len1 _) J J (by simp) (appM _ _) (len1 _ _)) J J J ?_
        refine Rv J J J (U_assign J) J J ?_
        refine Rt J ?_
        refine W_seq J ?_
        refine Wsr J J ?_
        refine Rv J J J (U_move J) J J ?_
        refine Rv J J J (U_add J J (w64e (m := ((z + 1 : Nat) : Int)) (by omega) (by omega) (by omega))) J J ?_
        refine Rv J J J (U_fieldAddrR J) J J ?_
        refine Rv J J J (U_load1 J J J) J J ?_
        refine Rv J J J (U_lss J J) J J ?_
        refine Rt J ?_
        refine WcondP J J (fun hc3 => ?_) (fun hc3 => ?_)
        · refine W_reg J ?_
          refine Rv J J J (U_move J) J J ?_
          refine Rv J J J (U_move J) J J ?_
          refine Rv J J J (U_fieldAddrR J) J J ?_
          refine Rv J J J (U_load1 J J J) J J ?_
          refine Rv J J J (U_add J J (w64e (m := ((i + H : Nat) : Int)) (by omega) (by omega) (by omega))) J J ?_
          refine Rv J J J (U_buildSliceF (by rfl) (by decide) J J J) J J ?_
          refine Ra J J J (U_appO (b := 1) (m := 0) (cs' := (([z * H + (h + 1) % H] ++ [i - H]) ++ [i + H]).map n64) (n' := (([z * H + (h + 1) % H] ++ [i - H]) ++ [i + H]).length) J J (by simp) J (map_len1 _) J J (by simp) (appM _ _) (len1 _ _)) J J J ?_
          refine Rv J J J (U_assign J) J J ?_
          refine Rt J ?_
          refine Wsr J J ?_
          refine Rv J J J (U_move J) J J ?_
          refine Rv J J J (U_assign J) J J ?_
          refine Rt J ?_
          refine WfrO 2 ((([z * H + (h + 1) % H] ++ [i - H]) ++ [i + H]).map n64) J (mapD (fun _ => J) _) (T' := [(4, .ros ((([z * H + (h + 1) % H] ++ [i - H]) ++ [i + H]).map n64) ((([z * H + (h + 1) % H] ++ [i - H]) ++ [i + H]).length) none)]) (H' := []) ⟨fO J, trivial⟩ trivial ?_
          refine W_ret J ?_
          exact retL (rlT J rl0) (by first | rfl | (simp only [packA]; rw [bsN_eq, hzq, hhq]; (repeat' split) <;> first | rfl | omega; first | done | rfl)) J
        · refine W_skip J ?_
          refine thenQ_n ?_
          refine Wsr J J ?_
          refine Rv J J J (U_move J) J J ?_
          refine Rv J J J (U_assign J) J J ?_
          refine Rt J ?_
          refine WfrO 1 (([z * H + (h + 1) % H] ++ [i - H]).map n64) J (mapD (fun _ => J) _) (T' := [(4, .ros (([z * H + (h + 1) % H] ++ [i - H]).map n64) (([z * H + (h + 1) % H] ++ [i - H]).length) none)]) (H' := []) ⟨fO J, trivial⟩ trivial ?_
          refine W_ret J ?_
          exact retL (rlT J rl0) (by first | rfl | (simp only [packA]; rw [bsN_eq, hzq, hhq]; (repeat' split) <;> first | rfl | omega; first | done | rfl)) J
      · refine W_skip J ?_
        refine thenQ_n ?_
        refine W_seq J ?_
        refine Wsr J J ?_
        refine Rv J J J (U_move J) J J ?_
        refine Rv J J J (U_add J J (w64e (m := ((z + 1 : Nat) : Int)) (by omega) (by omega) (by omega))) J J ?_
        refine Rv J J J (U_fieldAddrR J) J J ?_
        refine Rv J J J (U_load1 J J J) J J ?_
        refine Rv J J J (U_lss J J) J J ?_
        refine Rt J ?_
        refine WcondP J J (fun hc3 => ?_) (fun hc3 => ?_)
        · refine W_reg J ?_
          refine Rv J J J (U_move J) J J ?_
          refine Rv J J J (U_move J) J J ?_
          refine Rv J J J (U_fieldAddrR J) J J ?_
          refine Rv J J J (U_load1 J J J) J J ?_
          refine Rv J J J (U_add J J (w64e (m := ((i + H : Nat) : Int)) (by omega) (by omega) (by omega))) J J ?_
          refine Rv J J J (U_buildSliceF (by rfl) (by decide) J J J) J J ?_
          refine Ra J J J (U_appO (b := 0) (m := 0) (cs' := ([z * H + (h + 1) % H] ++ [i + H]).map n64) (n' := ([z * H + (h + 1) % H] ++ [i + H]).length) J J (by simp) J (map_len1 _) J J (by simp) (appM _ _) (len1 _ _)) J J J ?_
          refine Rv J J J (U_assign J) J J ?_
          refine Rt J ?_
          refine Wsr J J ?_
          refine Rv J J J (U_move J) J J ?_
          refine Rv J J J (U_assign J) J J ?_
          refine Rt J ?_
          refine WfrO 1 (([z * H + (h + 1) % H] ++ [i + H]).map n64) J (mapD (fun _ => J) _) (T' := [(4, .ros (([z * H + (h + 1) % H] ++ [i + H]).map n64) (([z * H + (h + 1) % H] ++ [i + H]).length) none)]) (H' := []) ⟨fO J, trivial⟩ trivial ?_
          refine W_ret J ?_
          exact retL (rlT J rl0) (by first | rfl | (simp only [packA]; rw [bsN_eq, hzq, hhq]; (repeat' split) <;> first | rfl | omega; first | done | rfl)) J
        · refine W_skip J ?_
          refine thenQ_n ?_
          refine Wsr J J ?_
          refine Rv J J J (U_move J) J J ?_
          refine Rv J J J (U_assign J) J J ?_
          refine Rt J ?_
          refine WfrO 0 ([z * H + (h + 1) % H].map n64) J (mapD (fun _ => J) _) (T' := [(4, .ros ([z * H + (h + 1) % H].map n64) ([z * H + (h + 1) % H].length) none)]) (H' := []) ⟨fO J, trivial⟩ trivial ?_
          refine W_ret J ?_
          exact retL (rlT J rl0) (by first | rfl | (simp only [packA]; rw [bsN_eq, hzq, hhq]; (repeat' split) <;> first | rfl | omega; first | done | rfl)) J
  · refine W_skip J ?_
    refine thenQ_n ?_
    refine W_seq J ?_
    refine Wsr J J ?_
    refine Rv J J J (U_fieldAddrR J) J J ?_
    refine Rv J J J (U_load1 J J J) J J ?_
    refine Rv J J J (U_gtr J J) J J ?_
    refine Rt J ?_
    refine WcondP J J (fun hc1 => ?_) (fun hc1 => ?_)
    · refine Wdraw J (by kernel_rfl) (by kernel_rfl) ?_
      refine Dv J J J (U_move J) J J ?_
      refine Dv J J J (U_move J) J J ?_
      refine Dv J J J (U_fieldAddrR J) J J ?_
      refine Dv J J J (U_load1 J J J) J J ?_
      refine Dv J J J (U_mul J J (w64e (m := ((z * H : Nat) : Int)) (by omega) (by omega) (by omega))) J J ?_
      refine Dv J J J (U_move J) J J ?_
      refine Dv J J J (U_fieldAddrR J) J J ?_
      refine Dv J J J (U_load1 J J J) J J ?_
      refine Dv J J J (U_add J J (w64e (m := ((h + H : Nat) : Int)) (by omega) (by omega) (by omega))) J J ?_
      refine Dv J J J (U_sub J J (w64e (m := ((h + H - 1 : Nat) : Int)) (by omega) (by omega) (by omega))) J J ?_
      refine Dv J J J (U_fieldAddrR J) J J ?_
      refine Dv J J J (U_load1 J J J) J J ?_
      refine Dv J J J (U_rem (c := (((h + H - 1) % H : Nat) : Int)) J J (by omega) (tmodN _ _)) J J ?_
      refine Dv J J J (U_add J J (w64e (m := ((z * H + (h + H - 1) % H : Nat) : Int)) (by omega) (by omega) (by omega))) J J ?_
      refine Dv J J J (U_buildSliceF (by rfl) (by decide) J J J) J J ?_
      refine Da J J J (U_appN (m := 0) (cs' := [z * H + (h + H - 1) % H].map n64) (n' := [z * H + (h + H - 1) % H].length) J J J (by omega) J J) J J J J ?_
      refine Dv J J J (U_assign J) J J ?_
      refine Dr.nil J ?_
      refine thenQ_n ?_
      refine W_seq J ?_
      refine Wsr J J ?_
      refine Rv J J J (U_move J) J J ?_
      refine Rv J J J (U_gtr J J) J J ?_
      refine Rt J ?_
      refine WcondP J J (fun hc2 => ?_) (fun hc2 => ?_)
      · refine W_reg J ?_
        refine Rv J J J (U_move J) J J ?_
        refine Rv J J J (U_move J) J J ?_
        refine Rv J J J (U_fieldAddrR J) J J ?_
        refine Rv J J J (U_load1 J J J) J J ?_
        refine Rv J J J (U_sub J J (w64e (m := ((i - H : Nat) : Int)) (by omega) (by omega) (by omega))) J J ?_
        refine Rv J J J (U_buildSliceF (by rfl) (by decide) J J J) J J ?_
        refine Ra J J J (U_appO (b := 0) (m := 0) (cs' := ([z * H + (h + H - 1) % H] ++ [i - H]).map n64) (n' := ([z * H + (h + H - 1) % H] ++ [i - H]).length) J J (by simp) J (map_len1 _) J J (by simp) (appM _ _) (len1 _ _)) J J J ?_
        refine Rv J J J (U_assign J) J J ?_
        refine Rt J ?_
        refine W_seq J ?_
        refine Wsr J J ?_
        refine Rv J J J (U_move J) J J ?_
        refine Rv J J J (U_add J J (w64e (m := ((z + 1 : Nat) : Int)) (by omega) (by omega) (by omega))) J J ?_
        refine Rv J J J (U_fieldAddrR J) J J ?_
        refine Rv J J J (U_load1 J J J) J J ?_
        refine Rv J J J (U_lss J J) J J ?_
        refine Rt J ?_
        refine WcondP J J (fun hc3 => ?_) (fun hc3 => ?_)
        · refine W_reg J ?_
          refine Rv J J J (U_move J) J J ?_
          refine Rv J J J (U_move J) J J ?_
          refine Rv J J J (U_fieldAddrR J) J J ?_
          refine Rv J J J (U_load1 J J J) J J ?_
          refine Rv J J J (U_add J J (w64e (m := ((i + H : Nat) : Int)) (by omega) (by omega) (by omega))) J J ?_
          refine Rv J J J (U_buildSliceF (by rfl) (by decide) J J J) J J ?_
          refine Ra J J J (U_appO (b := 1) (m := 0) (cs' := (([z * H + (h + H - 1) % H] ++ [i - H]) ++ [i + H]).map n64) (n' := (([z * H + (h + H - 1) % H] ++ [i - H]) ++ [i + H]).length) J J (by simp) J (map_len1 _) J J (by simp) (appM _ _) (len1 _ _)) J J J ?_
          refine Rv J J J (U_assign J) J J ?_
          refine Rt J ?_
          refine Wsr J J ?_
          refine Rv J J J (U_move J) J J ?_
          refine Rv J J J (U_assign J) J J ?_
          refine Rt J ?_
          refine WfrO 2 ((([z * H + (h + H - 1) % H] ++ [i - H]) ++ [i + H]).map n64) J (mapD (fun _ => J) _) (T' := [(4, .ros ((([z * H + (h + H - 1) % H] ++ [i - H]) ++ [i + H]).map n64) ((([z * H + (h + H - 1) % H] ++ [i - H]) ++ [i + H]).length) none)]) (H' := []) ⟨fO J, trivial⟩ trivial ?_
          refine W_ret J ?_
          exact retL (rlT J rl0) (by first | rfl | (simp only [packA]; rw [bsN_eq, hzq, hhq]; (repeat' split) <;> first | rfl | omega; first | done | rfl)) J
        · refine W_skip J ?_
          refine thenQ_n ?_
          refine Wsr J J ?_
          refine Rv J J J (U_move J) J J ?_
          refine Rv J J J (U_assign J) J J ?_
          refine Rt J ?_
          refine WfrO 1 (([z * H + (h + H - 1) % H] ++ [i - H]).map n64) J (mapD (fun _ => J) _) (T' := [(4, .ros (([z * H + (h + H - 1) % H] ++ [i - H]).map n64) (([z * H + (h + H - 1) % H] ++ [i - H]).length) none)]) (H' := []) ⟨fO J, trivial⟩ trivial ?_
          refine W_ret J ?_
          exact retL (rlT J rl0) (by first | rfl | (simp only [packA]; rw [bsN_eq, hzq, hhq]; (repeat' split) <;> first | rfl | omega; first | done | rfl)) J
      · refine W_skip J ?_
        refine thenQ_n ?_
        refine W_seq J ?_
        refine Wsr J J ?_
        refine Rv J J J (U_move J) J J ?_
        refine Rv J J J (U_add J J (w64e (m := ((z + 1 : Nat) : Int)) (by omega) (by omega) (by omega))) J J ?_
        refine Rv J J J (U_fieldAddrR J) J J ?_
        refine Rv J J J (U_load1 J J J) J J ?_
        refine Rv J J J (U_lss J J) J J ?_
        refine Rt J ?_
        refine WcondP J J (fun hc3 => ?_) (fun hc3 => ?_)
        · refine W_reg J ?_
          refine Rv J J J (U_move J) J J ?_
          refine Rv J J J (U_move J) J J ?_
          refine Rv J J J (U_fieldAddrR J) J J ?_
          refine Rv J J J (U_load1 J J J) J J ?_
          refine Rv J J J (U_add J J (w64e (m := ((i + H : Nat) : Int)) (by omega) (by omega) (by omega))) J J ?_
          refine Rv J J J (U_buildSliceF (by rfl) (by decide) J J J) J J ?_
          refine Ra J J J (U_appO (b := 0) (m := 0) (cs' := ([z * H + (h + H - 1) % H] ++ [i + H]).map n64) (n' := ([z * H + (h + H - 1) % H] ++ [i + H]).length) J J (by simp) J (map_len1 _) J J (by simp) (appM _ _) (len1 _ _)) J J J ?_
          refine Rv J J J (U_assign J) J J ?_
          refine Rt J ?_
          refine Wsr J J ?_
          refine Rv J J J (U_move J) J J ?_
          refine Rv J J J (U_assign J) J J ?_
          refine Rt J ?_
          refine WfrO 1 (([z * H + (h + H - 1) % H] ++ [i + H]).map n64) J (mapD (fun _ => J) _) (T' := [(4, .ros (([z * H + (h + H - 1) % H] ++ [i + H]).map n64) (([z * H + (h + H - 1) % H] ++ [i + H]).length) none)]) (H' := []) ⟨fO J, trivial⟩ trivial ?_
          refine W_ret J ?_
          exact retL (rlT J rl0) (by first | rfl | (simp only [packA]; rw [bsN_eq, hzq, hhq]; (repeat' split) <;> first | rfl | omega; first | done | rfl)) J
        · refine W_skip J ?_
          refine thenQ_n ?_
          refine Wsr J J ?_
          refine Rv J J J (U_move J) J J ?_
          refine Rv J J J (U_assign J) J J ?_
          refine Rt J ?_
          refine WfrO 0 ([z * H + (h + H - 1) % H].map n64) J (mapD (fun _ => J) _) (T' := [(4, .ros ([z * H + (h + H - 1) % H].map n64) ([z * H + (h + H - 1) % H].length) none)]) (H' := []) ⟨fO J, trivial⟩ trivial ?_
          refine W_ret J ?_
          exact retL (rlT J rl0) (by first | rfl | (simp only [packA]; rw [bsN_eq, hzq, hhq]; (repeat' split) <;> first | rfl | omega; first | done | rfl)) J
    · refine W_skip J ?_
      refine thenQ_n ?_
      refine W_seq J ?_
      refine Wsr J J ?_
      refine Rv J J J (U_move J) J J ?_
      refine Rv J J J (U_gtr J J) J J ?_
      refine Rt J ?_
      refine WcondP J J (fun hc2 => ?_) (fun hc2 => ?_)
      · refine W_reg J ?_
        refine Rv J J J (U_move J) J J ?_
        refine Rv J J J (U_move J) J J ?_
        refine Rv J J J (U_fieldAddrR J) J J ?_
        refine Rv J J J (U_load1 J J J) J J ?_
        refine Rv J J J (U_sub J J (w64e (m := ((i - H : Nat) : Int)) (by omega) (by omega) (by omega))) J J ?_
        refine Rv J J J (U_buildSliceF (by rfl) (by decide) J J J) J J ?_
        refine Ra J J J (U_appN (m := 0) (cs' := [i - H].map n64) (n' := [i - H].length) J J J (by omega) J J) J J J ?_
        refine Rv J J J (U_assign J) J J ?_
        refine Rt J ?_
        refine W_seq J ?_
        refine Wsr J J ?_
        refine Rv J J J (U_move J) J J ?_
        refine Rv J J J (U_add J J (w64e (m := ((z + 1 : Nat) : Int)) (by omega) (by omega) (by omega))) J J ?_
        refine Rv J J J (U_fieldAddrR J) J J ?_
        refine Rv J J J (U_load1 J J J) J J ?_
        refine Rv J J J (U_lss J J) J J ?_
        refine Rt J ?_
        refine WcondP J J (fun hc3 => ?_) (fun hc3 => ?_)
        · refine W_reg J ?_
          refine Rv J J J (U_move J) J J ?_
          refine Rv J J J (U_move J) J J ?_
          refine Rv J J J (U_fieldAddrR J) J J ?_
          refine Rv J J J (U_load1 J J J) J J ?_
          refine Rv J J J (U_add J J (w64e (m := ((i + H : Nat) : Int)) (by omega) (by omega) (by omega))) J J ?_
          refine Rv J J J (U_buildSliceF (by rfl) (by decide) J J J) J J ?_
          refine Ra J J J (U_appO (b := 0) (m := 0) (cs' := ([i - H] ++ [i + H]).map n64) (n' := ([i - H] ++ [i + H]).length) J J (by simp) J (map_len1 _) J J (by simp) (appM _ _) (len1 _ _)) J J J ?_
          refine Rv J J J (U_assign J) J J ?_
          refine Rt J ?_
          refine Wsr J J ?_
          refine Rv J J J (U_move J) J J ?_
          refine Rv J J J (U_assign J) J J ?_
          refine Rt J ?_
          refine WfrO 1 (([i - H] ++ [i + H]).map n64) J (mapD (fun _ => J) _) (T' := [(4, .ros (([i - H] ++ [i + H]).map n64) (([i - H] ++ [i + H]).length) none)]) (H' := []) ⟨fO J, trivial⟩ trivial ?_
          refine W_ret J ?_
          exact retL (rlT J rl0) (by first | rfl | (simp only [packA]; rw [bsN_eq, hzq, hhq]; (repeat' split) <;> first | rfl | omega; first | done | rfl)) J
        · refine W_skip J ?_
          refine thenQ_n ?_
          refine Wsr J J ?_
          refine Rv J J J (U_move J) J J ?_
          refine Rv J J J (U_assign J) J J ?_
          refine Rt J ?_
          refine WfrO 0 ([i - H].map n64) J (mapD (fun _ => J) _) (T' := [(4, .ros ([i - H].map n64) ([i - H].length) none)]) (H' := []) ⟨fO J, trivial⟩ trivial ?_
          refine W_ret J ?_
          exact retL (rlT J rl0) (by first | rfl | (simp only [packA]; rw [bsN_eq, hzq, hhq]; (repeat' split) <;> first | rfl | omega; first | done | rfl)) J
      · refine W_skip J ?_
        refine thenQ_n ?_
        refine W_seq J ?_
        refine Wsr J J ?_
        refine Rv J J J (U_move J) J J ?_
        refine Rv J J J (U_add J J (w64e (m := ((z + 1 : Nat) : Int)) (by omega) (by omega) (by omega))) J J ?_
        refine Rv J J J (U_fieldAddrR J) J J ?_
        refine Rv J J J (U_load1 J J J) J J ?_
        refine Rv J J J (U_lss J J) J J ?_
        refine Rt J ?_
        refine WcondP J J (fun hc3 => ?_) (fun hc3 => ?_)
        · refine W_reg J ?_
          refine Rv J J J (U_move J) J J ?_
          refine Rv J J J (U_move J) J J ?_
          refine Rv J J J (U_fieldAddrR J) J J ?_
          refine Rv J J J (U_load1 J J J) J J ?_
          refine Rv J J J (U_add J J (w64e (m := ((i + H : Nat) : Int)) (by omega) (by omega) (by omega))) J J ?_
          refine Rv J J J (U_buildSliceF (by rfl) (by decide) J J J) J J ?_
          refine Ra J J J (U_appN (m := 0) (cs' := [i + H].map n64) (n' := [i + H].length) J J J (by omega) J J) J J J ?_
          refine Rv J J J (U_assign J) J J ?_
          refine Rt J ?_
          refine Wsr J J ?_
          refine Rv J J J (U_move J) J J ?_
          refine Rv J J J (U_assign J) J J ?_
          refine Rt J ?_
          refine WfrO 0 ([i + H].map n64) J (mapD (fun _ => J) _) (T' := [(4, .ros ([i + H].map n64) ([i + H].length) none)]) (H' := []) ⟨fO J, trivial⟩ trivial ?_
          refine W_ret J ?_
          exact retL (rlT J rl0) (by first | rfl | (simp only [packA]; rw [bsN_eq, hzq, hhq]; (repeat' split) <;> first | rfl | omega; first | done | rfl)) J
        · refine W_skip J ?_
          refine thenQ_n ?_
          refine Wsr J J ?_
          refine Rv J J J (U_move J) J J ?_
          refine Rv J J J (U_assign J) J J ?_
          refine Rt J ?_
          refine WweakT (j := 4) J (le_nils (cs := [])) ?_
          refine W_ret J ?_
          exact retL (rlT J rl0) (by first | rfl | (simp only [packA]; rw [bsN_eq, hzq, hhq]; (repeat' split) <;> first | rfl | omega; first | done | rfl)) J
theorem nbN {Z H i : Nat} {l : List Bx} (hi : i < Z * H) : ((bsN Z H i).map fun j => (fldQ Z H l).getD j 0).sum = nbQ Z H l (i / H) (i % H) := by
  unfold nbQ bsN
  rw [List.map_map]
  congr 1
  refine List.map_congr_left fun p hp => ?_
  have hH : 0 < H := by rcases Nat.eq_zero_or_pos H with e | e; subst e; omega; exact e
  have h1 := bsP_in (Nat.div_lt_of_lt_mul (by rw [Nat.mul_comm]; exact hi)) (Nat.mod_lt i hH) p hp
  have h2 := zh_lt h1.1 h1.2
  have h3 := zh_div (z := p.1) h1.2
  have h4 : p.1 * H + p.2 < (fldQ Z H l).length := by rw [fldQ_len]; exact h2
  simp only [Function.comp]
  rw [List.getD_eq_getElem?_getD, List.getElem?_eq_getElem h4, Option.getD_some, fldQ_get h4, h3.1, h3.2]
theorem brK_step {Z H i : Nat} {la lb : List Bx} (hi : i < Z * H) : brK Z H la lb (i + 1) = brK Z H la lb i + (fldQ Z H la).getD i 0 * ((bsN Z H i).map fun j => (fldQ Z H lb).getD j 0).sum := by
  have h1 : i < (plcQ Z H).length := by rw [plcQ_len]; exact hi
  have h4 : i < (fldQ Z H la).length := by rw [fldQ_len]; exact hi
  rw [nbN hi, brK, sum_snoc h1, plcQ_at h1, List.getD_eq_getElem?_getD, List.getElem?_eq_getElem h4, Option.getD_some, fldQ_get h4]; rfl
theorem getD_at {l : List Nat} {i : Nat} (h : i < l.length) : l.getD i 0 = l[i] := by rw [List.getD_eq_getElem?_getD, List.getElem?_eq_getElem h]; rfl
theorem borderR_p (H Z : Nat) (ls : List (List Bx)) (c : Option Nat) (hv : VS ⟨H, Z, ls⟩ H Z) (a b : Nat) (ha : a < ls.length) (hb : b < ls.length) : Pure Try.prog 81 [.agg [i64 (H : Nat), i64 (Z : Nat), landsA ls c], i64 (a : Nat), i64 (b : Nat)] (i64 ((brQ Z H ls[a] ls[b] : Nat) : Int)) := by
  have hv' := hv
  obtain ⟨_, _, hH, hZ1, hln, hlb, hbx⟩ := hv'
  simp only at hln hlb hbx
  have hZ := hZ1.2
  have hHZ : Z * H ≤ 1152 := Nat.mul_le_mul hZ hH.2
  have hHZc : H * Z = Z * H := Nat.mul_comm _ _
  have hfal : (fldQ Z H ls[a]).length = Z * H := fldQ_len
  have hfbl : (fldQ Z H ls[b]).length = Z * H := fldQ_len
  refine pure_of_body Try.func81 (c := body Try.f81) J (by simp [Try.ntmps81]) fun w0 Φ0 => ?_
  refine Wsr J J ?_
  refine Rv J J J (U_boxF J J J) J J ?_
  refine Rv J J J (U_assign J) J J ?_
  refine Rt J ?_
  refine W_seq J ?_
  refine Wdraw J (by kernel_rfl) (by kernel_rfl) ?_
  refine Dv J J J (U_load3 J J J J J) J J ?_
  refine Dv J J J (U_move J) J J ?_
  refine Dv J J J (U_call J J (field_p H Z ls c hv a (by omega)) J) J J ?_
  refine Dv J J J (U_load3 J J J J J) J J ?_
  refine Dv J J J (U_move J) J J ?_
  refine Dv J J J (U_call J J (field_p H Z ls c hv b (by omega)) J) J J ?_
  refine Dv J J J (U_assign J) J J ?_
  refine Dv J J J (U_assign J) J J ?_
  refine Dr.nil J ?_
  refine thenQ_n ?_
  refine Wsr J J ?_
  refine Rv J J J (U_assign J) J J ?_
  refine Rt J ?_
  refine W_seq J ?_
  refine Wsr J J ?_
  refine Rv J J J (U_assign J) J J ?_
  refine Rt J ?_
  refine W_block J ?_
  refine LoopTo (T' := [(3, .rop [i64 ((H : Nat) : Int), i64 ((Z : Nat) : Int), .ros (ls.map boxesL) ls.length c] 0), (7, .ros ((fldQ Z H ls[a]).map n64) (H * Z) (some (H * Z))), (8, .ros ((fldQ Z H ls[b]).map n64) (H * Z) (some (H * Z))), (9, i64 ((0 : Nat) : Int)), (10, i64 ((0 : Nat) : Int))]) (H' := []) (n := 0) J (fun mz_ qz_ => ∃ (i : Nat) (n : Nat), i ≤ H * Z ∧ n = brK Z H ls[a] ls[b] i ∧ mz_ = H * Z - i ∧ qz_ = ⟨[(3, .rop [i64 ((H : Nat) : Int), i64 ((Z : Nat) : Int), .ros (ls.map boxesL) ls.length c] 0), (7, .ros ((fldQ Z H ls[a]).map n64) (H * Z) (some (H * Z))), (8, .ros ((fldQ Z H ls[b]).map n64) (H * Z) (some (H * Z))), (9, i64 ((n : Nat) : Int)), (10, i64 ((i : Nat) : Int))], [], 0, []⟩) ⟨0, 0, (by omega), J, J, J⟩ id ⟨eD J J, eD J J, eD J J, eD J J, eD J J, trivial⟩ trivial J J J J (fun _ _ => J) ?_
  rintro _ _ ⟨i, n, hi0_0, hi0_1, rfl, rfl⟩
  have hbk := brK_le (Z := Z) (H := H) (la := ls[a]) (lb := ls[b]) (i := i)
  refine W_seq J ?_
  refine Wsr J J ?_
  refine Rv J J J (U_move J) J J ?_
  refine Rv J J J (U_move J) J J ?_
  refine Rv J J J (U_lenOf J len_ros) J J ?_
  refine Rv J J J (U_lss J J) J J ?_
  refine Rt J ?_
  refine WcondP J J (fun hc0 => ?_) (fun hc0 => ?_)
  · have hci : i < Z * H := by omega
    have hbs := bsN_len (Z := Z) (H := H) (i := i)
    have hfa := fldQ_le (Z := Z) (H := H) (l := ls[a]) (i := i) (by omega)
    refine W_skip J ?_
    refine thenQ_n ?_
    refine W_seq J ?_
    refine W_block J ?_
    refine Wsr J J ?_
    refine Rv J J J (U_load3 J J J J J) J J ?_
    refine Rv J J J (U_move J) J J ?_
    refine Rv J J J (U_call J J (besideR_p H Z ls c hv i (by omega)) J) J J ?_
    refine Rv J J J (U_assign J) J J ?_
    refine Rt J ?_
    refine Wsr J J ?_
    refine Rv J J J (U_assign J) J J ?_
    refine Rt J ?_
    refine W_block J ?_
    refine LoopTo (T' := [(3, .rop [i64 ((H : Nat) : Int), i64 ((Z : Nat) : Int), .ros (ls.map boxesL) ls.length c] 0), (7, .ros ((fldQ Z H ls[a]).map n64) (H * Z) (some (H * Z))), (8, .ros ((fldQ Z H ls[b]).map n64) (H * Z) (some (H * Z))), (9, i64 ((n : Nat) : Int)), (10, i64 ((i : Nat) : Int)), (11, .ros ((bsN Z H i).map n64) ((bsN Z H i).length) none), (12, i64 ((0 : Nat) : Int))]) (H' := []) (n := 0) J (fun mz_ qz_ => ∃ (k : Nat) (m : Nat), k ≤ (bsN Z H i).length ∧ (m = n + (fldQ Z H ls[a]).getD i 0 * (((bsN Z H i).take k).map fun j => (fldQ Z H ls[b]).getD j 0).sum) ∧ m ≤ n + k ∧ mz_ = (bsN Z H i).length - k ∧ qz_ = ⟨[(3, .rop [i64 ((H : Nat) : Int), i64 ((Z : Nat) : Int), .ros (ls.map boxesL) ls.length c] 0), (7, .ros ((fldQ Z H ls[a]).map n64) (H * Z) (some (H * Z))), (8, .ros ((fldQ Z H ls[b]).map n64) (H * Z) (some (H * Z))), (9, i64 ((m : Nat) : Int)), (10, i64 ((i : Nat) : Int)), (11, .ros ((bsN Z H i).map n64) ((bsN Z H i).length) none), (12, i64 ((k : Nat) : Int))], [], 0, []⟩) ⟨0, n, (by omega), (by simp), (by omega), J, J⟩ id ⟨eD J J, eD J J, eD J J, eD J J, eD J J, eD J J, eD J J, trivial⟩ trivial J J J J (fun _ _ => J) ?_
    rintro _ _ ⟨k, m, hi1_0, hi1_1, hi1_2, rfl, rfl⟩
    refine W_seq J ?_
    refine Wsr J J ?_
    refine Rv J J J (U_move J) J J ?_
    refine Rv J J J (U_move J) J J ?_
    refine Rv J J J (U_lenOf J len_ros) J J ?_
    refine Rv J J J (U_lss J J) J J ?_
    refine Rt J ?_
    refine WcondP J J (fun hc1 => ?_) (fun hc1 => ?_)
    · have hck : k < (bsN Z H i).length := by omega
      have hbj := bsN_lt hci _ (List.getElem_mem hck)
      have hfb := fldQ_le (Z := Z) (H := H) (l := ls[b]) (i := (bsN Z H i)[k]) (by rw [fldQ_len]; exact hbj)
      have hfab := Nat.mul_le_mul hfa hfb
      refine W_skip J ?_
      refine thenQ_n ?_
      refine W_seq J ?_
      refine W_block J ?_
      refine Wdraw J (by kernel_rfl) (by kernel_rfl) ?_
      refine Dv J J J (U_move J) J J ?_
      refine Dv J J J (U_move J) J J ?_
      refine Dv J J J (U_move J) J J ?_
      have hx1 : i < (fldQ Z H ls[a]).length := by omega
      refine Dv J J J (U_indexR (j := i) J J J (by omega)) J J ?_
      refine Dv J J J (U_load1 J J (getM hx1)) J J ?_
      refine Dv J J J (U_move J) J J ?_
      refine Dv J J J (U_move J) J J ?_
      refine Dv J J J (U_move J) J J ?_
      have hx2 : k < (bsN Z H i).length := by omega
      refine Dv J J J (U_indexR (j := k) J J J hx2) J J ?_
      refine Dv J J J (U_load1 J J (getM hx2)) J J ?_
      have hx3 : ((bsN Z H i)[k]) < (fldQ Z H ls[b]).length := by rw [fldQ_len]; exact hbj
      refine Dv J J J (U_indexR (j := ((bsN Z H i)[k])) J J J (by omega)) J J ?_
      refine Dv J J J (U_load1 J J (getM hx3)) J J ?_
      refine Dv J J J (U_mul J J (w64e (m := (((fldQ Z H ls[a])[i] * (fldQ Z H ls[b])[(bsN Z H i)[k]] : Nat) : Int)) (by omega) (by omega) (by omega))) J J ?_
      refine Dv J J J (U_add J J (w64e (m := ((m + (fldQ Z H ls[a])[i] * (fldQ Z H ls[b])[(bsN Z H i)[k]] : Nat) : Int)) (by omega) (by omega) (by omega))) J J ?_
      refine Dv J J J (U_assign J) J J ?_
      refine Dr.nil J ?_
      refine blkQ_n ?_
      refine thenQ_n ?_
      refine W_reg J ?_
      refine Rv J J J (U_move J) J J ?_
      refine Rv J J J (U_add J J (w64e (m := ((k + 1 : Nat) : Int)) (by omega) (by omega) (by omega))) J J ?_
      refine Rv J J J (U_assign J) J J ?_
      refine Rt J ?_
      exact againTo (T' := [(3, .rop [i64 ((H : Nat) : Int), i64 ((Z : Nat) : Int), .ros (ls.map boxesL) ls.length c] 0), (7, .ros ((fldQ Z H ls[a]).map n64) (H * Z) (some (H * Z))), (8, .ros ((fldQ Z H ls[b]).map n64) (H * Z) (some (H * Z))), (9, i64 (((m + (fldQ Z H ls[a])[i] * (fldQ Z H ls[b])[(bsN Z H i)[k]]) : Nat) : Int)), (10, i64 ((i : Nat) : Int)), (11, .ros ((bsN Z H i).map n64) ((bsN Z H i).length) none), (12, i64 (((k + 1) : Nat) : Int))]) (H' := []) (n := 0) ((bsN Z H i).length - (k + 1)) ⟨k + 1, m + (fldQ Z H ls[a])[i] * (fldQ Z H ls[b])[(bsN Z H i)[k]], (by omega), (by rw [sum_snoc hck, Nat.mul_add, ← Nat.add_assoc, ← hi1_1, getD_at (by omega), getD_at (i := (bsN Z H i)[k]) (by rw [fldQ_len]; exact hbj)]), (by omega), J, J⟩ (by omega) id ⟨eD J J, eD J J, eD J J, eD J J, eD J J, eD J J, eD J J, trivial⟩ trivial J J J J (fun _ _ => J)
    · have hend : m = n + (fldQ Z H ls[a]).getD i 0 * ((bsN Z H i).map fun j => (fldQ Z H ls[b]).getD j 0).sum := by rw [hi1_1, List.take_of_length_le (by omega)]
      refine W_exit J ?_
      refine thenQ_x ?_
      refine thenQ_x ?_
      refine blkQ_x J ?_
      refine blkQ_n ?_
      refine thenQ_n ?_
      refine W_reg J ?_
      refine Rv J J J (U_move J) J J ?_
      refine Rv J J J (U_add J J (w64e (m := ((i + 1 : Nat) : Int)) (by omega) (by omega) (by omega))) J J ?_
      refine Rv J J J (U_assign J) J J ?_
      refine Rt J ?_
      exact againTo (T' := [(3, .rop [i64 ((H : Nat) : Int), i64 ((Z : Nat) : Int), .ros (ls.map boxesL) ls.length c] 0), (7, .ros ((fldQ Z H ls[a]).map n64) (H * Z) (some (H * Z))), (8, .ros ((fldQ Z H ls[b]).map n64) (H * Z) (some (H * Z))), (9, i64 ((m : Nat) : Int)), (10, i64 (((i + 1) : Nat) : Int))]) (H' := []) (n := 0) (H * Z - (i + 1)) ⟨i + 1, m, (by omega), (by rw [brK_step hci, ← hi0_1, hend]), J, J⟩ (by omega) id ⟨eD J J, eD J J, eD J J, eD J J, eD J J, trivial⟩ trivial J J J J (fun _ _ => J)
  · refine W_exit J ?_
    refine thenQ_x ?_
    refine thenQ_x ?_
    refine blkQ_x J ?_
    refine thenQ_n ?_
    refine Wsr J J ?_
    refine Rv J J J (U_move J) J J ?_
    refine Rv J J J (U_assign J) J J ?_
    refine Rt J ?_
    refine W_ret J ?_
    exact retL (rlT J rl0) (by first | rfl | (simp only [packA]; rw [hi0_1, ← brK_all, plcQ_len, show i = Z * H by omega]; first | done | rfl)) J
theorem met_fld {Z H : Nat} {la lb : List Bx} {i : Nat} (hi : i < Z * H) (h1 : (fldQ Z H la).getD i 0 = 1) (h2 : (fldQ Z H lb).getD i 0 = 1) : metQ Z H la lb = true := by
  have hH : 0 < H := by rcases Nat.eq_zero_or_pos H with e | e; subst e; omega; exact e
  have hA : i < (fldQ Z H la).length := by rw [fldQ_len]; exact hi
  have hB : i < (fldQ Z H lb).length := by rw [fldQ_len]; exact hi
  rw [getD_at hA, fldQ_get hA, bitQ] at h1
  rw [getD_at hB, fldQ_get hB, bitQ] at h2
  refine met_true (Nat.div_lt_of_lt_mul (by rw [Nat.mul_comm]; exact hi)) (Nat.mod_lt i hH) ?_ ?_
  · exact Decidable.byContradiction fun h => by rw [if_neg h] at h1; cases h1
  · exact Decidable.byContradiction fun h => by rw [if_neg h] at h2; cases h2
theorem met_no {Z H : Nat} {la lb : List Bx} (h : ∀ i, i < Z * H → ¬ ((fldQ Z H la).getD i 0 = 1 ∧ (fldQ Z H lb).getD i 0 = 1)) : metQ Z H la lb = false := by
  refine met_false fun z x hz hx h2 => h (z * H + x) (zh_lt hz hx) ?_
  have hd := zh_div (z := z) hx
  have hA : z * H + x < (fldQ Z H la).length := by rw [fldQ_len]; exact zh_lt hz hx
  have hB : z * H + x < (fldQ Z H lb).length := by rw [fldQ_len]; exact zh_lt hz hx
  rw [getD_at hA, fldQ_get hA, getD_at hB, fldQ_get hB, hd.1, hd.2, bitQ, bitQ, if_pos h2.1, if_pos h2.2]
  exact ⟨rfl, rfl⟩
theorem meet_p (H Z : Nat) (ls : List (List Bx)) (c : Option Nat) (hv : VS ⟨H, Z, ls⟩ H Z) (a b : Nat) (ha : a < ls.length) (hb : b < ls.length) : Pure Try.prog 56 [.agg [i64 (H : Nat), i64 (Z : Nat), landsA ls c], i64 (a : Nat), i64 (b : Nat)] (.bool (metQ Z H ls[a] ls[b])) := by
  have hv' := hv
  obtain ⟨_, _, hH, hZ1, hln, hlb, hbx⟩ := hv'
  simp only at hln hlb hbx
  have hZ := hZ1.2
  have hHZ : Z * H ≤ 1152 := Nat.mul_le_mul hZ hH.2
  have hHZc : H * Z = Z * H := Nat.mul_comm _ _
  have hfal : (fldQ Z H ls[a]).length = Z * H := fldQ_len
  have hfbl : (fldQ Z H ls[b]).length = Z * H := fldQ_len
  refine pure_of_body Try.func56 (c := body Try.f56) J (by simp [Try.ntmps56]) fun w0 Φ0 => ?_
  refine Wsr J J ?_
  refine Rv J J J (U_boxF J J J) J J ?_
  refine Rv J J J (U_assign J) J J ?_
  refine Rt J ?_
  refine W_seq J ?_
  refine Wdraw J (by kernel_rfl) (by kernel_rfl) ?_
  refine Dv J J J (U_load3 J J J J J) J J ?_
  refine Dv J J J (U_move J) J J ?_
  refine Dv J J J (U_call J J (field_p H Z ls c hv a (by omega)) J) J J ?_
  refine Dv J J J (U_load3 J J J J J) J J ?_
  refine Dv J J J (U_move J) J J ?_
  refine Dv J J J (U_call J J (field_p H Z ls c hv b (by omega)) J) J J ?_
  refine Dv J J J (U_assign J) J J ?_
  refine Dv J J J (U_assign J) J J ?_
  refine Dr.nil J ?_
  refine thenQ_n ?_
  refine W_seq J ?_
  refine Wsr J J ?_
  refine Rv J J J (U_assign J) J J ?_
  refine Rt J ?_
  refine W_block J ?_
  refine LoopTo (T' := [(7, .ros ((fldQ Z H ls[a]).map n64) (H * Z) (some (H * Z))), (8, .ros ((fldQ Z H ls[b]).map n64) (H * Z) (some (H * Z))), (9, i64 ((0 : Nat) : Int))]) (H' := []) (n := 0) J (fun mz_ qz_ => ∃ (i : Nat), i ≤ H * Z ∧ ((∀ j, j < i → ¬ ((fldQ Z H ls[a]).getD j 0 = 1 ∧ (fldQ Z H ls[b]).getD j 0 = 1))) ∧ mz_ = H * Z - i ∧ qz_ = ⟨[(7, .ros ((fldQ Z H ls[a]).map n64) (H * Z) (some (H * Z))), (8, .ros ((fldQ Z H ls[b]).map n64) (H * Z) (some (H * Z))), (9, i64 ((i : Nat) : Int))], [], 0, []⟩) ⟨0, (by omega), (fun j h => absurd h (Nat.not_lt_zero _)), J, J⟩ id ⟨eD J J, eD J J, eD J J, trivial⟩ trivial J J J J (fun _ _ => J) ?_
  rintro _ _ ⟨i, hi0_0, hi0_1, rfl, rfl⟩
  refine W_seq J ?_
  refine Wsr J J ?_
  refine Rv J J J (U_move J) J J ?_
  refine Rv J J J (U_move J) J J ?_
  refine Rv J J J (U_lenOf J len_ros) J J ?_
  refine Rv J J J (U_lss J J) J J ?_
  refine Rt J ?_
  refine WcondP J J (fun hc0 => ?_) (fun hc0 => ?_)
  · have hci : i < Z * H := by omega
    refine W_skip J ?_
    refine thenQ_n ?_
    refine W_seq J ?_
    refine W_block J ?_
    refine W_seq J ?_
    refine Wjoin ⟨[(7, .ros ((fldQ Z H ls[a]).map n64) (H * Z) (some (H * Z))), (8, .ros ((fldQ Z H ls[b]).map n64) (H * Z) (some (H * Z))), (9, i64 ((i : Nat) : Int)), (33, .bool ((decide ((((fldQ Z H ls[a])[i] : Nat) : Int) = 1)) && (decide ((((fldQ Z H ls[b])[i] : Nat) : Int) = 1))))], [], 0, []⟩ ?_ ?_
    · refine W_reg J ?_
      refine Rv J J J (U_move J) J J ?_
      refine Rv J J J (U_move J) J J ?_
      have hx1 : i < (fldQ Z H ls[a]).length := by omega
      refine Rv J J J (U_indexR (j := i) J J J (by omega)) J J ?_
      refine Rv J J J (U_load1 J J (getM hx1)) J J ?_
      refine Rv J J J (U_eql J J) J J ?_
      refine Rv J J J (U_move J) J J ?_
      refine Rsplit (t := 27) J (fun hg2 => ?_) (fun hg2 => ?_)
      · rw [hg2]
        have hg2' : (((fldQ Z H ls[a])[i] : Nat) : Int) = 1 := of_decide_eq_true hg2
        refine Rv J J J (U_move J) J J ?_
        refine Rv J J J (U_move J) J J ?_
        have hx3 : i < (fldQ Z H ls[b]).length := by omega
        refine Rv J J J (U_indexR (j := i) J J J (by omega)) J J ?_
        refine Rv J J J (U_load1 J J (getM hx3)) J J ?_
        refine Rv J J J (U_eql J J) J J ?_
        refine Rv J J J (U_pick_t J J) J J ?_
        refine Re J ?_
        exact joinTo id ⟨eD J J, eD J J, eD J J, eD J J, trivial⟩ trivial J J J J (fun _ _ => J)
      · rw [hg2]
        have hg2' : ¬ ((((fldQ Z H ls[a])[i] : Nat) : Int) = 1) := of_decide_eq_false hg2
        refine Rs J J J J J ?_
        refine Rs J J J J J ?_
        refine Rs J J J J J ?_
        refine Rs J J J J J ?_
        refine Rs J J J J J ?_
        refine Rv J J J (U_pick_f J J) J J ?_
        refine Re J ?_
        exact joinTo id ⟨eD J J, eD J J, eD J J, eD J J, trivial⟩ trivial J J J J (fun _ _ => J)
    refine thenQ_n ?_
    refine Wcond J J (fun hc1 => ?_) (fun hc1 => ?_)
    · refine Wsr J J ?_
      refine Rv J J J (U_assign J) J J ?_
      refine Rt J ?_
      refine W_ret J ?_
      refine blkQ_r ?_
      refine thenQ_r ?_
      refine thenQ_r ?_
      refine blkQ_r ?_
      refine thenQ_r ?_
      exact retL (rlT J rl0) (by first | rfl | (simp only [packA]; rw [met_fld hci (by rw [getD_at (by omega)]; simp at hc1; omega) (by rw [getD_at (by omega)]; simp at hc1; omega)]; first | done | rfl) | (simp only [packA]; rw [met_no fun j hj => hi0_1 j (by omega)]; first | done | rfl)) J
    · have hc1' := Bool.eq_false_iff.1 hc1
      refine W_skip J ?_
      refine blkQ_n ?_
      refine thenQ_n ?_
      refine W_reg J ?_
      refine Rv J J J (U_move J) J J ?_
      refine Rv J J J (U_add J J (w64e (m := ((i + 1 : Nat) : Int)) (by omega) (by omega) (by omega))) J J ?_
      refine Rv J J J (U_assign J) J J ?_
      refine Rt J ?_
      exact againTo (T' := [(7, .ros ((fldQ Z H ls[a]).map n64) (H * Z) (some (H * Z))), (8, .ros ((fldQ Z H ls[b]).map n64) (H * Z) (some (H * Z))), (9, i64 (((i + 1) : Nat) : Int))]) (H' := []) (n := 0) (H * Z - (i + 1)) ⟨i + 1, (by omega), (by intro j h; rcases Nat.lt_succ_iff_lt_or_eq.1 h with h | rfl; exact hi0_1 j h; rw [getD_at (by omega), getD_at (by omega)]; simp at hc1; omega), J, J⟩ (by omega) id ⟨eD J J, eD J J, eD J J, trivial⟩ trivial J J J J (fun _ _ => J)
  · refine W_exit J ?_
    refine thenQ_x ?_
    refine thenQ_x ?_
    refine blkQ_x J ?_
    refine thenQ_n ?_
    refine Wsr J J ?_
    refine Rv J J J (U_assign J) J J ?_
    refine Rt J ?_
    refine W_ret J ?_
    exact retL (rlT J rl0) (by first | rfl | (simp only [packA]; rw [met_fld hci (by rw [getD_at (by omega)]; simp at hc1; omega) (by rw [getD_at (by omega)]; simp at hc1; omega)]; first | done | rfl) | (simp only [packA]; rw [met_no fun j hj => hi0_1 j (by omega)]; first | done | rfl)) J
theorem nearR_p (H Z : Nat) (ls : List (List Bx)) (c : Option Nat) (hv : VS ⟨H, Z, ls⟩ H Z) (a b : Nat) (ha : a < ls.length) (hb : b < ls.length) : Pure Try.prog 83 [.agg [i64 (H : Nat), i64 (Z : Nat), landsA ls c], i64 (a : Nat), i64 (b : Nat)] (.bool (nrQ Z H ls[a] ls[b])) := by
  have hv' := hv
  obtain ⟨_, _, hH, hZ1, hln, hlb, hbx⟩ := hv'
  simp only at hln hlb hbx
  have hZ := hZ1.2
  have hHZ : Z * H ≤ 1152 := Nat.mul_le_mul hZ hH.2
  have hHZc : H * Z = Z * H := Nat.mul_comm _ _
  refine pure_of_body Try.func83 (c := body Try.f83) J (by simp [Try.ntmps83]) fun w0 Φ0 => ?_
  refine Wsr J J ?_
  refine Rv J J J (U_boxF J J J) J J ?_
  refine Rv J J J (U_assign J) J J ?_
  refine Rt J ?_
  refine W_seq J ?_
  refine Wjoin ⟨[(6, .bool ((metQ Z H ls[a] ls[b]) || (decide (0 < ((brQ Z H ls[a] ls[b] : Nat) : Int)))))], [], 0, []⟩ ?_ ?_
  · refine W_reg J ?_
    refine Rv J J J (U_load3 J J J J J) J J ?_
    refine Rv J J J (U_move J) J J ?_
    refine Rv J J J (U_move J) J J ?_
    refine Rv J J J (U_call J J (meet_p H Z ls c hv a b (by omega) (by omega)) J) J J ?_
    refine Rv J J J (U_move J) J J ?_
    refine Rsplit (t := 11) J (fun hg1 => ?_) (fun hg1 => ?_)
    · rw [hg1]
      refine Rs J J J J J ?_
      refine Rs J J J J J ?_
      refine Rs J J J J J ?_
      refine Rs J J J J J ?_
      refine Rs J J J J J ?_
      refine Rv J J J (U_pick_t J J) J J ?_
      refine Rv J J J (U_assign J) J J ?_
      refine Re J ?_
      exact joinTo id ⟨eD J J, trivial⟩ trivial J J J J (fun _ _ => J)
    · rw [hg1]
      refine Rv J J J (U_load3 J J J J J) J J ?_
      refine Rv J J J (U_move J) J J ?_
      refine Rv J J J (U_move J) J J ?_
      refine Rv J J J (U_call J J (borderR_p H Z ls c hv a b (by omega) (by omega)) J) J J ?_
      refine Rv J J J (U_gtr J J) J J ?_
      refine Rv J J J (U_pick_f J J) J J ?_
      refine Rv J J J (U_assign J) J J ?_
      refine Re J ?_
      exact joinTo id ⟨eD J J, trivial⟩ trivial J J J J (fun _ _ => J)
  refine thenQ_n ?_
  refine W_ret J ?_
  exact retL (rlT J rl0) (by first | rfl | (simp only [packA]; rw [nrQ]; congr 1; cases metQ Z H ls[a] ls[b] <;> simp; first | done | rfl) | (simp only [packA]; congr 1; rw [nrQ]; cases metQ Z H ls[a] ls[b] <;> simp; first | done | rfl)) J
end Go.Proofs.Ythlolelbmhfdbaa
end

section
namespace Go.Proofs.Ythlolelbmhfdbaa
set_option maxRecDepth 20000
open Go.AE
theorem chkSRG_p (H Z : Nat) (ls : List (List Bx)) (c : Option Nat) (hc : chkS ⟨H, Z, ls⟩ = 0) (hv : VS ⟨H, Z, ls⟩ H Z) : Pure Try.prog 23 [.agg [i64 (H : Nat), i64 (Z : Nat), landsA ls c]] (i64 0) := by
  have := chkSR_p ⟨H, Z, ls⟩ c hv.hl hv.hbl
  rwa [hc] at this
end Go.Proofs.Ythlolelbmhfdbaa
end

section
namespace Go.Proofs.Ythlolelbmhfdbaa
set_option maxRecDepth 20000
open Go.AE
theorem different_p (l : List Int) (c : Option Nat) (hl : l.length ≤ 1000000) : Pure Try.prog 86 [intsA l c] (i64 ((difQ l : Nat) : Int)) := by
  refine pure_of_body Try.func86 (c := body Try.f86) J (by simp [Try.ntmps86]) fun w0 Φ0 => ?_
  refine Wsr J J ?_
  refine Rv J J J (U_assign J) J J ?_
  refine Rt J ?_
  refine Wsr J J ?_
  refine Rv J J J (U_assign J) J J ?_
  refine Rt J ?_
  refine W_seq J ?_
  refine Wsr J J ?_
  refine Rv J J J (U_assign J) J J ?_
  refine Rt J ?_
  refine W_block J ?_
  refine LoopTo (T' := [(0, .ros (l.map i64) l.length c), (3, i64 ((0 : Nat) : Int)), (4, i64 ((0 : Nat) : Int))]) (H' := []) (n := 0) J (fun mz_ qz_ => ∃ (k : Nat) (n : Nat), k ≤ l.length ∧ n = difK l k ∧ mz_ = l.length - k ∧ qz_ = ⟨[(0, .ros (l.map i64) l.length c), (3, i64 ((n : Nat) : Int)), (4, i64 ((k : Nat) : Int))], [], 0, []⟩) ⟨0, 0, (by omega), J, J, J⟩ id ⟨eD J J, eD J J, eD J J, trivial⟩ trivial J J J J (fun _ _ => J) ?_
  rintro _ _ ⟨k, n, hi0_0, hi0_1, rfl, rfl⟩
  have hnk : n ≤ k := by rw [hi0_1]; exact difK_le
  refine W_seq J ?_
  refine Wsr J J ?_
  refine Rv J J J (U_move J) J J ?_
  refine Rv J J J (U_move J) J J ?_
  refine Rv J J J (U_lenOf J len_ros) J J ?_
  refine Rv J J J (U_lss J J) J J ?_
  refine Rt J ?_
  refine WcondP J J (fun hc0 => ?_) (fun hc0 => ?_)
  · have hck : k < l.length := by omega
    refine W_skip J ?_
    refine thenQ_n ?_
    refine W_seq J ?_
    refine W_block J ?_
    refine Wsr J J ?_
    refine Rv J J J (U_assign J) J J ?_
    refine Rt J ?_
    refine W_seq J ?_
    refine Wsr J J ?_
    refine Rv J J J (U_assign J) J J ?_
    refine Rt J ?_
    refine W_block J ?_
    refine LoopTo (T' := [(0, .ros (l.map i64) l.length c), (3, i64 ((n : Nat) : Int)), (4, i64 ((k : Nat) : Int)), (5, i64 ((1 : Nat) : Int)), (6, i64 ((0 : Nat) : Int))]) (H' := []) (n := 0) J (fun mz_ qz_ => ∃ (j : Nat) (f : Nat), j ≤ k ∧ f ≤ 1 ∧ ((f = 1 → ∀ i (hi : i < l.length), i < j → l[i] ≠ l[k])) ∧ ((f = 0 → ∃ i, ∃ (_ : i < k) (hi : i < l.length), l[i] = l[k])) ∧ mz_ = k - j ∧ qz_ = ⟨[(0, .ros (l.map i64) l.length c), (3, i64 ((n : Nat) : Int)), (4, i64 ((k : Nat) : Int)), (5, i64 ((f : Nat) : Int)), (6, i64 ((j : Nat) : Int))], [], 0, []⟩) ⟨0, 1, (by omega), (Nat.le_refl _), (fun _ i _ h => absurd h (Nat.not_lt_zero _)), nofun, J, J⟩ id ⟨eD J J, eD J J, eD J J, eD J J, eD J J, trivial⟩ trivial J J J J (fun _ _ => J) ?_
    rintro _ _ ⟨j, f, hi1_0, hi1_1, hi1_2, hi1_3, rfl, rfl⟩
    refine W_seq J ?_
    refine Wsr J J ?_
    refine Rv J J J (U_move J) J J ?_
    refine Rv J J J (U_move J) J J ?_
    refine Rv J J J (U_lss J J) J J ?_
    refine Rt J ?_
    refine WcondP J J (fun hc1 => ?_) (fun hc1 => ?_)
    · refine W_skip J ?_
      refine thenQ_n ?_
      refine W_seq J ?_
      refine W_block J ?_
      refine W_seq J ?_
      refine Wdraw J (by kernel_rfl) (by kernel_rfl) ?_
      refine Dv J J J (U_move J) J J ?_
      refine Dv J J J (U_move J) J J ?_
      have hx1 : j < l.length := by omega
      refine Dv J J J (U_indexR (j := j) J J J hx1) J J ?_
      refine Dv J J J (U_load1 J J (getM hx1)) J J ?_
      refine Dv J J J (U_move J) J J ?_
      refine Dv J J J (U_move J) J J ?_
      have hx2 : k < l.length := by omega
      refine Dv J J J (U_indexR (j := k) J J J hx2) J J ?_
      refine Dv J J J (U_load1 J J (getM hx2)) J J ?_
      refine Dv J J J (U_eql J J) J J ?_
      refine Dr.nil J ?_
      refine thenQ_n ?_
      refine WcondP J J (fun hc2 => ?_) (fun hc2 => ?_)
      · refine W_reg J ?_
        refine Rv J J J (U_assign J) J J ?_
        refine Re J ?_
        refine blkQ_n ?_
        refine thenQ_n ?_
        refine W_reg J ?_
        refine Rv J J J (U_move J) J J ?_
        refine Rv J J J (U_add J J (w64e (m := ((j + 1 : Nat) : Int)) (by omega) (by omega) (by omega))) J J ?_
        refine Rv J J J (U_assign J) J J ?_
        refine Rt J ?_
        exact againTo (T' := [(0, .ros (l.map i64) l.length c), (3, i64 ((n : Nat) : Int)), (4, i64 ((k : Nat) : Int)), (5, i64 ((0 : Nat) : Int)), (6, i64 (((j + 1) : Nat) : Int))]) (H' := []) (n := 0) (k - (j + 1)) ⟨j + 1, 0, (by omega), (by omega), (by first | (intro h; exact absurd h (by decide)) | (intro h i hi h2; rcases Nat.lt_succ_iff_lt_or_eq.1 h2 with h2 | rfl; exact hi1_2 h i hi h2; exact fun e => hc2 e)), (by first | exact fun _ => ⟨j, by omega, by omega, hc2⟩ | exact hi1_3), J, J⟩ (by omega) id ⟨eD J J, eD J J, eD J J, eD J J, eD J J, trivial⟩ trivial J J J J (fun _ _ => J)
      · refine W_skip J ?_
        refine blkQ_n ?_
        refine thenQ_n ?_
        refine W_reg J ?_
        refine Rv J J J (U_move J) J J ?_
        refine Rv J J J (U_add J J (w64e (m := ((j + 1 : Nat) : Int)) (by omega) (by omega) (by omega))) J J ?_
        refine Rv J J J (U_assign J) J J ?_
        refine Rt J ?_
        exact againTo (T' := [(0, .ros (l.map i64) l.length c), (3, i64 ((n : Nat) : Int)), (4, i64 ((k : Nat) : Int)), (5, i64 ((f : Nat) : Int)), (6, i64 (((j + 1) : Nat) : Int))]) (H' := []) (n := 0) (k - (j + 1)) ⟨j + 1, f, (by omega), (by omega), (by first | (intro h; exact absurd h (by decide)) | (intro h i hi h2; rcases Nat.lt_succ_iff_lt_or_eq.1 h2 with h2 | rfl; exact hi1_2 h i hi h2; exact fun e => hc2 e)), (by first | exact fun _ => ⟨j, by omega, by omega, hc2⟩ | exact hi1_3), J, J⟩ (by omega) id ⟨eD J J, eD J J, eD J J, eD J J, eD J J, trivial⟩ trivial J J J J (fun _ _ => J)
    · have hfr1 : (f = 1 → ∀ i (hi : i < l.length), i < k → l[i] ≠ l[k]) ∧ (f = 0 → ∃ i, ∃ (_ : i < k) (hi : i < l.length), l[i] = l[k]) := ⟨fun h i hi h2 => hi1_2 h i hi (by omega), hi1_3⟩
      have hf01 : f = 0 ∨ f = 1 := by omega
      have hstepn : n + f = difK l (k + 1) := by rcases hf01 with h | h; obtain ⟨i0, h1, h2, h3⟩ := hfr1.2 h; rw [difK_f hck h1 h3, hi0_1, h]; rfl; rw [difK_t hck (hfr1.1 h), hi0_1, h]
      refine W_exit J ?_
      refine thenQ_x ?_
      refine thenQ_x ?_
      refine blkQ_x J ?_
      refine thenQ_n ?_
      refine W_reg J ?_
      refine Rv J J J (U_move J) J J ?_
      refine Rv J J J (U_move J) J J ?_
      refine Rv J J J (U_add J J (w64e (m := ((n + f : Nat) : Int)) (by omega) (by omega) (by omega))) J J ?_
      refine Rv J J J (U_assign J) J J ?_
      refine Re J ?_
      refine blkQ_n ?_
      refine thenQ_n ?_
      refine W_reg J ?_
      refine Rv J J J (U_move J) J J ?_
      refine Rv J J J (U_add J J (w64e (m := ((k + 1 : Nat) : Int)) (by omega) (by omega) (by omega))) J J ?_
      refine Rv J J J (U_assign J) J J ?_
      refine Rt J ?_
      exact againTo (T' := [(0, .ros (l.map i64) l.length c), (3, i64 (((n + f) : Nat) : Int)), (4, i64 (((k + 1) : Nat) : Int))]) (H' := []) (n := 0) (l.length - (k + 1)) ⟨k + 1, n + f, (by omega), (hstepn), J, J⟩ (by omega) id ⟨eD J J, eD J J, eD J J, trivial⟩ trivial J J J J (fun _ _ => J)
  · refine W_exit J ?_
    refine thenQ_x ?_
    refine thenQ_x ?_
    refine blkQ_x J ?_
    refine thenQ_n ?_
    refine Wsr J J ?_
    refine Rv J J J (U_move J) J J ?_
    refine Rv J J J (U_assign J) J J ?_
    refine Rt J ?_
    refine W_ret J ?_
    exact retL (rlT J rl0) (by first | rfl | (simp only [packA]; rw [hi0_1, show k = l.length by omega]; rfl; first | done | rfl)) J
def tabB (Z H : Nat) (ls : List (List Bx)) (x y : Nat) : Bool := if y < x then nrQ Z H (ls.getD x []) (ls.getD y []) else if x < y then nrQ Z H (ls.getD y []) (ls.getD x []) else false
def tabD (i k x y : Nat) : Bool := decide (max x y < i) || decide (max x y = i) && decide (min x y < k)
def tabK (Z H : Nat) (ls : List (List Bx)) (i k : Nat) : List Nat := (List.range (ls.length * ls.length)).map fun e => bif tabD i k (e / ls.length) (e % ls.length) && tabB Z H ls (e / ls.length) (e % ls.length) then 1 else 0
def tabQ (Z H : Nat) (ls : List (List Bx)) : List Nat := tabK Z H ls ls.length 0
theorem tabK_len {Z H i k : Nat} {ls : List (List Bx)} : (tabK Z H ls i k).length = ls.length * ls.length := by simp [tabK]
theorem tabK_0 {Z H : Nat} {ls : List (List Bx)} : tabK Z H ls 0 0 = List.replicate (ls.length * ls.length) 0 := by
  apply List.ext_getElem (by simp [tabK])
  intro e h1 h2
  simp [tabK, tabD]
theorem tabK_row {Z H i : Nat} {ls : List (List Bx)} : tabK Z H ls i i = tabK Z H ls (i + 1) 0 := by
  refine List.map_congr_left fun e he => ?_
  by_cases hxy : e / ls.length = e % ls.length
  · have : tabB Z H ls (e / ls.length) (e % ls.length) = false := by unfold tabB; rw [hxy]; simp
    rw [this, Bool.and_false, Bool.and_false]
  · have : tabD i i (e / ls.length) (e % ls.length) = tabD (i + 1) 0 (e / ls.length) (e % ls.length) := by
      unfold tabD; rw [Bool.eq_iff_iff]; simp; omega
    rw [this]
theorem tabK_f {Z H i k : Nat} {ls : List (List Bx)} (hk : k < i) (h : nrQ Z H (ls.getD i []) (ls.getD k []) = false) : tabK Z H ls i k = tabK Z H ls i (k + 1) := by
  refine List.map_congr_left fun e he => ?_
  by_cases hxy : max (e / ls.length) (e % ls.length) = i ∧ min (e / ls.length) (e % ls.length) = k
  · have : tabB Z H ls (e / ls.length) (e % ls.length) = false := by
      unfold tabB; split
      · rename_i h1; rw [show e / ls.length = i by omega, show e % ls.length = k by omega]; exact h
      · split
        · rename_i h1; rw [show e / ls.length = k by omega, show e % ls.length = i by omega]; exact h
        · rfl
    rw [this, Bool.and_false, Bool.and_false]
  · have : tabD i k (e / ls.length) (e % ls.length) = tabD i (k + 1) (e / ls.length) (e % ls.length) := by
      unfold tabD; rw [Bool.eq_iff_iff]; simp; omega
    rw [this]
theorem tabK_t {Z H i k : Nat} {ls : List (List Bx)} (hi : i < ls.length) (hk : k < i) (h : nrQ Z H (ls.getD i []) (ls.getD k []) = true) : ((tabK Z H ls i k).set (i * ls.length + k) 1).set (k * ls.length + i) 1 = tabK Z H ls i (k + 1) := by
  have d1 := zh_div (H := ls.length) (z := i) (h := k) (by omega)
  have d2 := zh_div (H := ls.length) (z := k) (h := i) hi
  apply List.ext_getElem (by simp [tabK])
  intro e h1 h2
  rw [List.getElem_set, List.getElem_set]
  simp only [tabK, List.getElem_map, List.getElem_range]
  by_cases e2 : k * ls.length + i = e
  · subst e2
    rw [if_pos rfl, d2.1, d2.2]
    have a1 : tabD i (k + 1) k i = true := by unfold tabD; rw [Bool.or_eq_true, Bool.and_eq_true]; simp; omega
    have a2 : tabB Z H ls k i = true := by unfold tabB; rw [if_neg (by omega), if_pos hk]; exact h
    rw [a1, a2]; rfl
  · rw [if_neg e2]
    by_cases e1 : i * ls.length + k = e
    · subst e1
      rw [if_pos rfl, d1.1, d1.2]
      have a1 : tabD i (k + 1) i k = true := by unfold tabD; rw [Bool.or_eq_true, Bool.and_eq_true]; simp; omega
      have a2 : tabB Z H ls i k = true := by unfold tabB; rw [if_pos hk]; exact h
      rw [a1, a2]; rfl
    · rw [if_neg e1]
      have hdm := Nat.div_add_mod e ls.length
      rw [Nat.mul_comm] at hdm
      have : tabD i k (e / ls.length) (e % ls.length) = tabD i (k + 1) (e / ls.length) (e % ls.length) := by
        have n1 : ¬ (e / ls.length = i ∧ e % ls.length = k) := fun h => e1 (by rw [h.1, h.2] at hdm; exact hdm)
        have n2 : ¬ (e / ls.length = k ∧ e % ls.length = i) := fun h => e2 (by rw [h.1, h.2] at hdm; exact hdm)
        unfold tabD; rw [Bool.eq_iff_iff]; simp; omega
      rw [this]
theorem table_p (H Z : Nat) (ls : List (List Bx)) (c : Option Nat) (hv : VS ⟨H, Z, ls⟩ H Z) : Pure Try.prog 85 [.agg [i64 (H : Nat), i64 (Z : Nat), landsA ls c]] (fldA (tabQ Z H ls) (ls.length * ls.length)) := by
  have hv' := hv
  obtain ⟨_, _, hH, hZ1, hln, hlb, hbx⟩ := hv'
  simp only at hln hlb hbx
  have hZ := hZ1.2
  have hHZ : Z * H ≤ 1152 := Nat.mul_le_mul hZ hH.2
  have hHZc : H * Z = Z * H := Nat.mul_comm _ _
  have hll : ls.length * ls.length ≤ 100 := Nat.mul_le_mul hln hln
  refine pure_of_body Try.func85 (c := body Try.f85) J (by simp [Try.ntmps85]) fun w0 Φ0 => ?_
  refine Wsr J J ?_
  refine Rv J J J (U_boxF J J J) J J ?_
  refine Rv J J J (U_assign J) J J ?_
  refine Rt J ?_
  refine Wsr J J ?_
  refine Rv J J J (U_fieldAddrR J) J J ?_
  refine Rv J J J (U_load1 J J J) J J ?_
  refine Rv J J J (U_lenOf J len_ros) J J ?_
  refine Rv J J J (U_assign J) J J ?_
  refine Rt J ?_
  refine Wsr J J ?_
  refine Rv J J J (U_move J) J J ?_
  refine Rv J J J (U_move J) J J ?_
  refine Rv J J J (U_mul J J (w64e (m := ((ls.length * ls.length : Nat) : Int)) (by omega) (by omega) (by omega))) J J ?_
  refine Ra J J J (U_mkL (n := ls.length * ls.length) (cs' := (List.replicate (ls.length * ls.length) (0 : Nat)).map n64) J J J (by omega) (replM J _)) J J J ?_
  refine Rv J J J (U_assign J) J J ?_
  refine Rt J ?_
  refine W_seq J ?_
  refine Wsr J J ?_
  refine Rv J J J (U_assign J) J J ?_
  refine Rt J ?_
  refine W_block J ?_
  refine LoopTo (T' := [(1, .rop [i64 ((H : Nat) : Int), i64 ((Z : Nat) : Int), .ros (ls.map boxesL) ls.length c] 0), (3, i64 ((ls.length : Nat) : Int)), (4, .slice 0 0 (ls.length * ls.length) (ls.length * ls.length)), (5, i64 ((0 : Nat) : Int))]) (H' := [(0, some (.cells ((List.replicate (ls.length * ls.length) 0).map n64) 3))]) (n := 1) J (fun mz_ qz_ => ∃ (i : Nat) (T : List Nat), i ≤ ls.length ∧ T = tabK Z H ls i 0 ∧ mz_ = ls.length - i ∧ qz_ = ⟨[(1, .rop [i64 ((H : Nat) : Int), i64 ((Z : Nat) : Int), .ros (ls.map boxesL) ls.length c] 0), (3, i64 ((ls.length : Nat) : Int)), (4, .slice 0 0 (ls.length * ls.length) (ls.length * ls.length)), (5, i64 ((i : Nat) : Int))], [(0, some (.cells (T.map n64) 3))], 1, []⟩) ⟨0, List.replicate (ls.length * ls.length) 0, (by omega), tabK_0.symm, J, J⟩ id ⟨eD J J, eD J J, e_ J J, eD J J, trivial⟩ ⟨rD (mapD (fun _ => J) _) J J, trivial⟩ J J J J (fun _ _ => J) ?_
  rintro _ _ ⟨i, T, hi0_0, hi0_1, rfl, rfl⟩
  have hTl : T.length = ls.length * ls.length := by rw [hi0_1, tabK_len]
  refine W_seq J ?_
  refine Wsr J J ?_
  refine Rv J J J (U_move J) J J ?_
  refine Rv J J J (U_move J) J J ?_
  refine Rv J J J (U_lss J J) J J ?_
  refine Rt J ?_
  refine WcondP J J (fun hc0 => ?_) (fun hc0 => ?_)
  · have hci : i < ls.length := by omega
    refine W_skip J ?_
    refine thenQ_n ?_
    refine W_seq J ?_
    refine W_block J ?_
    refine Wsr J J ?_
    refine Rv J J J (U_assign J) J J ?_
    refine Rt J ?_
    refine W_block J ?_
    refine LoopTo (T' := [(1, .rop [i64 ((H : Nat) : Int), i64 ((Z : Nat) : Int), .ros (ls.map boxesL) ls.length c] 0), (3, i64 ((ls.length : Nat) : Int)), (4, .slice 0 0 (ls.length * ls.length) (ls.length * ls.length)), (5, i64 ((i : Nat) : Int)), (6, i64 ((0 : Nat) : Int))]) (H' := [(0, some (.cells (T.map n64) 3))]) (n := 1) J (fun mz_ qz_ => ∃ (k : Nat) (T2 : List Nat), k ≤ i ∧ T2 = tabK Z H ls i k ∧ mz_ = i - k ∧ qz_ = ⟨[(1, .rop [i64 ((H : Nat) : Int), i64 ((Z : Nat) : Int), .ros (ls.map boxesL) ls.length c] 0), (3, i64 ((ls.length : Nat) : Int)), (4, .slice 0 0 (ls.length * ls.length) (ls.length * ls.length)), (5, i64 ((i : Nat) : Int)), (6, i64 ((k : Nat) : Int))], [(0, some (.cells (T2.map n64) 3))], 1, []⟩) ⟨0, T, (by omega), hi0_1, J, J⟩ id ⟨eD J J, eD J J, e_ J J, eD J J, eD J J, trivial⟩ ⟨rD (mapD (fun _ => J) _) J J, trivial⟩ J J J J (fun _ _ => J) ?_
    rintro _ _ ⟨k, T2, hi1_0, hi1_1, rfl, rfl⟩
    have hTl2 : T2.length = ls.length * ls.length := by rw [hi1_1, tabK_len]
    refine W_seq J ?_
    refine Wsr J J ?_
    refine Rv J J J (U_move J) J J ?_
    refine Rv J J J (U_move J) J J ?_
    refine Rv J J J (U_lss J J) J J ?_
    refine Rt J ?_
    refine WcondP J J (fun hc1 => ?_) (fun hc1 => ?_)
    · have hck : k < i := by omega
      have hz1 := zh_lt (Z := ls.length) (H := ls.length) (z := i) (h := k) hci (by omega)
      have hz2 := zh_lt (Z := ls.length) (H := ls.length) (z := k) (h := i) (by omega) hci
      have hg1 : ls.getD i [] = ls[i] := by rw [List.getD_eq_getElem?_getD, List.getElem?_eq_getElem hci]; rfl
      have hg2 : ls.getD k [] = ls[k] := by rw [List.getD_eq_getElem?_getD, List.getElem?_eq_getElem (show k < ls.length by omega)]; rfl
      refine W_skip J ?_
      refine thenQ_n ?_
      refine W_seq J ?_
      refine W_block J ?_
      refine Wsr J J ?_
      refine Rv J J J (U_load3 J J J J J) J J ?_
      refine Rv J J J (U_move J) J J ?_
      refine Rv J J J (U_move J) J J ?_
      refine Rv J J J (U_call J J (nearR_p H Z ls c hv i k (by omega) (by omega)) J) J J ?_
      refine Rt J ?_
      refine Wcond J J (fun hc2 => ?_) (fun hc2 => ?_)
      · refine W_reg J ?_
        refine Rv J J J (U_move J) J J ?_
        refine Rv J J J (U_move J) J J ?_
        refine Rv J J J (U_move J) J J ?_
        refine Rv J J J (U_mul J J (w64e (m := ((i * ls.length : Nat) : Int)) (by omega) (by omega) (by omega))) J J ?_
        refine Rv J J J (U_move J) J J ?_
        refine Rv J J J (U_add J J (w64e (m := ((i * ls.length + k : Nat) : Int)) (by omega) (by omega) (by omega))) J J ?_
        refine Rv J J J (U_move J) J J ?_
        refine Rv J J J (U_move J) J J ?_
        refine Rv J J J (U_move J) J J ?_
        refine Rv J J J (U_mul J J (w64e (m := ((k * ls.length : Nat) : Int)) (by omega) (by omega) (by omega))) J J ?_
        refine Rv J J J (U_move J) J J ?_
        refine Rv J J J (U_add J J (w64e (m := ((k * ls.length + i : Nat) : Int)) (by omega) (by omega) (by omega))) J J ?_
        have hx1 : (i * ls.length + k) < T2.length := by omega
        refine Rv J J J (U_indexS (j := (i * ls.length + k)) J J J (by omega)) J J ?_
        refine Rn J J J (U_store (n := 1) (cs' := (T2.set (i * ls.length + k) 1).map n64) J J J J J (stLt hx1) J setM) J ?_
        have hx2 : (k * ls.length + i) < (T2.set (i * ls.length + k) 1).length := by rw [List.length_set]; omega
        refine Rv J J J (U_indexS (j := (k * ls.length + i)) J J J (by omega)) J J ?_
        refine Rn J J J (U_store (n := 1) (cs' := ((T2.set (i * ls.length + k) 1).set (k * ls.length + i) 1).map n64) J J J J J (stLt hx2) J setM) J ?_
        refine Re J ?_
        refine blkQ_n ?_
        refine thenQ_n ?_
        refine W_reg J ?_
        refine Rv J J J (U_move J) J J ?_
        refine Rv J J J (U_add J J (w64e (m := ((k + 1 : Nat) : Int)) (by omega) (by omega) (by omega))) J J ?_
        refine Rv J J J (U_assign J) J J ?_
        refine Rt J ?_
        exact againTo (T' := [(1, .rop [i64 ((H : Nat) : Int), i64 ((Z : Nat) : Int), .ros (ls.map boxesL) ls.length c] 0), (3, i64 ((ls.length : Nat) : Int)), (4, .slice 0 0 (ls.length * ls.length) (ls.length * ls.length)), (5, i64 ((i : Nat) : Int)), (6, i64 (((k + 1) : Nat) : Int))]) (H' := [(0, some (.cells (((T2.set (i * ls.length + k) 1).set (k * ls.length + i) 1).map n64) 3))]) (n := 1) (i - (k + 1)) ⟨k + 1, (T2.set (i * ls.length + k) 1).set (k * ls.length + i) 1, (by omega), (by first | (rw [hi1_1]; exact tabK_t (by omega) (by omega) (by rw [hg1, hg2]; exact hc2)) | (rw [hi1_1]; exact tabK_f (by omega) (by rw [hg1, hg2]; simpa using hc2))), J, J⟩ (by omega) id ⟨eD J J, eD J J, e_ J J, eD J J, eD J J, trivial⟩ ⟨rD (mapD (fun _ => J) _) J J, trivial⟩ J J J J (fun _ _ => J)
      · have hc2' := Bool.eq_false_iff.1 hc2
        refine W_skip J ?_
        refine blkQ_n ?_
        refine thenQ_n ?_
        refine W_reg J ?_
        refine Rv J J J (U_move J) J J ?_
        refine Rv J J J (U_add J J (w64e (m := ((k + 1 : Nat) : Int)) (by omega) (by omega) (by omega))) J J ?_
        refine Rv J J J (U_assign J) J J ?_
        refine Rt J ?_
        exact againTo (T' := [(1, .rop [i64 ((H : Nat) : Int), i64 ((Z : Nat) : Int), .ros (ls.map boxesL) ls.length c] 0), (3, i64 ((ls.length : Nat) : Int)), (4, .slice 0 0 (ls.length * ls.length) (ls.length * ls.length)), (5, i64 ((i : Nat) : Int)), (6, i64 (((k + 1) : Nat) : Int))]) (H' := [(0, some (.cells (T2.map n64) 3))]) (n := 1) (i - (k + 1)) ⟨k + 1, T2, (by omega), (by first | (rw [hi1_1]; exact tabK_t (by omega) (by omega) (by rw [hg1, hg2]; exact hc2)) | (rw [hi1_1]; exact tabK_f (by omega) (by rw [hg1, hg2]; simpa using hc2))), J, J⟩ (by omega) id ⟨eD J J, eD J J, e_ J J, eD J J, eD J J, trivial⟩ ⟨rD (mapD (fun _ => J) _) J J, trivial⟩ J J J J (fun _ _ => J)
    · refine W_exit J ?_
      refine thenQ_x ?_
      refine thenQ_x ?_
      refine blkQ_x J ?_
      refine blkQ_n ?_
      refine thenQ_n ?_
      refine W_reg J ?_
      refine Rv J J J (U_move J) J J ?_
      refine Rv J J J (U_add J J (w64e (m := ((i + 1 : Nat) : Int)) (by omega) (by omega) (by omega))) J J ?_
      refine Rv J J J (U_assign J) J J ?_
      refine Rt J ?_
      exact againTo (T' := [(1, .rop [i64 ((H : Nat) : Int), i64 ((Z : Nat) : Int), .ros (ls.map boxesL) ls.length c] 0), (3, i64 ((ls.length : Nat) : Int)), (4, .slice 0 0 (ls.length * ls.length) (ls.length * ls.length)), (5, i64 (((i + 1) : Nat) : Int))]) (H' := [(0, some (.cells (T2.map n64) 3))]) (n := 1) (ls.length - (i + 1)) ⟨i + 1, T2, (by omega), (by rw [hi1_1, show k = i by omega, tabK_row]), J, J⟩ (by omega) id ⟨eD J J, eD J J, e_ J J, eD J J, trivial⟩ ⟨rD (mapD (fun _ => J) _) J J, trivial⟩ J J J J (fun _ _ => J)
  · refine W_exit J ?_
    refine thenQ_x ?_
    refine thenQ_x ?_
    refine blkQ_x J ?_
    refine thenQ_n ?_
    refine Wsr J J ?_
    refine Rv J J J (U_move J) J J ?_
    refine Rv J J J (U_assign J) J J ?_
    refine Rt J ?_
    refine WfrN 0 J (mapD (fun _ => J) _) (T' := [(2, .ros (T.map n64) (ls.length * ls.length) (some (ls.length * ls.length)))]) (H' := []) ⟨⟨_, J, fr_sl (Nat.le_refl _)⟩, trivial⟩ trivial ?_
    refine W_ret J ?_
    exact retL (rlT J rl0) (by first | rfl | (simp only [packA]; rw [hi0_1, show i = ls.length by omega]; rfl; first | done | rfl)) J
end Go.Proofs.Ythlolelbmhfdbaa
end

section
namespace Go.Proofs.Ythlolelbmhfdbaa
set_option maxRecDepth 20000
open Go.AE
section
variable {H Z : Nat} {ls : List (List Bx)} {t : List Int} (hc : chkS ⟨H, Z, ls⟩ = 0)
include hc
end
theorem tab_at {Z H i k : Nat} {ls : List (List Bx)} (hi : i < ls.length) (hk : k < i) (h : i * ls.length + k < (tabQ Z H ls).length) : (tabQ Z H ls)[i * ls.length + k] = if nrQ Z H ls[i] (ls[k]'(by omega)) = true then 1 else 0 := by
  have hd := zh_div (H := ls.length) (z := i) (h := k) (by omega)
  simp only [tabQ, tabK, List.getElem_map, List.getElem_range, hd.1, hd.2]
  have a1 : tabD ls.length 0 i k = true := by unfold tabD; rw [Bool.or_eq_true]; simp; omega
  have a2 : tabB Z H ls i k = nrQ Z H ls[i] (ls[k]'(by omega)) := by
    unfold tabB; rw [if_pos hk, List.getD_eq_getElem?_getD, List.getElem?_eq_getElem hi, List.getD_eq_getElem?_getD, List.getElem?_eq_getElem (by omega)]; rfl
  rw [a1, a2]
  cases nrQ Z H ls[i] (ls[k]'(by omega)) <;> rfl
theorem inL_false {l : List Int} {lo hi : Int} {k : Nat} (hk : k < l.length) (h : l[k] < lo ∨ hi < l[k]) : inL lo hi l = false := by
  rw [inL, List.all_eq_false]
  exact ⟨_, List.getElem_mem hk, by simp; omega⟩
theorem inL_true {l : List Int} {lo hi : Int} (h : ∀ k (hk : k < l.length), lo ≤ l[k] ∧ l[k] ≤ hi) : inL lo hi l = true := by
  rw [inL, List.all_eq_true]
  intro x hx
  obtain ⟨k, hk, rfl⟩ := List.getElem_of_mem hx
  have := h k hk
  simpa using this
theorem chtRf_g (H Z : Nat) (ls : List (List Bx)) (c : Option Nat) (hc : chkS ⟨H, Z, ls⟩ = 0) (hv : VS ⟨H, Z, ls⟩ H Z) (t : List Int) (e : Option Nat) (hl2 : t.length ≤ 1000000) : Pure Try.prog 36 [.agg [i64 (H : Nat), i64 (Z : Nat), landsA ls c], intsA t e] (.tup [i64 (chtR ⟨H, Z, ls⟩ t), i64 (chtE ⟨H, Z, ls⟩ t)]) := by
  have hv' := hv
  obtain ⟨_, _, hH, hZ1, hln, hlb, hbx⟩ := hv'
  simp only at hln hlb hbx
  have hZ := hZ1.2
  have hHZ : Z * H ≤ 1152 := Nat.mul_le_mul hZ hH.2
  have hHZc : H * Z = Z * H := Nat.mul_comm _ _
  have hnn : ls.length * ls.length ≤ 100 := Nat.mul_le_mul hln hln
  refine pure_of_body Try.func36 (c := body Try.f36) J (by simp [Try.ntmps36]) fun w0 Φ0 => ?_
  refine Wsr J J ?_
  refine Rv J J J (U_boxF J J J) J J ?_
  refine Rv J J J (U_assign J) J J ?_
  refine Rv J J J (U_assign J) J J ?_
  refine Rt J ?_
  refine W_seq J ?_
  refine Wsr J J ?_
  refine Rv J J J (U_load3 J J J J J) J J ?_
  refine Rv J J J (U_call J J (chkSRG_p H Z ls c hc hv) J) J J ?_
  refine Rv J J J (U_neq J J) J J ?_
  refine Rt J ?_
  refine WcondP J J (fun h => absurd h (by decide)) (fun _ => ?_)
  refine W_skip J ?_
  refine thenQ_n ?_
  refine Wsr J J ?_
  refine Rv J J J (U_fieldAddrR J) J J ?_
  refine Rv J J J (U_load1 J J J) J J ?_
  refine Rv J J J (U_lenOf J len_ros) J J ?_
  refine Rv J J J (U_assign J) J J ?_
  refine Rt J ?_
  refine W_seq J ?_
  refine Wsr J J ?_
  refine Rv J J J (U_move J) J J ?_
  refine Rv J J J (U_lenOf J len_ros) J J ?_
  refine Rv J J J (U_move J) J J ?_
  refine Rv J J J (U_neq J J) J J ?_
  refine Rt J ?_
  refine WcondP J J (fun hc1 => ?_) (fun hc1 => ?_)
  · have h15 := chtE_15 (t := t) hc (by omega)
    refine Wsr J J ?_
    refine Rv J J J (U_assign J) J J ?_
    refine Rv J J J (U_assign J) J J ?_
    refine Rt J ?_
    refine W_ret J ?_
    refine thenQ_r ?_
    exact retL (rlT J (rlT J rl0)) (by first | rfl | (simp only [packA]; rw [h15.1, h15.2]; first | done | rfl) | (simp only [packA]; rw [h3.1, h3.2]; first | done | rfl) | (simp only [packA]; rw [h19.1, h19.2]; first | done | rfl) | (simp only [packA]; rw [h0.1, h0.2]; first | done | rfl)) J
  · rw [Decidable.not_not] at hc1
    have hlen : t.length = ls.length := by omega
    refine W_skip J ?_
    refine thenQ_n ?_
    refine W_seq J ?_
    refine Wsr J J ?_
    refine Rv J J J (U_assign J) J J ?_
    refine Rt J ?_
    refine W_block J ?_
    refine LoopTo (T' := [(1, .ros (t.map i64) t.length e), (2, .rop [i64 ((H : Nat) : Int), i64 ((Z : Nat) : Int), .ros (ls.map boxesL) ls.length c] 0), (6, i64 ((ls.length : Nat) : Int)), (7, i64 ((0 : Nat) : Int))]) (H' := []) (n := 0) J (fun mz_ qz_ => ∃ (j : Nat), j ≤ ls.length ∧ ((∀ x (hx : x < t.length), x < j → 0 ≤ t[x] ∧ t[x] ≤ (ls.length : Int) - 1)) ∧ mz_ = ls.length - j ∧ qz_ = ⟨[(1, .ros (t.map i64) t.length e), (2, .rop [i64 ((H : Nat) : Int), i64 ((Z : Nat) : Int), .ros (ls.map boxesL) ls.length c] 0), (6, i64 ((ls.length : Nat) : Int)), (7, i64 ((j : Nat) : Int))], [], 0, []⟩) ⟨0, (by omega), (fun _ _ h => absurd h (Nat.not_lt_zero _)), J, J⟩ id ⟨eD J J, eD J J, eD J J, eD J J, trivial⟩ trivial J J J J (fun _ _ => J) ?_
    rintro _ _ ⟨j, hi0_0, hi0_1, rfl, rfl⟩
    refine W_seq J ?_
    refine Wsr J J ?_
    refine Rv J J J (U_move J) J J ?_
    refine Rv J J J (U_move J) J J ?_
    refine Rv J J J (U_lss J J) J J ?_
    refine Rt J ?_
    refine WcondP J J (fun hc2 => ?_) (fun hc2 => ?_)
    · have hcj : j < t.length := by omega
      refine W_skip J ?_
      refine thenQ_n ?_
      refine W_seq J ?_
      refine W_block J ?_
      refine W_seq J ?_
      refine Wjoin ⟨[(1, .ros (t.map i64) t.length e), (2, .rop [i64 ((H : Nat) : Int), i64 ((Z : Nat) : Int), .ros (ls.map boxesL) ls.length c] 0), (6, i64 ((ls.length : Nat) : Int)), (7, i64 ((j : Nat) : Int)), (40, .bool ((decide (t[j] < 0)) || (decide (((ls.length : Nat) : Int) ≤ t[j]))))], [], 0, []⟩ ?_ ?_
      · refine W_reg J ?_
        refine Rv J J J (U_move J) J J ?_
        refine Rv J J J (U_move J) J J ?_
        have hx1 : j < t.length := by omega
        refine Rv J J J (U_indexR (j := j) J J J hx1) J J ?_
        refine Rv J J J (U_load1 J J (getM hx1)) J J ?_
        refine Rv J J J (U_lss J J) J J ?_
        refine Rv J J J (U_move J) J J ?_
        refine Rsplit (t := 33) J (fun hg2 => ?_) (fun hg2 => ?_)
        · rw [hg2]
          have hg2' : t[j] < 0 := of_decide_eq_true hg2
          refine Rs J J J J J ?_
          refine Rs J J J J J ?_
          refine Rs J J J J J ?_
          refine Rs J J J J J ?_
          refine Rs J J J J J ?_
          refine Rs J J J J J ?_
          refine Rv J J J (U_pick_t J J) J J ?_
          refine Re J ?_
          exact joinTo id ⟨eD J J, eD J J, eD J J, eD J J, eD J J, trivial⟩ trivial J J J J (fun _ _ => J)
        · rw [hg2]
          have hg2' : ¬ (t[j] < 0) := of_decide_eq_false hg2
          refine Rv J J J (U_move J) J J ?_
          refine Rv J J J (U_move J) J J ?_
          refine Rv J J J (U_indexR (j := j) J J J hx1) J J ?_
          refine Rv J J J (U_load1 J J (getM hx1)) J J ?_
          refine Rv J J J (U_move J) J J ?_
          refine Rv J J J (U_geq J J) J J ?_
          refine Rv J J J (U_pick_f J J) J J ?_
          refine Re J ?_
          exact joinTo id ⟨eD J J, eD J J, eD J J, eD J J, eD J J, trivial⟩ trivial J J J J (fun _ _ => J)
      refine thenQ_n ?_
      refine Wcond J J (fun hc3 => ?_) (fun hc3 => ?_)
      · have h3 := chtE_3 (t := t) hc hlen (inL_false hcj (by simp at hc3; omega))
        refine Wsr J J ?_
        refine Rv J J J (U_assign J) J J ?_
        refine Rv J J J (U_assign J) J J ?_
        refine Rt J ?_
        refine W_ret J ?_
        refine blkQ_r ?_
        refine thenQ_r ?_
        refine thenQ_r ?_
        refine blkQ_r ?_
        refine thenQ_r ?_
        exact retL (rlT J (rlT J rl0)) (by first | rfl | (simp only [packA]; rw [h15.1, h15.2]; first | done | rfl) | (simp only [packA]; rw [h3.1, h3.2]; first | done | rfl) | (simp only [packA]; rw [h19.1, h19.2]; first | done | rfl) | (simp only [packA]; rw [h0.1, h0.2]; first | done | rfl)) J
      · have hc3' := Bool.eq_false_iff.1 hc3
        refine W_skip J ?_
        refine blkQ_n ?_
        refine thenQ_n ?_
        refine W_reg J ?_
        refine Rv J J J (U_move J) J J ?_
        refine Rv J J J (U_add J J (w64e (m := ((j + 1 : Nat) : Int)) (by omega) (by omega) (by omega))) J J ?_
        refine Rv J J J (U_assign J) J J ?_
        refine Rt J ?_
        exact againTo (T' := [(1, .ros (t.map i64) t.length e), (2, .rop [i64 ((H : Nat) : Int), i64 ((Z : Nat) : Int), .ros (ls.map boxesL) ls.length c] 0), (6, i64 ((ls.length : Nat) : Int)), (7, i64 (((j + 1) : Nat) : Int))]) (H' := []) (n := 0) (ls.length - (j + 1)) ⟨j + 1, (by omega), (by intro x hx h; rcases Nat.lt_succ_iff_lt_or_eq.1 h with h | rfl; exact hi0_1 x hx h; simp at hc3; omega), J, J⟩ (by omega) id ⟨eD J J, eD J J, eD J J, eD J J, trivial⟩ trivial J J J J (fun _ _ => J)
    · have hinl : inL 0 ((ls.length : Int) - 1) t = true := inL_true fun x hx => hi0_1 x hx (by omega)
      refine W_exit J ?_
      refine thenQ_x ?_
      refine thenQ_x ?_
      refine blkQ_x J ?_
      refine thenQ_n ?_
      refine Wsr J J ?_
      refine Rv J J J (U_load3 J J J J J) J J ?_
      refine Rv J J J (U_call J J (table_p H Z ls c hv) J) J J ?_
      refine Rv J J J (U_assign J) J J ?_
      refine Rt J ?_
      refine W_seq J ?_
      refine Wsr J J ?_
      refine Rv J J J (U_assign J) J J ?_
      refine Rt J ?_
      refine W_block J ?_
      refine LoopTo (T' := [(1, .ros (t.map i64) t.length e), (6, i64 ((ls.length : Nat) : Int)), (8, .ros ((tabQ Z H ls).map n64) (ls.length * ls.length) (some (ls.length * ls.length))), (9, i64 ((0 : Nat) : Int))]) (H' := []) (n := 0) J (fun mz_ qz_ => ∃ (i : Nat), i ≤ ls.length ∧ noC Z H ls t i ∧ mz_ = ls.length - i ∧ qz_ = ⟨[(1, .ros (t.map i64) t.length e), (6, i64 ((ls.length : Nat) : Int)), (8, .ros ((tabQ Z H ls).map n64) (ls.length * ls.length) (some (ls.length * ls.length))), (9, i64 ((i : Nat) : Int))], [], 0, []⟩) ⟨0, (by omega), noC_0, J, J⟩ id ⟨eD J J, eD J J, eD J J, eD J J, trivial⟩ trivial J J J J (fun _ _ => J) ?_
      rintro _ _ ⟨i, hi1_0, hi1_1, rfl, rfl⟩
      refine W_seq J ?_
      refine Wsr J J ?_
      refine Rv J J J (U_move J) J J ?_
      refine Rv J J J (U_move J) J J ?_
      refine Rv J J J (U_lss J J) J J ?_
      refine Rt J ?_
      refine WcondP J J (fun hc4 => ?_) (fun hc4 => ?_)
      · have hci : i < ls.length := by omega
        refine W_skip J ?_
        refine thenQ_n ?_
        refine W_seq J ?_
        refine W_block J ?_
        refine Wsr J J ?_
        refine Rv J J J (U_assign J) J J ?_
        refine Rt J ?_
        refine W_block J ?_
        refine LoopTo (T' := [(1, .ros (t.map i64) t.length e), (6, i64 ((ls.length : Nat) : Int)), (8, .ros ((tabQ Z H ls).map n64) (ls.length * ls.length) (some (ls.length * ls.length))), (9, i64 ((i : Nat) : Int)), (10, i64 ((0 : Nat) : Int))]) (H' := []) (n := 0) J (fun mz_ qz_ => ∃ (k : Nat), k ≤ i ∧ noR Z H ls t i k ∧ mz_ = i - k ∧ qz_ = ⟨[(1, .ros (t.map i64) t.length e), (6, i64 ((ls.length : Nat) : Int)), (8, .ros ((tabQ Z H ls).map n64) (ls.length * ls.length) (some (ls.length * ls.length))), (9, i64 ((i : Nat) : Int)), (10, i64 ((k : Nat) : Int))], [], 0, []⟩) ⟨0, (by omega), noR_0, J, J⟩ id ⟨eD J J, eD J J, eD J J, eD J J, eD J J, trivial⟩ trivial J J J J (fun _ _ => J) ?_
        rintro _ _ ⟨k, hi2_0, hi2_1, rfl, rfl⟩
        refine W_seq J ?_
        refine Wsr J J ?_
        refine Rv J J J (U_move J) J J ?_
        refine Rv J J J (U_move J) J J ?_
        refine Rv J J J (U_lss J J) J J ?_
        refine Rt J ?_
        refine WcondP J J (fun hc5 => ?_) (fun hc5 => ?_)
        · have hck : k < i := by omega
          have hzk := zh_lt (Z := ls.length) (H := ls.length) (z := i) (h := k) hci (by omega)
          have htz : (tabQ Z H ls).length = ls.length * ls.length := by rw [tabQ, tabK_len]
          have hta := tab_at (Z := Z) (H := H) hci hck (by rw [tabQ, tabK_len]; exact hzk)
          refine W_skip J ?_
          refine thenQ_n ?_
          refine W_seq J ?_
          refine W_block J ?_
          refine W_seq J ?_
          refine Wjoin ⟨[(1, .ros (t.map i64) t.length e), (6, i64 ((ls.length : Nat) : Int)), (8, .ros ((tabQ Z H ls).map n64) (ls.length * ls.length) (some (ls.length * ls.length))), (9, i64 ((i : Nat) : Int)), (10, i64 ((k : Nat) : Int)), (72, .bool ((decide ((((tabQ Z H ls)[(i * ls.length + k)] : Nat) : Int) = (1 : Int))) && (decide (t[i] = t[k]))))], [], 0, []⟩ ?_ ?_
          · refine Wdraw J (by kernel_rfl) (by kernel_rfl) ?_
            refine Dv J J J (U_move J) J J ?_
            refine Dv J J J (U_move J) J J ?_
            refine Dv J J J (U_move J) J J ?_
            refine Dv J J J (U_mul J J (w64e (m := ((i * ls.length : Nat) : Int)) (by omega) (by omega) (by omega))) J J ?_
            refine Dv J J J (U_move J) J J ?_
            refine Dv J J J (U_add J J (w64e (m := ((i * ls.length + k : Nat) : Int)) (by omega) (by omega) (by omega))) J J ?_
            have hx3 : (i * ls.length + k) < (tabQ Z H ls).length := by rw [tabQ, tabK_len]; exact hzk
            refine Dv J J J (U_indexR (j := (i * ls.length + k)) J J J (by omega)) J J ?_
            refine Dv J J J (U_load1 J J (getM hx3)) J J ?_
            refine Dv J J J (U_eql J J) J J ?_
            refine Dv J J J (U_move J) J J ?_
            refine Dsplit (t := 62) J (fun hg4 => ?_) (fun hg4 => ?_)
            · rw [hg4]
              have hg4' : (((tabQ Z H ls)[(i * ls.length + k)] : Nat) : Int) = (1 : Int) := of_decide_eq_true hg4
              refine Dv J J J (U_move J) J J ?_
              refine Dv J J J (U_move J) J J ?_
              have hx5 : i < t.length := by omega
              refine Dv J J J (U_indexR (j := i) J J J hx5) J J ?_
              refine Dv J J J (U_load1 J J (getM hx5)) J J ?_
              refine Dv J J J (U_move J) J J ?_
              refine Dv J J J (U_move J) J J ?_
              have hx6 : k < t.length := by omega
              refine Dv J J J (U_indexR (j := k) J J J hx6) J J ?_
              refine Dv J J J (U_load1 J J (getM hx6)) J J ?_
              refine Dv J J J (U_eql J J) J J ?_
              refine Dv J J J (U_pick_t J J) J J ?_
              refine Dr.nil J ?_
              exact joinTo id ⟨eD J J, eD J J, eD J J, eD J J, eD J J, eD J J, trivial⟩ trivial J J J J (fun _ _ => J)
            · rw [hg4]
              have hg4' : ¬ ((((tabQ Z H ls)[(i * ls.length + k)] : Nat) : Int) = (1 : Int)) := of_decide_eq_false hg4
              refine Ds J J J J J ?_
              refine Ds J J J J J ?_
              refine Ds J J J J J ?_
              refine Ds J J J J J ?_
              refine Ds J J J J J ?_
              refine Ds J J J J J ?_
              refine Ds J J J J J ?_
              refine Ds J J J J J ?_
              refine Ds J J J J J ?_
              refine Dv J J J (U_pick_f J J) J J ?_
              refine Dr.nil J ?_
              exact joinTo id ⟨eD J J, eD J J, eD J J, eD J J, eD J J, eD J J, trivial⟩ trivial J J J J (fun _ _ => J)
          refine thenQ_n ?_
          refine Wcond J J (fun hc6 => ?_) (fun hc6 => ?_)
          · have hcc : nrQ Z H ls[i] ls[k] = true ∧ t[i] = t[k] := by simp at hc6; rw [hta] at hc6; refine ⟨?_, hc6.2⟩; by_cases e : nrQ Z H ls[i] ls[k] = true; exact e; rw [if_neg e] at hc6; omega
            have h19 := chtE_19 hc hlen hinl (cfl_true (i := i) (k := k) hlen hci hck hcc.2 hcc.1)
            refine Wsr J J ?_
            refine Rv J J J (U_assign J) J J ?_
            refine Rv J J J (U_assign J) J J ?_
            refine Rt J ?_
            refine W_ret J ?_
            refine blkQ_r ?_
            refine thenQ_r ?_
            refine thenQ_r ?_
            refine blkQ_r ?_
            refine blkQ_r ?_
            refine thenQ_r ?_
            refine thenQ_r ?_
            refine blkQ_r ?_
            refine thenQ_r ?_
            exact retL (rlT J (rlT J rl0)) (by first | rfl | (simp only [packA]; rw [h15.1, h15.2]; first | done | rfl) | (simp only [packA]; rw [h3.1, h3.2]; first | done | rfl) | (simp only [packA]; rw [h19.1, h19.2]; first | done | rfl) | (simp only [packA]; rw [h0.1, h0.2]; first | done | rfl)) J
          · have hc6' := Bool.eq_false_iff.1 hc6
            have hno : ¬ (t[i] = t[k] ∧ nrQ Z H ls[i] ls[k] = true) := by rintro ⟨h1, h2⟩; simp at hc6; rw [hta, if_pos h2] at hc6; exact hc6 rfl h1
            refine W_skip J ?_
            refine blkQ_n ?_
            refine thenQ_n ?_
            refine W_reg J ?_
            refine Rv J J J (U_move J) J J ?_
            refine Rv J J J (U_add J J (w64e (m := ((k + 1 : Nat) : Int)) (by omega) (by omega) (by omega))) J J ?_
            refine Rv J J J (U_assign J) J J ?_
            refine Rt J ?_
            exact againTo (T' := [(1, .ros (t.map i64) t.length e), (6, i64 ((ls.length : Nat) : Int)), (8, .ros ((tabQ Z H ls).map n64) (ls.length * ls.length) (some (ls.length * ls.length))), (9, i64 ((i : Nat) : Int)), (10, i64 (((k + 1) : Nat) : Int))]) (H' := []) (n := 0) (i - (k + 1)) ⟨k + 1, (by omega), (noR_succ hi2_1 (by omega) (by omega) hlen hno), J, J⟩ (by omega) id ⟨eD J J, eD J J, eD J J, eD J J, eD J J, trivial⟩ trivial J J J J (fun _ _ => J)
        · have hrow : noR Z H ls t i i := by rw [show k = i by omega] at hi2_1; exact hi2_1
          refine W_exit J ?_
          refine thenQ_x ?_
          refine thenQ_x ?_
          refine blkQ_x J ?_
          refine blkQ_n ?_
          refine thenQ_n ?_
          refine W_reg J ?_
          refine Rv J J J (U_move J) J J ?_
          refine Rv J J J (U_add J J (w64e (m := ((i + 1 : Nat) : Int)) (by omega) (by omega) (by omega))) J J ?_
          refine Rv J J J (U_assign J) J J ?_
          refine Rt J ?_
          exact againTo (T' := [(1, .ros (t.map i64) t.length e), (6, i64 ((ls.length : Nat) : Int)), (8, .ros ((tabQ Z H ls).map n64) (ls.length * ls.length) (some (ls.length * ls.length))), (9, i64 (((i + 1) : Nat) : Int))]) (H' := []) (n := 0) (ls.length - (i + 1)) ⟨i + 1, (by omega), (noC_succ hi1_1 hrow), J, J⟩ (by omega) id ⟨eD J J, eD J J, eD J J, eD J J, trivial⟩ trivial J J J J (fun _ _ => J)
      · have hcf := noC_all hlen (by rw [show ls.length = i by omega]; exact hi1_1)
        have h0 := chtE_0 hc hlen hinl hcf
        refine W_exit J ?_
        refine thenQ_x ?_
        refine thenQ_x ?_
        refine blkQ_x J ?_
        refine thenQ_n ?_
        refine Wsr J J ?_
        refine Rv J J J (U_move J) J J ?_
        refine Rv J J J (U_call J J (different_p t e (by first | assumption | omega | (simp; done) | (simp; omega))) J) J J ?_
        refine Rv J J J (U_assign J) J J ?_
        refine Rv J J J (U_assign J) J J ?_
        refine Rt J ?_
        refine W_ret J ?_
        exact retL (rlT J (rlT J rl0)) (by first | rfl | (simp only [packA]; rw [h15.1, h15.2]; first | done | rfl) | (simp only [packA]; rw [h3.1, h3.2]; first | done | rfl) | (simp only [packA]; rw [h19.1, h19.2]; first | done | rfl) | (simp only [packA]; rw [h0.1, h0.2]; first | done | rfl)) J
end Go.Proofs.Ythlolelbmhfdbaa
end

section
namespace Go.Proofs.Ythlolelbmhfdbaa
set_option maxRecDepth 20000
open Go.AE
def mostQ (ls : List (List Bx)) : Int := ls.foldl (fun m l => max m (l.length : Int)) 0
theorem mostQ_take {ls : List (List Bx)} {i : Nat} (hi : i < ls.length) : mostQ (ls.take (i + 1)) = max (mostQ (ls.take i)) (ls[i].length : Int) := by
  unfold mostQ; rw [List.take_succ_eq_append_getElem hi, List.foldl_append]; rfl
theorem mostF_ge {ls : List (List Bx)} : ∀ {m : Int}, m ≤ ls.foldl (fun m l => max m (l.length : Int)) m := by
  induction ls with
  | nil => intro m; exact Int.le_refl m
  | cons a l ih => intro m; exact Int.le_trans (Int.le_max_left m _) ih
theorem mostF_mem {ls : List (List Bx)} : ∀ {m : Int} {l : List Bx}, l ∈ ls → (l.length : Int) ≤ ls.foldl (fun m l => max m (l.length : Int)) m := by
  induction ls with
  | nil => intro m l h; cases h
  | cons a r ih =>
    intro m l h
    cases h with
    | head => exact Int.le_trans (Int.le_max_right m _) mostF_ge
    | tail _ h => exact ih h
theorem mostQ_mem {ls : List (List Bx)} {l : List Bx} (h : l ∈ ls) : (l.length : Int) ≤ mostQ ls := mostF_mem h
def grt (s : Sk) : Bool := decide (14 < s.ls.length) || (decide (610 < mostQ s.ls) || (decide (chkS s = 0) && (decide (120 < s.h * s.z) || decide (30 < mostQ s.ls))))
theorem chkS_hz {s : Sk} (h : chkS s = 0) : 1 ≤ s.h ∧ s.h ≤ 48 ∧ 1 ≤ s.z ∧ s.z ≤ 24 ∧ 1 ≤ s.h * s.z ∧ s.h * s.z ≤ 1152 := by
  obtain ⟨H, Z, e1, e2, hH, hZ, _⟩ := vs_of h
  have := Int.mul_le_mul (show s.h ≤ 48 by omega) (show s.z ≤ 24 by omega) (by omega) (by omega)
  have := Int.mul_pos (show 0 < s.h by omega) (show 0 < s.z by omega)
  omega
theorem grt_ls {s : Sk} (h : grt s = false) : s.ls.length ≤ 1000000 := by
  simp [grt] at h; omega
theorem grt_bl {s : Sk} (h : grt s = false) : ∀ l ∈ s.ls, l.length ≤ 1000000 := by
  intro l hl; have := mostQ_mem hl; simp [grt] at h; omega
theorem bl_most {ls : List (List Bx)} (h : mostQ ls ≤ 610) : ∀ l ∈ ls, l.length ≤ 1000000 := by
  intro l hl; have := mostQ_mem hl; omega
theorem great_p (s : Sk) (c : Option Nat) : Pure Try.prog 16 [.agg [i64 s.h, i64 s.z, landsA s.ls c]] (.bool (grt s)) := by
  refine pure_of_body Try.func16 (c := body Try.f16) J (by simp [Try.ntmps16]) fun w0 Φ0 => ?_
  refine Wsr J J ?_
  refine Rv J J J (U_boxF J J J) J J ?_
  refine Rv J J J (U_assign J) J J ?_
  refine Rt J ?_
  refine W_seq J ?_
  refine Wsr J J ?_
  refine Rv J J J (U_fieldAddrR J) J J ?_
  refine Rv J J J (U_load1 J J J) J J ?_
  refine Rv J J J (U_lenOf J len_ros) J J ?_
  refine Rv J J J (U_gtr J J) J J ?_
  refine Rt J ?_
  refine WcondP J J (fun hc0 => ?_) (fun hc0 => ?_)
  · refine Wsr J J ?_
    refine Rv J J J (U_assign J) J J ?_
    refine Rt J ?_
    refine W_ret J ?_
    refine thenQ_r ?_
    exact retL (rlT J rl0) (by first | rfl | (exact congrArg AV.bool (by unfold grt; first | (rw [show decide (14 < s.ls.length) = true from decide_eq_true (by omega)]; rfl) | (rw [show decide (14 < s.ls.length) = false from decide_eq_false (by omega), hmq, Bool.false_or])); done)) J
  · refine W_skip J ?_
    refine thenQ_n ?_
    refine Wsr J J ?_
    refine Rv J J J (U_assign J) J J ?_
    refine Rt J ?_
    refine W_seq J ?_
    refine Wsr J J ?_
    refine Rv J J J (U_assign J) J J ?_
    refine Rt J ?_
    refine W_block J ?_
    refine LoopTo (T' := [(1, .rop [i64 s.h, i64 s.z, .ros (s.ls.map boxesL) s.ls.length c] 0), (3, i64 0), (4, i64 ((0 : Nat) : Int))]) (H' := []) (n := 0) J (fun mz_ qz_ => ∃ (i : Nat) (m : Int), i ≤ s.ls.length ∧ m = mostQ (s.ls.take i) ∧ mz_ = s.ls.length - i ∧ qz_ = ⟨[(1, .rop [i64 s.h, i64 s.z, .ros (s.ls.map boxesL) s.ls.length c] 0), (3, i64 m), (4, i64 ((i : Nat) : Int))], [], 0, []⟩) ⟨0, 0, (by omega), J, J, J⟩ id ⟨eD J J, eD J J, eD J J, trivial⟩ trivial J J J J (fun _ _ => J) ?_
    rintro _ _ ⟨i, m, hi0_0, hi0_1, rfl, rfl⟩
    refine W_seq J ?_
    refine Wsr J J ?_
    refine Rv J J J (U_move J) J J ?_
    refine Rv J J J (U_fieldAddrR J) J J ?_
    refine Rv J J J (U_load1 J J J) J J ?_
    refine Rv J J J (U_lenOf J len_ros) J J ?_
    refine Rv J J J (U_lss J J) J J ?_
    refine Rt J ?_
    refine WcondP J J (fun hc1 => ?_) (fun hc1 => ?_)
    · refine W_skip J ?_
      refine thenQ_n ?_
      refine W_seq J ?_
      refine W_block J ?_
      refine W_reg J ?_
      refine Rv J J J (U_move J) J J ?_
      refine Rv J J J (U_fieldAddrR J) J J ?_
      refine Rv J J J (U_load1 J J J) J J ?_
      refine Rv J J J (U_move J) J J ?_
      have hx1 : i < s.ls.length := by omega
      refine Rv J J J (U_indexR (j := i) J J J hx1) J J ?_
      refine Rv J J J (U_load1 J J (getM hx1)) J J ?_
      refine Rv J J J (U_lenOf J len_ros) J J ?_
      refine Rv J J J (U_max J J J) J J ?_
      refine Rv J J J (U_assign J) J J ?_
      refine Re J ?_
      refine blkQ_n ?_
      refine thenQ_n ?_
      refine W_reg J ?_
      refine Rv J J J (U_move J) J J ?_
      refine Rv J J J (U_add J J (w64e (m := ((i + 1 : Nat) : Int)) (by omega) (by omega) (by omega))) J J ?_
      refine Rv J J J (U_assign J) J J ?_
      refine Rt J ?_
      exact againTo (T' := [(1, .rop [i64 s.h, i64 s.z, .ros (s.ls.map boxesL) s.ls.length c] 0), (3, i64 (max m ((s.ls[i].length : Nat) : Int))), (4, i64 (((i + 1) : Nat) : Int))]) (H' := []) (n := 0) (s.ls.length - (i + 1)) ⟨i + 1, max m ((s.ls[i].length : Nat) : Int), (by omega), (by rw [mostQ_take (by omega), ← hi0_1]), J, J⟩ (by omega) id ⟨eD J J, eD J J, eD J J, trivial⟩ trivial J J J J (fun _ _ => J)
    · have hmq : m = mostQ s.ls := by rw [hi0_1, show i = s.ls.length by omega, List.take_length]
      refine W_exit J ?_
      refine thenQ_x ?_
      refine thenQ_x ?_
      refine blkQ_x J ?_
      refine thenQ_n ?_
      refine W_seq J ?_
      refine Wjoin ⟨[(2, .bool ((decide (610 < m)) || ((decide ((chkS s) = 0)) && ((decide (120 < (s.h * s.z))) || (decide (30 < m))))))], [], 0, []⟩ ?_ ?_
      · refine W_reg J ?_
        refine Rv J J J (U_move J) J J ?_
        refine Rv J J J (U_gtr J J) J J ?_
        refine Rv J J J (U_move J) J J ?_
        refine Rsplit (t := 26) J (fun hg2 => ?_) (fun hg2 => ?_)
        · rw [hg2]
          have hg2' : 610 < m := of_decide_eq_true hg2
          refine Rs J J J J J ?_
          refine Rs J J J J J ?_
          refine Rs J J J J J ?_
          refine Rs J J J J J ?_
          refine Rs J J J J J ?_
          refine Rs J J J J J ?_
          refine Rs J J J J J ?_
          refine Rs J J J J J ?_
          refine Rs J J J J J ?_
          refine Rs J J J J J ?_
          refine Rs J J J J J ?_
          refine Rs J J J J J ?_
          refine Rs J J J J J ?_
          refine Rs J J J J J ?_
          refine Rs J J J J J ?_
          refine Rv J J J (U_pick_t J J) J J ?_
          refine Rv J J J (U_assign J) J J ?_
          refine Re J ?_
          exact joinTo id ⟨eD J J, trivial⟩ trivial J J J J (fun _ _ => J)
        · rw [hg2]
          have hg2' : ¬ (610 < m) := of_decide_eq_false hg2
          have hbl := bl_most (ls := s.ls) (by omega)
          have hl : s.ls.length ≤ 1000000 := by omega
          refine Rv J J J (U_load3 J J J J J) J J ?_
          refine Rv J J J (U_call J J (chkSR_p s c hl hbl) J) J J ?_
          refine Rv J J J (U_eql J J) J J ?_
          refine Rv J J J (U_move J) J J ?_
          refine Rsplit (t := 30) J (fun hg3 => ?_) (fun hg3 => ?_)
          · rw [hg3]
            have hg3' : (chkS s) = 0 := of_decide_eq_true hg3
            have hhz := chkS_hz hg3'
            refine Rv J J J (U_fieldAddrR J) J J ?_
            refine Rv J J J (U_load1 J J J) J J ?_
            refine Rv J J J (U_fieldAddrR J) J J ?_
            refine Rv J J J (U_load1 J J J) J J ?_
            refine Rv J J J (U_mul J J (w64 (by omega) (by omega))) J J ?_
            refine Rv J J J (U_gtr J J) J J ?_
            refine Rv J J J (U_move J) J J ?_
            refine Rsplit (t := 37) J (fun hg4 => ?_) (fun hg4 => ?_)
            · rw [hg4]
              have hg4' : 120 < (s.h * s.z) := of_decide_eq_true hg4
              refine Rs J J J J J ?_
              refine Rs J J J J J ?_
              refine Rv J J J (U_pick_t J J) J J ?_
              refine Rv J J J (U_pick_t J J) J J ?_
              refine Rv J J J (U_pick_f J J) J J ?_
              refine Rv J J J (U_assign J) J J ?_
              refine Re J ?_
              exact joinTo id ⟨eD J J, trivial⟩ trivial J J J J (fun _ _ => J)
            · rw [hg4]
              have hg4' : ¬ (120 < (s.h * s.z)) := of_decide_eq_false hg4
              refine Rv J J J (U_move J) J J ?_
              refine Rv J J J (U_gtr J J) J J ?_
              refine Rv J J J (U_pick_f J J) J J ?_
              refine Rv J J J (U_pick_t J J) J J ?_
              refine Rv J J J (U_pick_f J J) J J ?_
              refine Rv J J J (U_assign J) J J ?_
              refine Re J ?_
              exact joinTo id ⟨eD J J, trivial⟩ trivial J J J J (fun _ _ => J)
          · rw [hg3]
            have hg3' : ¬ ((chkS s) = 0) := of_decide_eq_false hg3
            refine Rs J J J J J ?_
            refine Rs J J J J J ?_
            refine Rs J J J J J ?_
            refine Rs J J J J J ?_
            refine Rs J J J J J ?_
            refine Rs J J J J J ?_
            refine Rs J J J J J ?_
            refine Rs J J J J J ?_
            refine Rs J J J J J ?_
            refine Rs J J J J J ?_
            refine Rv J J J (U_pick_f J J) J J ?_
            refine Rv J J J (U_pick_f J J) J J ?_
            refine Rv J J J (U_assign J) J J ?_
            refine Re J ?_
            exact joinTo id ⟨eD J J, trivial⟩ trivial J J J J (fun _ _ => J)
      refine thenQ_n ?_
      refine W_ret J ?_
      exact retL (rlT J rl0) (by first | rfl | (exact congrArg AV.bool (by unfold grt; first | (rw [show decide (14 < s.ls.length) = true from decide_eq_true (by omega)]; rfl) | (rw [show decide (14 < s.ls.length) = false from decide_eq_false (by omega), hmq, Bool.false_or])); done)) J
theorem fine_p (s : Sk) (c : Option Nat) : Pure Try.prog 47 [.agg [i64 s.h, i64 s.z, landsA s.ls c]] (.bool (!grt s && decide (chkS s = 0))) := by
  refine pure_of_body Try.func47 (c := body Try.f47) J (by simp [Try.ntmps47]) fun w0 Φ0 => ?_
  refine Wsr J J ?_
  refine Rv J J J (U_boxF J J J) J J ?_
  refine Rv J J J (U_assign J) J J ?_
  refine Rt J ?_
  refine W_seq J ?_
  refine Wjoin ⟨[(2, .bool ((!(grt s)) && (decide ((chkS s) = 0))))], [], 0, []⟩ ?_ ?_
  · refine W_reg J ?_
    refine Rv J J J (U_load3 J J J J J) J J ?_
    refine Rv J J J (U_call J J (great_p s c) J) J J ?_
    refine Rv J J J (U_not J) J J ?_
    refine Rv J J J (U_move J) J J ?_
    refine Rsplit (t := 6) J (fun hg1 => ?_) (fun hg1 => ?_)
    · rw [hg1]
      have hgr : grt s = false := by simpa using hg1
      have hl := grt_ls hgr
      have hbl := grt_bl hgr
      refine Rv J J J (U_load3 J J J J J) J J ?_
      refine Rv J J J (U_call J J (chkSR_p s c hl hbl) J) J J ?_
      refine Rv J J J (U_eql J J) J J ?_
      refine Rv J J J (U_pick_t J J) J J ?_
      refine Rv J J J (U_assign J) J J ?_
      refine Re J ?_
      exact joinTo id ⟨eD J J, trivial⟩ trivial J J J J (fun _ _ => J)
    · rw [hg1]
      refine Rs J J J J J ?_
      refine Rs J J J J J ?_
      refine Rs J J J J J ?_
      refine Rv J J J (U_pick_f J J) J J ?_
      refine Rv J J J (U_assign J) J J ?_
      refine Re J ?_
      exact joinTo id ⟨eD J J, trivial⟩ trivial J J J J (fun _ _ => J)
  refine thenQ_n ?_
  refine W_ret J ?_
  exact retL (rlT J rl0) J J
end Go.Proofs.Ythlolelbmhfdbaa
end

section
namespace Go.Proofs.Ythlolelbmhfdbaa
open Go Go.AE Go.Proofs
theorem rd5 : Reads Try.prog 5 fun vs => ∃ n, (0 ≤ n ∧ n ≤ 255) ∧ vs = [.int .u8 n] := Reads.int Try.underlying5
theorem rd5b : Reads Try.prog 5 fun vs => ∃ n : Nat, n < 256 ∧ vs = [.int .u8 (n : Nat)] := rd5.mono fun vs ⟨n, h, e⟩ => ⟨n.toNat, by omega, by rw [e, Int.toNat_of_nonneg h.1]⟩
end Go.Proofs.Ythlolelbmhfdbaa
end

section
namespace Go.Proofs.Ythlolelbmhfdbaa
open Go Go.AE Go.Proofs
theorem rd58 : Reads Try.prog 58 fun vs => ∃ l : List Nat, ((∀ e ∈ l, e < 256) ∧ l.length ≤ maxLen) ∧ vs = [.ros (l.map fun n : Nat => .int .u8 n) l.length none] :=
  (Reads.slice Try.underlying58 (z := 1) (by kernel_rfl) (by decide) rd5b).mono fun vs ⟨ls, h, hn, e⟩ => by
    obtain ⟨xs, h1, rfl⟩ := all_map h
    exact ⟨xs, ⟨h1, by simpa using hn⟩, by rw [e, flat_one, List.length_map]⟩
theorem inp58 : ArgR Try.prog 58 fun a => ∃ l : List Nat, ((∀ e ∈ l, e < 256) ∧ l.length ≤ maxLen) ∧ a = .ros (l.map fun n : Nat => .int .u8 n) l.length none :=
  ArgR.slice Try.underlying58 (rd58.mono fun _ ⟨l, h, e⟩ => ⟨_, ⟨l, h, rfl⟩, e⟩)
end Go.Proofs.Ythlolelbmhfdbaa
end

section
namespace Go.Proofs.Ythlolelbmhfdbaa
set_option maxRecDepth 20000
open Go.AE
theorem plcQ_mem {Z H : Nat} {p : Nat × Nat} : p ∈ plcQ Z H ↔ p.1 < Z ∧ p.2 < H := by
  refine ⟨plcQ_in, fun h => ?_⟩
  refine List.mem_map.2 ⟨p.1 * H + p.2, List.mem_range.2 ?_, ?_⟩
  · have := Nat.mul_le_mul_right H (show p.1 + 1 ≤ Z from h.1)
    rw [Nat.add_mul] at this; omega
  · have hH : 0 < H := by omega
    rw [Nat.mul_comm, Nat.mul_add_div hH, Nat.mul_add_mod, Nat.div_eq_of_lt h.2, Nat.mod_eq_of_lt h.2]; simp
def adjQ (Z H : Nat) (p q : Nat × Nat) : Nat :=
  (if 1 < H ∧ q = (p.1, (p.2 + 1) % H) then 1 else 0) + (if 2 < H ∧ q = (p.1, (p.2 + H - 1) % H) then 1 else 0) + (if 0 < p.1 ∧ q = (p.1 - 1, p.2) then 1 else 0) + (if p.1 + 1 < Z ∧ q = (p.1 + 1, p.2) then 1 else 0)
theorem succ_mod {h H : Nat} (hh : h < H) : (h + 1) % H = if h + 1 < H then h + 1 else 0 := by
  split
  · exact Nat.mod_eq_of_lt ‹_›
  · rw [show h + 1 = H by omega, Nat.mod_self]
theorem pred_mod {h H : Nat} (hh : h < H) : (h + H - 1) % H = if 0 < h then h - 1 else H - 1 := by
  split
  · rw [show h + H - 1 = h - 1 + H by omega, Nat.add_mod_right, Nat.mod_eq_of_lt (by omega)]
  · rw [show h + H - 1 = H - 1 by omega, Nat.mod_eq_of_lt (by omega)]
theorem iteE {c d : Prop} [Decidable c] [Decidable d] (h : c ↔ d) : (if c then 1 else 0 : Nat) = if d then 1 else 0 := by
  by_cases e : c
  · rw [if_pos e, if_pos (h.1 e)]
  · rw [if_neg e, if_neg fun k => e (h.2 k)]
theorem adjQ_comm {Z H : Nat} {p q : Nat × Nat} (hp : p.1 < Z ∧ p.2 < H) (hq : q.1 < Z ∧ q.2 < H) : adjQ Z H p q = adjQ Z H q p := by
  obtain ⟨z, h⟩ := p; obtain ⟨y, g⟩ := q
  simp only at hp hq
  unfold adjQ
  simp only [Prod.mk.injEq, succ_mod hp.2, succ_mod hq.2, pred_mod hp.2, pred_mod hq.2]
  have e1 : (if 0 < z ∧ y = z - 1 ∧ g = h then 1 else 0) = if y + 1 < Z ∧ z = y + 1 ∧ h = g then 1 else 0 := by
    have : (0 < z ∧ y = z - 1 ∧ g = h) ↔ (y + 1 < Z ∧ z = y + 1 ∧ h = g) := by omega
    simp only [this]
  have e2 : (if z + 1 < Z ∧ y = z + 1 ∧ g = h then 1 else 0) = if 0 < y ∧ z = y - 1 ∧ h = g then 1 else 0 := by
    have : (z + 1 < Z ∧ y = z + 1 ∧ g = h) ↔ (0 < y ∧ z = y - 1 ∧ h = g) := by omega
    simp only [this]
  rw [e1, e2]
  have e3 : (if 1 < H ∧ y = z ∧ g = (if h + 1 < H then h + 1 else 0) then 1 else 0) + (if 2 < H ∧ y = z ∧ g = (if 0 < h then h - 1 else H - 1) then 1 else 0) = (if 1 < H ∧ z = y ∧ h = (if g + 1 < H then g + 1 else 0) then 1 else 0) + (if 2 < H ∧ z = y ∧ h = (if 0 < g then g - 1 else H - 1) then 1 else 0) := by
    by_cases e : y = z
    · subst e
      by_cases h2 : 2 < H
      · have a1 : (1 < H ∧ y = y ∧ g = (if h + 1 < H then h + 1 else 0)) ↔ (2 < H ∧ y = y ∧ h = (if 0 < g then g - 1 else H - 1)) := by split <;> split <;> omega
        have a2 : (2 < H ∧ y = y ∧ g = (if 0 < h then h - 1 else H - 1)) ↔ (1 < H ∧ y = y ∧ h = (if g + 1 < H then g + 1 else 0)) := by split <;> split <;> omega
        have b1 := iteE a1; have b2 := iteE a2
        omega
      · have a1 : (1 < H ∧ y = y ∧ g = (if h + 1 < H then h + 1 else 0)) ↔ (1 < H ∧ y = y ∧ h = (if g + 1 < H then g + 1 else 0)) := by split <;> split <;> omega
        have b1 := iteE a1
        have b2 : (if 2 < H ∧ y = y ∧ g = (if 0 < h then h - 1 else H - 1) then 1 else 0 : Nat) = 0 := if_neg fun h => h2 h.1
        have b3 : (if 2 < H ∧ y = y ∧ h = (if 0 < g then g - 1 else H - 1) then 1 else 0 : Nat) = 0 := if_neg fun h => h2 h.1
        omega
    · rw [if_neg fun h => e h.2.1, if_neg fun h => e h.2.1, if_neg fun h => e h.2.1.symm, if_neg fun h => e h.2.1.symm]
  omega
end Go.Proofs.Ythlolelbmhfdbaa
end

section
namespace Go.Proofs.Ythlolelbmhfdbaa
set_option maxRecDepth 20000
open Go.AE
theorem sk_ok {s : Sk} (h : chkS s = 0) : ∃ (H Z : Nat) (ls : List (List Bx)), s = ⟨H, Z, ls⟩ ∧ VS ⟨H, Z, ls⟩ H Z := by
  obtain ⟨H, Z, hv⟩ := vs_of h
  obtain ⟨h', z', ls⟩ := s
  have e1 := hv.h; have e2 := hv.z
  simp only at e1 e2
  subst e1; subst e2
  exact ⟨H, Z, ls, rfl, hv⟩
theorem fineF_p (s : Sk) (c : Option Nat) (h : (!grt s && decide (chkS s = 0)) = false) : Pure Try.prog 47 [.agg [i64 s.h, i64 s.z, landsA s.ls c]] (.bool false) := by
  have := fine_p s c; rwa [h] at this
theorem fineT_p (H Z : Nat) (ls : List (List Bx)) (c : Option Nat) (hg : grt ⟨H, Z, ls⟩ = false) (hc : chkS ⟨H, Z, ls⟩ = 0) : Pure Try.prog 47 [.agg [i64 (H : Nat), i64 (Z : Nat), landsA ls c]] (.bool true) := by
  have := fine_p ⟨H, Z, ls⟩ c; rwa [hg, hc] at this
end Go.Proofs.Ythlolelbmhfdbaa
end

section
namespace Go.Proofs.Ythlolelbmhfdbaa
set_option maxRecDepth 20000
open Go.AE
section
variable {H z h f : Nat} {p : Nat → Bool} {P : Nat → Nat → Bool}
theorem least (q : Nat → Bool) : ∀ n, (∀ j, j < n → q j = true) ∨ ∃ d, d < n ∧ q d = false ∧ ∀ j, j < d → q j = true
  | 0 => .inl fun j h => by omega
  | n + 1 => by
    rcases least q n with h | ⟨d, h1, h2, h3⟩
    · cases e : q n with
      | false => exact .inr ⟨n, by omega, e, h⟩
      | true =>
        refine .inl fun j hj => ?_
        by_cases e2 : j = n
        · subst e2; exact e
        · exact h j (by omega)
    · exact .inr ⟨d, by omega, h2, h3⟩
end
end Go.Proofs.Ythlolelbmhfdbaa
end

section
namespace Go.Proofs.Ythlolelbmhfdbaa
set_option maxRecDepth 20000
open Go.AE
section
variable {Z H : Nat} {l l' m m' : List Bx} {ls ls' : List (List Bx)}
structure Eqs (H : Nat) (ls' ls : List (List Bx)) : Prop where
  len : ls'.length = ls.length
  eq : ∀ i, inL' (ls'.getD i []) H = inL' (ls.getD i []) H
theorem Eqs.at (h : Eqs H ls' ls) {i : Nat} (h1 : i < ls'.length) (h2 : i < ls.length) : inL' ls'[i] H = inL' ls[i] H := by
  have := h.eq i
  simpa [List.getD_eq_getElem?_getD, List.getElem?_eq_getElem, h1, h2] using this
end
end Go.Proofs.Ythlolelbmhfdbaa
end

section
namespace Go.Proofs.Ythlolelbmhfdbaa
set_option maxRecDepth 20000
open Go.AE
abbrev Pl2 := Nat × Nat
def inP (Z H : Nat) (la : List Bx) (p : Pl2) : Prop := (p.1 < Z ∧ p.2 < H) ∧ inL' la H p.1 p.2 = true
inductive Con (Z H : Nat) (la : List Bx) (p : Pl2) : Pl2 → Prop
  | refl : Con Z H la p p
  | step {q r : Pl2} : Con Z H la p q → r ∈ bsP Z H q.1 q.2 → inL' la H r.1 r.2 = true → Con Z H la p r
section
variable {Z H : Nat} {la : List Bx} {S : List Pl2}
theorem adj_mem {p q : Pl2} : q ∈ bsP Z H p.1 p.2 ↔ adjQ Z H p q ≠ 0 := by
  have one : ∀ (c : Prop) [Decidable c] (x : Pl2), q ∈ (if c then [x] else []) ↔ (if c ∧ q = x then 1 else 0 : Nat) ≠ 0 := by
    intro c _ x
    by_cases h : c <;> by_cases h2 : q = x <;> simp [h, h2]
  unfold bsP adjQ
  simp only [List.mem_append, one]
  omega
theorem bsP_comm {p q : Pl2} (hp : p.1 < Z ∧ p.2 < H) (h : q ∈ bsP Z H p.1 p.2) : p ∈ bsP Z H q.1 q.2 := by
  have hq := bsP_in hp.1 hp.2 q h
  rw [adj_mem] at h ⊢
  rwa [adjQ_comm hq hp]
theorem Con.inn {p q : Pl2} (hp : inP Z H la p) (h : Con Z H la p q) : inP Z H la q := by
  induction h with
  | refl => exact hp
  | step _ h1 h2 ih => exact ⟨bsP_in ih.1.1 ih.1.2 _ h1, h2⟩
theorem Con.trans {p q r : Pl2} (h : Con Z H la p q) (h2 : Con Z H la q r) : Con Z H la p r := by
  induction h2 with
  | refl => exact h
  | step _ a b ih => exact .step ih a b
theorem Con.symm {p q : Pl2} (hp : inP Z H la p) (h : Con Z H la p q) : Con Z H la q p := by
  induction h with
  | refl => exact .refl
  | @step q r h1 a b ih =>
    have hq := h1.inn hp
    exact (Con.step .refl (bsP_comm hq.1 a) hq.2).trans ih
def closed (Z H : Nat) (la : List Bx) (S : List Pl2) (k : Nat) : Prop := ∀ i (hi : i < S.length), i < k → ∀ q ∈ bsP Z H S[i].1 S[i].2, inL' la H q.1 q.2 = true → q ∈ S
theorem Con.stay {p q : Pl2} (hc : closed Z H la S S.length) (hp : p ∈ S) (h : Con Z H la p q) : q ∈ S := by
  induction h with
  | refl => exact hp
  | step _ a b ih =>
    obtain ⟨i, hi, e⟩ := List.getElem_of_mem ih
    exact hc i hi hi _ (by rw [e]; exact a) b
structure Grow (Z H : Nat) (la : List Bx) (s : Pl2) (S S' : List Pl2) : Prop where
  pre : ∃ N, S' = S ++ N
  con : ∀ q ∈ S', q ∈ S ∨ Con Z H la s q
theorem Grow.refl {s : Pl2} : Grow Z H la s S S := ⟨⟨[], by simp⟩, fun q h => .inl h⟩
theorem Grow.trans {s : Pl2} {S' S'' : List Pl2} (h : Grow Z H la s S S') (h2 : Grow Z H la s S' S'') : Grow Z H la s S S'' := by
  obtain ⟨N, e⟩ := h.pre; obtain ⟨M, e2⟩ := h2.pre
  exact ⟨⟨N ++ M, by rw [e2, e, List.append_assoc]⟩, fun q hq => (h2.con q hq).elim (h.con q) .inr⟩
theorem add_grow {s q : Pl2} (hq : inL' la H q.1 q.2 = true → Con Z H la s q) : Grow Z H la s S (addQ H la S q) := by
  unfold addQ; split
  · rename_i h
    exact ⟨⟨[q], rfl⟩, fun r hr => (List.mem_append.1 hr).imp id fun h2 => by rw [List.mem_singleton.1 h2]; exact hq h.1⟩
  · exact .refl
theorem add_has {q : Pl2} (hq : inL' la H q.1 q.2 = true) : q ∈ addQ H la S q := by
  unfold addQ; split
  · simp
  · rename_i h
    have : S.contains q = true := by
      cases e : S.contains q with
      | true => rfl
      | false => exact absurd ⟨hq, e⟩ h
    simpa using this
theorem fold_grow {s : Pl2} : ∀ {l : List Pl2} {S : List Pl2}, (∀ q ∈ l, inL' la H q.1 q.2 = true → Con Z H la s q) → Grow Z H la s S (l.foldl (addQ H la) S)
  | [], S, _ => .refl
  | a :: l, S, h => (add_grow (S := S) (h a (.head _))).trans (fold_grow (l := l) fun q hq => h q (.tail _ hq))
theorem fold_pre {x : Pl2} : ∀ {l : List Pl2} {S : List Pl2}, x ∈ S → x ∈ l.foldl (addQ H la) S
  | [], _, h => h
  | b :: l, S, h => by
    refine fold_pre (l := l) ?_
    unfold addQ; split
    · exact List.mem_append_left _ h
    · exact h
theorem fold_has : ∀ {l : List Pl2} {S : List Pl2} (q : Pl2), q ∈ l → inL' la H q.1 q.2 = true → q ∈ l.foldl (addQ H la) S
  | [], _, _, h, _ => absurd h List.not_mem_nil
  | a :: l, S, q, h, hq => by
    rcases List.mem_cons.1 h with rfl | h
    · show q ∈ l.foldl (addQ H la) (addQ H la S q)
      exact fold_pre (l := l) (add_has hq)
    · exact fold_has (l := l) q h hq
theorem exp_grow {s p : Pl2} (hp : Con Z H la s p) : Grow Z H la s S (expQ Z H la S p) := fold_grow fun q hq h => .step hp hq h
theorem exp_has {p q : Pl2} (hq : q ∈ bsP Z H p.1 p.2) (h : inL' la H q.1 q.2 = true) : q ∈ expQ Z H la S p := fold_has q hq h
theorem run_grow : ∀ (f : Nat) {S : List Pl2} {k n0 : Nat} {s : Pl2}, PcOk Z H S → (∀ i (hi : i < S.length), n0 ≤ i → Con Z H la s S[i]) → n0 ≤ k → closed Z H la S k → Z * H ≤ f + k → Grow Z H la s S (runQ Z H la f S k) ∧ closed Z H la (runQ Z H la f S k) (runQ Z H la f S k).length
  | 0, S, k, n0, s, hok, hcn, hk, hcl, hf => by
    have := hok.len
    have e : runQ Z H la 0 S k = S := rfl
    rw [e]
    exact ⟨.refl, fun i hi h2 => hcl i hi (by omega)⟩
  | f + 1, S, k, n0, s, hok, hcn, hk, hcl, hf => by
    by_cases h : k < S.length
    · rw [runQ_step h]
      have hg : Grow Z H la s S (expQ Z H la S S[k]) := exp_grow (hcn k h hk)
      obtain ⟨N, e⟩ := hg.pre
      have hok' : PcOk Z H (expQ Z H la S S[k]) := hok.exp (hok.pl _ (List.getElem_mem h))
      have ih := run_grow f (S := expQ Z H la S S[k]) (k := k + 1) (n0 := n0) (s := s) hok' (fun i hi h2 => by
        have hnd := hok'.nd
        by_cases hlt : i < S.length
        · have : (expQ Z H la S S[k])[i] = S[i] := by simp only [e]; rw [List.getElem_append_left hlt]
          rw [this]; exact hcn i hlt h2
        · rcases hg.con _ (List.getElem_mem hi) with h3 | h3
          · exfalso
            simp only [e] at h3 hnd hi
            rw [List.getElem_append_right (by omega)] at h3
            have hi' : i - S.length < N.length := by rw [List.length_append] at hi; omega
            exact (List.nodup_append.1 hnd).2.2 _ h3 _ (List.getElem_mem hi') rfl
          · exact h3) (by omega) (fun i hi h2 q hq hin => by
        by_cases e2 : i = k
        · subst e2
          have e3 : (expQ Z H la S S[i])[i] = S[i] := by simp only [e]; rw [List.getElem_append_left h]
          rw [e3] at hq
          exact exp_has hq hin
        · have hlt : i < S.length := by omega
          have e3 : (expQ Z H la S S[k])[i] = S[i] := by simp only [e]; rw [List.getElem_append_left hlt]
          rw [e3] at hq
          have := hcl i hlt (by omega) q hq hin
          rw [e]; exact List.mem_append_left _ this) (by omega)
      exact ⟨hg.trans ih.1, ih.2⟩
    · rw [runQ_end (by omega)]
      exact ⟨.refl, fun i hi h2 => hcl i hi (by omega)⟩
structure Pcs (Z H : Nat) (la : List Bx) (S : List Pl2) (n i : Nat) : Prop where
  inn : ∀ p ∈ S, inP Z H la p
  cl : closed Z H la S S.length
  rep : ∃ R : List Pl2, R.length = n ∧ (∀ r ∈ R, r ∈ S) ∧ R.Pairwise (fun a b => ¬ Con Z H la a b) ∧ ∀ p ∈ S, ∃ r ∈ R, Con Z H la r p
  all : ∀ j (hj : j < (plcQ Z H).length), j < i → inL' la H (plcQ Z H)[j].1 (plcQ Z H)[j].2 = true → (plcQ Z H)[j] ∈ S
theorem pcs_K : ∀ i, i ≤ (plcQ Z H).length → Pcs Z H la (pieK Z H la i).1 (pieK Z H la i).2 i
  | 0, _ => ⟨fun p h => absurd h List.not_mem_nil, fun i hi => absurd hi (Nat.not_lt_zero _), ⟨[], rfl, fun r h => absurd h List.not_mem_nil, .nil, fun p h => absurd h List.not_mem_nil⟩, fun j _ h => absurd h (Nat.not_lt_zero _)⟩
  | i + 1, h => by
    have hi : i < (plcQ Z H).length := by omega
    have ih := pcs_K i (by omega)
    have hok := pieK_ok (Z := Z) (H := H) (la := la) i
    by_cases hc : inL' la H (plcQ Z H)[i].1 (plcQ Z H)[i].2 = true ∧ (pieK Z H la i).1.contains (plcQ Z H)[i] = false
    · rw [pieK_t hi hc]
      generalize hS : (pieK Z H la i).1 = S at *
      generalize hn : (pieK Z H la i).2 = n at *
      have hpi : inP Z H la (plcQ Z H)[i] := ⟨plcQ_in (List.getElem_mem hi), hc.1⟩
      have hnot : (plcQ Z H)[i] ∉ S := by simpa using hc.2
      generalize hs : (plcQ Z H)[i] = s at hc hpi hnot ⊢
      have hok2 := hok.snoc hpi.1 hc.2
      obtain ⟨hg, hcl⟩ := run_grow (Z := Z) (H := H) (la := la) (Z * H) (S := S ++ [s]) (k := S.length) (n0 := S.length) (s := s) hok2 (fun j hj h2 => by
        rw [List.length_append, List.length_singleton] at hj
        have : j = S.length := by omega
        subst this
        rw [List.getElem_append_right (Nat.le_refl _)]; simp; exact .refl) (Nat.le_refl _) (fun j hj h2 q hq hin => by
        have e : (S ++ [s])[j] = S[j] := List.getElem_append_left h2
        rw [e] at hq
        exact List.mem_append_left _ (ih.cl j h2 h2 q hq hin)) (by omega)
      generalize runQ Z H la (Z * H) (S ++ [s]) S.length = S' at *
      have hsub : ∀ p ∈ S ++ [s], p ∈ S' := fun p hp => by obtain ⟨N, e⟩ := hg.pre; rw [e]; exact List.mem_append_left _ hp
      have hcases : ∀ p ∈ S', p ∈ S ∨ Con Z H la s p := fun p hp => by
        rcases hg.con p hp with h1 | h1
        · rcases List.mem_append.1 h1 with h2 | h2
          · exact .inl h2
          · rw [List.mem_singleton.1 h2]; exact .inr .refl
        · exact .inr h1
      obtain ⟨R, r1, r2, r3, r4⟩ := ih.rep
      refine ⟨fun p hp => (hcases p hp).elim (ih.inn p) fun h1 => h1.inn hpi, hcl, ⟨R ++ [s], by rw [List.length_append, r1]; rfl, fun r hr => ?_, ?_, fun p hp => ?_⟩, fun j hj h2 h3 => ?_⟩
      · rcases List.mem_append.1 hr with h1 | h1
        · exact hsub _ (List.mem_append_left _ (r2 r h1))
        · exact hsub _ (List.mem_append_right _ h1)
      · rw [List.pairwise_append]
        refine ⟨r3, List.pairwise_singleton _ _, fun a ha b hb => ?_⟩
        rw [List.mem_singleton.1 hb]
        exact fun hcon => hnot (hcon.stay ih.cl (r2 a ha))
      · rcases hcases p hp with h1 | h1
        · obtain ⟨r, hr, h2⟩ := r4 p h1
          exact ⟨r, List.mem_append_left _ hr, h2⟩
        · exact ⟨s, List.mem_append_right _ (List.mem_singleton.2 rfl), h1⟩
      · by_cases e : j = i
        · subst e; rw [hs]; exact hsub _ (List.mem_append_right _ (List.mem_singleton.2 rfl))
        · exact hsub _ (List.mem_append_left _ (ih.all j hj (by omega) h3))
    · rw [pieK_f hi hc]
      refine ⟨ih.inn, ih.cl, ih.rep, fun j hj h2 h3 => ?_⟩
      by_cases e : j = i
      · subst e
        cases e2 : (pieK Z H la j).1.contains (plcQ Z H)[j] with
        | true => simpa using e2
        | false => exact absurd ⟨h3, e2⟩ hc
      · exact ih.all j hj (by omega) h3
end
end Go.Proofs.Ythlolelbmhfdbaa
end

section
namespace Go.Proofs.Ythlolelbmhfdbaa
set_option maxRecDepth 20000
open Go.AE
abbrev rng (Z H : Nat) (p : Pl2) : Prop := p.1 < Z ∧ p.2 < H
structure Turn (Z H : Nat) (t u : Pl2 → Pl2) : Prop where
  it : ∀ p, rng Z H p → rng Z H (t p)
  iu : ∀ p, rng Z H p → rng Z H (u p)
  ut : ∀ p, rng Z H p → u (t p) = p
  tu : ∀ p, rng Z H p → t (u p) = p
  adj : ∀ p q, rng Z H p → rng Z H q → adjQ Z H (t p) (t q) = adjQ Z H p q
theorem Turn.inv {Z H : Nat} {t u : Pl2 → Pl2} (h : Turn Z H t u) : Turn Z H u t :=
  ⟨h.iu, h.it, h.tu, h.ut, fun p q hp hq => by rw [← h.adj _ _ (h.iu p hp) (h.iu q hq), h.tu p hp, h.tu q hq]⟩
theorem Turn.comp {Z H : Nat} {t u t' u' : Pl2 → Pl2} (h : Turn Z H t u) (h2 : Turn Z H t' u') : Turn Z H (fun p => t (t' p)) (fun p => u' (u p)) :=
  ⟨fun p hp => h.it _ (h2.it p hp), fun p hp => h2.iu _ (h.iu p hp), fun p hp => by rw [h.ut _ (h2.it p hp), h2.ut p hp], fun p hp => by rw [h2.tu _ (h.iu p hp), h.tu p hp], fun p q hp hq => by rw [h.adj _ _ (h2.it p hp) (h2.it q hq), h2.adj p q hp hq]⟩
def Trnd (Z H : Nat) (t : Pl2 → Pl2) (la lb : List Bx) : Prop := ∀ p, rng Z H p → inL' lb H p.1 p.2 = inL' la H (t p).1 (t p).2
theorem Trnd.inv {Z H : Nat} {t u : Pl2 → Pl2} {la lb : List Bx} (ht : Turn Z H t u) (h : Trnd Z H t la lb) : Trnd Z H u lb la := fun p hp => by
  rw [h _ (ht.iu p hp), ht.tu p hp]
section
variable {Z H : Nat} {t u : Pl2 → Pl2} {la lb lc ld : List Bx}
end
structure Trns (Z H : Nat) (t : Pl2 → Pl2) (ls ls' : List (List Bx)) : Prop where
  len : ls'.length = ls.length
  at_ : ∀ i (h1 : i < ls.length) (h2 : i < ls'.length), Trnd Z H t ls[i] ls'[i]
section
variable {Z H : Nat} {t u : Pl2 → Pl2} {ls ls' : List (List Bx)}
theorem Trns.getD (h : Trns Z H t ls ls') (i : Nat) : Trnd Z H t (ls.getD i []) (ls'.getD i []) := by
  by_cases hi : i < ls.length
  · have hi2 : i < ls'.length := by rw [h.len]; exact hi
    have := h.at_ i hi hi2
    simpa [List.getD_eq_getElem?_getD, List.getElem?_eq_getElem, hi, hi2] using this
  · have e1 : ls.getD i [] = [] := by simp [List.getD_eq_getElem?_getD, List.getElem?_eq_none (show ls.length ≤ i by omega)]
    have e2 : ls'.getD i [] = [] := by simp [List.getD_eq_getElem?_getD, List.getElem?_eq_none (show ls'.length ≤ i by rw [h.len]; omega)]
    rw [e1, e2]; intro p hp; simp [inL']
end
end Go.Proofs.Ythlolelbmhfdbaa
end

section
namespace Go.Proofs.Ythlolelbmhfdbaa
set_option maxRecDepth 20000
open Go.AE
theorem Trnd.comp {Z H : Nat} {t t' : Pl2 → Pl2} {la lb lc : List Bx} (h : Trnd Z H t la lb) (h2 : Trnd Z H t' lb lc) (ht' : ∀ p, rng Z H p → rng Z H (t' p)) : Trnd Z H (fun p => t (t' p)) la lc := fun p hp => by
  rw [h2 p hp, h _ (ht' p hp)]
end Go.Proofs.Ythlolelbmhfdbaa
end

section
namespace Go.Proofs.Ythlolelbmhfdbaa
set_option maxRecDepth 20000
def smN : Nat → (Nat → Nat) → Nat
  | 0, _ => 0
  | n + 1, f => smN n f + f n
theorem smN_congr {f g : Nat → Nat} : ∀ {n : Nat}, (∀ x, x < n → f x = g x) → smN n f = smN n g
  | 0, _ => rfl
  | n + 1, h => by
    show smN n f + f n = smN n g + g n
    rw [smN_congr fun x hx => h x (by omega), h n (by omega)]
theorem smN_le {f g : Nat → Nat} : ∀ {n : Nat}, (∀ x, x < n → f x ≤ g x) → smN n f ≤ smN n g
  | 0, _ => Nat.le_refl _
  | n + 1, h => Nat.add_le_add (smN_le fun x hx => h x (by omega)) (h n (by omega))
theorem smN_add {f g : Nat → Nat} : ∀ {n : Nat}, smN n (fun x => f x + g x) = smN n f + smN n g
  | 0 => rfl
  | n + 1 => by
    show smN n (fun x => f x + g x) + (f n + g n) = smN n f + f n + (smN n g + g n)
    rw [smN_add]; omega
theorem smN_mul {c : Nat} {f : Nat → Nat} : ∀ {n : Nat}, smN n (fun x => c * f x) = c * smN n f
  | 0 => rfl
  | n + 1 => by
    show smN n (fun x => c * f x) + c * f n = c * (smN n f + f n)
    rw [smN_mul, Nat.mul_add]
theorem smN_zero {f : Nat → Nat} : ∀ {n : Nat}, (∀ x, x < n → f x = 0) → smN n f = 0
  | 0, _ => rfl
  | n + 1, h => by
    show smN n f + f n = 0
    rw [smN_zero fun x hx => h x (by omega), h n (by omega)]
theorem smN_ge {f : Nat → Nat} {a : Nat} : ∀ {n : Nat}, a < n → f a ≤ smN n f
  | n + 1, h => by
    show f a ≤ smN n f + f n
    by_cases e : a = n
    · subst e; omega
    · have := smN_ge (n := n) (f := f) (a := a) (by omega); omega
theorem smN_shift {f : Nat → Nat} : ∀ {n : Nat}, smN (n + 1) f = f 0 + smN n (fun x => f (x + 1))
  | 0 => by simp [smN]
  | n + 1 => by
    show smN (n + 1) f + f (n + 1) = f 0 + (smN n (fun x => f (x + 1)) + f (n + 1))
    rw [smN_shift]; omega
theorem smN_round {f : Nat → Nat} {H : Nat} (hH : 0 < H) : smN H (fun h => f ((h + H - 1) % H)) = smN H f := by
  obtain ⟨k, rfl⟩ : ∃ k, H = k + 1 := ⟨H - 1, by omega⟩
  rw [smN_shift]
  have e0 : (0 + (k + 1) - 1) % (k + 1) = k := by rw [Nat.zero_add, Nat.add_sub_cancel, Nat.mod_eq_of_lt (by omega)]
  rw [e0]
  have : smN k (fun x => f ((x + 1 + (k + 1) - 1) % (k + 1))) = smN k f := smN_congr fun x hx => by
    congr 1
    rw [show x + 1 + (k + 1) - 1 = x + (k + 1) by omega, Nat.add_mod_right, Nat.mod_eq_of_lt (by omega)]
  rw [this]
  show f k + smN k f = smN k f + f k
  omega
theorem smN_even {f : Nat → Nat} : ∀ {n : Nat}, (∀ x, x < n → f x % 2 = 0) → smN n f % 2 = 0
  | 0, _ => rfl
  | n + 1, h => by
    have h1 := smN_even (n := n) (f := f) fun x hx => h x (by omega)
    have h2 := h n (by omega)
    show (smN n f + f n) % 2 = 0
    omega
def lsum {α : Type} : List α → (α → Rat) → Rat
  | [], _ => 0
  | a :: l, f => f a + lsum l f
section
variable {α : Type}
theorem lsum_congr {f g : α → Rat} : ∀ {l : List α}, (∀ a ∈ l, f a = g a) → lsum l f = lsum l g
  | [], _ => rfl
  | a :: l, h => by
    show f a + lsum l f = g a + lsum l g
    rw [h a List.mem_cons_self, lsum_congr fun b hb => h b (List.mem_cons_of_mem _ hb)]
theorem lsum_add {f g : α → Rat} : ∀ {l : List α}, lsum l (fun a => f a + g a) = lsum l f + lsum l g
  | [] => by simp [lsum]; grind
  | a :: l => by
    show f a + g a + lsum l (fun a => f a + g a) = f a + lsum l f + (g a + lsum l g)
    rw [lsum_add]; grind
theorem lsum_mul {c : Rat} {f : α → Rat} : ∀ {l : List α}, lsum l (fun a => c * f a) = c * lsum l f
  | [] => by simp [lsum]
  | a :: l => by
    show c * f a + lsum l (fun a => c * f a) = c * (f a + lsum l f)
    rw [lsum_mul]; grind
theorem lsum_neg {f : α → Rat} {l : List α} : lsum l (fun a => - f a) = - lsum l f := by
  rw [lsum_congr (g := fun a => (-1) * f a) fun a _ => by grind, lsum_mul]; grind
theorem lsum_zero {f : α → Rat} : ∀ {l : List α}, (∀ a ∈ l, f a = 0) → lsum l f = 0
  | [], _ => rfl
  | a :: l, h => by
    show f a + lsum l f = 0
    rw [h a List.mem_cons_self, lsum_zero fun b hb => h b (List.mem_cons_of_mem _ hb)]; grind
theorem lsum_perm {f : α → Rat} {l m : List α} (h : l.Perm m) : lsum l f = lsum m f := by
  induction h with
  | nil => rfl
  | cons x _ ih => show f x + _ = f x + _; rw [ih]
  | swap x y l => show f y + (f x + lsum l f) = f x + (f y + lsum l f); grind
  | trans _ _ h1 h2 => rw [h1, h2]
variable [DecidableEq α]
theorem lsum_one {f : α → Rat} {b : α} : ∀ {l : List α}, l.Nodup → b ∈ l → lsum l (fun a => (if a = b then 1 else 0) * f a) = f b
  | a :: l, hn, hb => by
    have hn2 := List.nodup_cons.1 hn
    show (if a = b then (1 : Rat) else 0) * f a + lsum l (fun a => (if a = b then (1 : Rat) else 0) * f a) = f b
    by_cases e : a = b
    · subst e
      rw [if_pos rfl, lsum_zero fun c hc => by rw [if_neg (show ¬ c = a from fun k => hn2.1 (k ▸ hc))]; grind]; grind
    · rw [if_neg e, lsum_one hn2.2 ((List.mem_cons.1 hb).resolve_left fun k => e k.symm)]; grind
theorem lsum_pick {x : α → Rat} {b : α} {l : List α} (hn : l.Nodup) (hx : ∀ u, u ∉ l → x u = 0) : lsum l (fun a => (if a = b then 1 else 0) * x a) = x b := by
  by_cases h : b ∈ l
  · exact lsum_one hn h
  · rw [hx b h, lsum_zero fun a ha => by rw [if_neg (show ¬ a = b from fun k => h (k ▸ ha))]; grind]
theorem nullL : ∀ (n : Nat) (F : List (α → Rat)) (U : List α), F.length = n → U.Nodup → n < U.length → ∃ x : α → Rat, (∃ u ∈ U, x u ≠ 0) ∧ (∀ u, u ∉ U → x u = 0) ∧ ∀ f ∈ F, lsum U (fun u => f u * x u) = 0
  | 0, F, U, hF, hU, hl => by
    obtain ⟨u, hu⟩ : ∃ u, u ∈ U := by
      cases U with
      | nil => simp at hl
      | cons a l => exact ⟨a, List.mem_cons_self⟩
    refine ⟨fun a => if a = u then 1 else 0, ⟨u, hu, by show (if u = u then (1 : Rat) else 0) ≠ 0; rw [if_pos rfl]; decide⟩, fun a ha => if_neg (show ¬ a = u from fun k => ha (k ▸ hu)), fun f hf => ?_⟩
    rw [List.eq_nil_of_length_eq_zero hF] at hf; cases hf
  | n + 1, [], U, hF, hU, hl => by simp at hF
  | n + 1, f :: F, U, hF, hU, hl => by
    have hF' : F.length = n := by simpa using hF
    by_cases h : ∀ u ∈ U, f u = 0
    · obtain ⟨x, h1, h2, h3⟩ := nullL n F U hF' hU (by omega)
      refine ⟨x, h1, h2, fun g hg => ?_⟩
      rcases List.mem_cons.1 hg with rfl | hg
      · exact lsum_zero fun u hu => by rw [h u hu]; grind
      · exact h3 g hg
    · obtain ⟨u, hu⟩ := Classical.not_forall.1 h
      obtain ⟨hu, hfu⟩ := Classical.not_imp.1 hu
      have hp := List.perm_cons_erase hu
      have hn := List.nodup_cons.1 (hp.nodup_iff.1 hU)
      have hlen := hp.length_eq
      rw [List.length_cons] at hlen
      obtain ⟨x, ⟨w, hw, hxw⟩, h2, h3⟩ := nullL n (F.map fun g a => g a - g u / f u * f a) (U.erase u) (by rw [List.length_map]; exact hF') hn.2 (by omega)
      have hxu : x u = 0 := h2 u hn.1
      let y : α → Rat := fun a => if a = u then - (lsum (U.erase u) fun a => f a * x a) / f u else x a
      have hyE : ∀ g : α → Rat, lsum (U.erase u) (fun a => g a * y a) = lsum (U.erase u) (fun a => g a * x a) := fun g => lsum_congr fun a ha => by
        show g a * (if a = u then _ else x a) = _
        rw [if_neg (show ¬ a = u from fun k => hn.1 (k ▸ ha))]
      have hyu : y u = - (lsum (U.erase u) fun a => f a * x a) / f u := if_pos rfl
      have hU2 : ∀ g : α → Rat, lsum U (fun a => g a * y a) = g u * y u + lsum (U.erase u) (fun a => g a * x a) := fun g => by
        rw [lsum_perm hp, ← hyE g]; rfl
      refine ⟨y, ⟨w, List.mem_of_mem_erase hw, ?_⟩, fun a ha => ?_, fun g hg => ?_⟩
      · show (if w = u then _ else x w) ≠ 0
        rw [if_neg (show ¬ w = u from fun k => hn.1 (k ▸ hw))]; exact hxw
      · show (if a = u then _ else x a) = 0
        rw [if_neg (show ¬ a = u from fun k => ha (k ▸ hu))]
        exact h2 a fun k => ha (List.mem_of_mem_erase k)
      · rw [hU2]
        rcases List.mem_cons.1 hg with rfl | hg
        · rw [hyu]; grind
        · have h4 := h3 _ (List.mem_map_of_mem hg)
          rw [lsum_congr (g := fun a => g a * x a + - (g u / f u * (f a * x a))) fun a _ => by grind, lsum_add, lsum_neg, lsum_mul] at h4
          rw [hyu]
          have h5 : g u * (-(lsum (U.erase u) fun a => f a * x a) / f u) = - (g u / f u * lsum (U.erase u) fun a => f a * x a) := by grind
          rw [h5]; grind
end
end Go.Proofs.Ythlolelbmhfdbaa
end

section
namespace Go.Proofs.Ythlolelbmhfdbaa
set_option maxRecDepth 20000
def nxH (H h : Nat) : Nat := (h + 1) % H
def pvH (H h : Nat) : Nat := (h + H - 1) % H
theorem pv_lt {H h : Nat} (hH : 0 < H) : pvH H h < H := Nat.mod_lt _ hH
theorem pv_nx {H h : Nat} (h1 : h < H) : pvH H (nxH H h) = h := by
  unfold nxH pvH
  by_cases e : h + 1 = H
  · rw [e, Nat.mod_self, Nat.zero_add, Nat.mod_eq_of_lt (by omega)]; omega
  · rw [Nat.mod_eq_of_lt (show h + 1 < H by omega), show h + 1 + H - 1 = h + H by omega, Nat.add_mod_right, Nat.mod_eq_of_lt h1]
abbrev Cell := Nat × Nat
abbrev Edg := Bool × Nat × Nat
section
variable (H R : Nat) (lab : Cell → Nat)
def isC (p : Cell) : Prop := p.1 < R ∧ p.2 < H
def isE (e : Edg) : Prop := e.2.2 < H ∧ (if e.1 = true then e.2.1 < R else e.2.1 + 1 < R)
def e1 (e : Edg) : Cell := if e.1 = true then (e.2.1, pvH H e.2.2) else (e.2.1, e.2.2)
def e2 (e : Edg) : Cell := if e.1 = true then (e.2.1, e.2.2) else (e.2.1 + 1, e.2.2)
def Adj (p q : Cell) : Prop := ∃ e, isE H R e ∧ ((p = e1 H e ∧ q = e2 e) ∨ (p = e2 e ∧ q = e1 H e))
inductive Pt (p : Cell) : Cell → Prop
  | refl : Pt p p
  | step {q s : Cell} (h : Pt p q) (a : Adj H R q s) (e : lab s = lab q) : Pt p s
def near (a b : Nat) : Prop := a ≠ b ∧ ∃ e, isE H R e ∧ ((lab (e1 H e) = a ∧ lab (e2 e) = b) ∨ (lab (e1 H e) = b ∧ lab (e2 e) = a))
structure Good : Prop where
  hH : 1 ≤ H
  hR : 2 ≤ R
  cap0 : ∀ h, h < H → lab (0, h) = lab (0, 0)
  cap1 : ∀ h, h < H → lab (R - 1, h) = lab (R - 1, 0)
  con : ∀ p q, isC H R p → isC H R q → lab p = lab q → Pt H R lab p q
end
section
variable {H R : Nat} {lab : Cell → Nat}
theorem near_comm {a b : Nat} (h : near H R lab a b) : near H R lab b a := ⟨Ne.symm h.1, let ⟨e, h1, h2⟩ := h.2; ⟨e, h1, h2.symm⟩⟩
theorem adj_comm {p q : Cell} (h : Adj H R p q) : Adj H R q p := let ⟨e, h1, h2⟩ := h; ⟨e, h1, h2.elim (fun k => .inr ⟨k.2, k.1⟩) (fun k => .inl ⟨k.2, k.1⟩)⟩
theorem e1_in (hH : 1 ≤ H) {e : Edg} (h : isE H R e) : isC H R (e1 H e) := by
  obtain ⟨k, r, x⟩ := e
  cases k with
  | true => exact ⟨h.2, pv_lt hH⟩
  | false => exact ⟨by have : r + 1 < R := h.2; show r < R; omega, h.1⟩
theorem e2_in {e : Edg} (h : isE H R e) : isC H R (e2 e) := by
  obtain ⟨k, r, x⟩ := e
  cases k with
  | true => exact ⟨h.2, h.1⟩
  | false => exact ⟨h.2, h.1⟩
theorem near_adj {p q : Cell} (h : Adj H R p q) (hn : lab p ≠ lab q) : near H R lab (lab p) (lab q) := by
  obtain ⟨e, h1, h2⟩ := h
  refine ⟨hn, e, h1, ?_⟩
  rcases h2 with ⟨rfl, rfl⟩ | ⟨rfl, rfl⟩
  · exact .inl ⟨rfl, rfl⟩
  · exact .inr ⟨rfl, rfl⟩
theorem near_of {a b : Nat} (h : near H R lab a b) (hH : 1 ≤ H) : ∃ p q, isC H R p ∧ isC H R q ∧ Adj H R p q ∧ lab p = a ∧ lab q = b := by
  obtain ⟨_, e, h1, h2⟩ := h
  rcases h2 with h2 | h2
  · exact ⟨_, _, e1_in hH h1, e2_in h1, ⟨e, h1, .inl ⟨rfl, rfl⟩⟩, h2.1, h2.2⟩
  · exact ⟨_, _, e2_in h1, e1_in hH h1, ⟨e, h1, .inr ⟨rfl, rfl⟩⟩, h2.2, h2.1⟩
theorem Pt.trans {p q s : Cell} (h : Pt H R lab p q) (k : Pt H R lab q s) : Pt H R lab p s := by
  induction k with
  | refl => exact h
  | step _ a e ih => exact .step ih a e
theorem Pt.same {p q : Cell} (h : Pt H R lab p q) : lab q = lab p := by
  induction h with
  | refl => rfl
  | step _ _ e ih => exact e.trans ih
theorem pt_const {β : Type} {f : Cell → β} (hf : ∀ e, isE H R e → lab (e1 H e) = lab (e2 e) → f (e1 H e) = f (e2 e)) {p q : Cell} (h : Pt H R lab p q) : f q = f p := by
  induction h with
  | refl => rfl
  | step _ a e ih =>
    obtain ⟨x, hx, hk⟩ := a
    rcases hk with ⟨rfl, rfl⟩ | ⟨rfl, rfl⟩
    · rw [← hf x hx e.symm]; exact ih
    · rw [hf x hx e]; exact ih
theorem grid_con (hH : 1 ≤ H) {X : Cell → Prop} (hX : ∀ e, isE H R e → (X (e1 H e) ↔ X (e2 e))) {p q : Cell} (hp : isC H R p) (hq : isC H R q) (h : X p) : X q := by
  have row : ∀ r, r < R → ∀ k h, k < H → h < H → X (r, h) → X (r, (h + k) % H) := fun r hr k => by
    induction k with
    | zero => intro h _ hh hx; rw [Nat.add_zero, Nat.mod_eq_of_lt hh]; exact hx
    | succ k ih =>
      intro h hk hh hx
      have h1 := ih h (by omega) hh hx
      have h2 := (hX (true, r, (h + (k + 1)) % H) ⟨Nat.mod_lt _ hH, hr⟩).1
      have e3 : nxH H ((h + k) % H) = (h + (k + 1)) % H := by unfold nxH; rw [Nat.mod_add_mod, Nat.add_assoc]
      have e : pvH H ((h + (k + 1)) % H) = (h + k) % H := by rw [← e3]; exact pv_nx (Nat.mod_lt _ hH)
      refine h2 ?_
      show X (r, pvH H ((h + (k + 1)) % H))
      rw [e]; exact h1
  have anyrow : ∀ r, r < R → ∀ h h', h < H → h' < H → X (r, h) → X (r, h') := fun r hr h h' hh hh' hx => by
    have := row r hr ((h' + H - h) % H) h (Nat.mod_lt _ hH) hh hx
    have e : (h + (h' + H - h) % H) % H = h' := by
      rw [Nat.add_mod_mod, show h + (h' + H - h) = h' + H by omega, Nat.add_mod_right, Nat.mod_eq_of_lt hh']
    rwa [e] at this
  have up : ∀ k r, r + k < R → ∀ h, h < H → (X (r, h) ↔ X (r + k, h)) := fun k => by
    induction k with
    | zero => intro r _ h _; rfl
    | succ k ih => intro r hr h hh; exact (ih r (by omega) h hh).trans (hX (false, r + k, h) ⟨hh, by show r + k + 1 < R; omega⟩)
  obtain ⟨r, x⟩ := p
  obtain ⟨r', x'⟩ := q
  have h0 : X (0, x) := by have := (up r 0 (by have := hp.1; omega) x hp.2).2; rw [Nat.zero_add] at this; exact this h
  have h1 := anyrow 0 (by have := hp.1; omega) x x' hp.2 hq.2 h0
  have := (up r' 0 (by have := hq.1; omega) x' hq.2).1 h1
  rwa [Nat.zero_add] at this
def rsQ : Nat → (Nat → Rat) → Rat
  | 0, _ => 0
  | n + 1, f => rsQ n f + f n
def cor (H : Nat) (x : Edg → Rat) (r h : Nat) : Rat := x (false, r, h) - x (false, r, pvH H h) - x (true, r + 1, h) + x (true, r, h)
def pot (x : Edg → Rat) (p : Cell) : Rat := rsQ p.1 fun r => x (false, r, p.2)
theorem pot_is {x : Edg → Rat} (h0 : ∀ h, h < H → x (true, 0, h) = 0) (hc : ∀ r h, r + 1 < R → h < H → cor H x r h = 0) {e : Edg} (he : isE H R e) : pot x (e2 e) - pot x (e1 H e) = x e := by
  obtain ⟨k, r, y⟩ := e
  cases k with
  | false =>
    show rsQ (r + 1) (fun r => x (false, r, y)) - rsQ r (fun r => x (false, r, y)) = _
    show rsQ r (fun r => x (false, r, y)) + x (false, r, y) - rsQ r (fun r => x (false, r, y)) = _
    grind
  | true =>
    show rsQ r (fun r => x (false, r, y)) - rsQ r (fun r => x (false, r, pvH H y)) = x (true, r, y)
    have hy : y < H := he.1
    have hr : r < R := he.2
    clear he
    induction r with
    | zero => rw [h0 y hy]; simp [rsQ]; grind
    | succ r ih =>
      have h1 := ih (by omega)
      have h2 := hc r y hr hy
      unfold cor at h2
      show rsQ r (fun r => x (false, r, y)) + x (false, r, y) - (rsQ r (fun r => x (false, r, pvH H y)) + x (false, r, pvH H y)) = _
      grind
def cu (lab : Cell → Nat) (H : Nat) (e : Edg) : Nat := if lab (e1 H e) = lab (e2 e) then 0 else 1
def ctR (lab : Cell → Nat) (H r h : Nat) : Nat := cu lab H (true, r, h) + cu lab H (false, r, h) + cu lab H (true, r + 1, h) + cu lab H (false, r, pvH H h)
def sd (lab : Cell → Nat) (H a b : Nat) (e : Edg) : Prop := (lab (e1 H e) = a ∧ lab (e2 e) = b) ∨ (lab (e1 H e) = b ∧ lab (e2 e) = a)
def atC (lab : Cell → Nat) (H a b r h : Nat) : Prop := sd lab H a b (true, r, h) ∨ sd lab H a b (false, r, h) ∨ sd lab H a b (true, r + 1, h) ∨ sd lab H a b (false, r, pvH H h)
theorem four_two {l0 l1 l2 l3 a b : Nat} (hab : a ≠ b) (hc : (if l0 = l1 then 0 else 1) + (if l1 = l2 then 0 else 1) + (if l3 = l2 then 0 else 1) + (if l0 = l3 then 0 else 1) = 2)
    (hs : ((l0 = a ∧ l1 = b) ∨ (l0 = b ∧ l1 = a)) ∨ ((l1 = a ∧ l2 = b) ∨ (l1 = b ∧ l2 = a)) ∨ ((l3 = a ∧ l2 = b) ∨ (l3 = b ∧ l2 = a)) ∨ ((l0 = a ∧ l3 = b) ∨ (l0 = b ∧ l3 = a))) :
    (l0 = a ∨ l0 = b) ∧ (l1 = a ∨ l1 = b) ∧ (l2 = a ∨ l2 = b) ∧ (l3 = a ∨ l3 = b) := by
  split at hc <;> split at hc <;> split at hc <;> split at hc <;> omega
def flo (lab : Cell → Nat) (H a b : Nat) (e : Edg) : Rat := if lab (e1 H e) = a ∧ lab (e2 e) = b then 1 else if lab (e1 H e) = b ∧ lab (e2 e) = a then -1 else 0
theorem flo4 {l0 l1 l2 l3 a b : Nat} (hab : a ≠ b) (hc : (((l0 = a ∧ l1 = b) ∨ (l0 = b ∧ l1 = a)) ∨ ((l1 = a ∧ l2 = b) ∨ (l1 = b ∧ l2 = a)) ∨ ((l3 = a ∧ l2 = b) ∨ (l3 = b ∧ l2 = a)) ∨ ((l0 = a ∧ l3 = b) ∨ (l0 = b ∧ l3 = a))) → (if l0 = l1 then 0 else 1) + (if l1 = l2 then 0 else 1) + (if l3 = l2 then 0 else 1) + (if l0 = l3 then 0 else 1) = 2) :
    (if l1 = a ∧ l2 = b then (1 : Rat) else if l1 = b ∧ l2 = a then -1 else 0) - (if l0 = a ∧ l3 = b then (1 : Rat) else if l0 = b ∧ l3 = a then -1 else 0) - (if l3 = a ∧ l2 = b then (1 : Rat) else if l3 = b ∧ l2 = a then -1 else 0) + (if l0 = a ∧ l1 = b then (1 : Rat) else if l0 = b ∧ l1 = a then -1 else 0) = 0 := by
  have hba : ¬ b = a := Ne.symm hab
  by_cases hs : ((l0 = a ∧ l1 = b) ∨ (l0 = b ∧ l1 = a)) ∨ ((l1 = a ∧ l2 = b) ∨ (l1 = b ∧ l2 = a)) ∨ ((l3 = a ∧ l2 = b) ∨ (l3 = b ∧ l2 = a)) ∨ ((l0 = a ∧ l3 = b) ∨ (l0 = b ∧ l3 = a))
  · obtain ⟨k0, k1, k2, k3⟩ := four_two hab (hc hs) hs
    clear hs hc
    rcases k0 with k0 | k0 <;> rcases k1 with k1 | k1 <;> rcases k2 with k2 | k2 <;> rcases k3 with k3 | k3 <;> simp only [k0, k1, k2, k3, hab, hba, and_self, and_false, false_and, if_true, if_false] <;> grind
  · have n1 : ¬ (l0 = a ∧ l1 = b) := fun k => hs (.inl (.inl k))
    have n2 : ¬ (l0 = b ∧ l1 = a) := fun k => hs (.inl (.inr k))
    have n3 : ¬ (l1 = a ∧ l2 = b) := fun k => hs (.inr (.inl (.inl k)))
    have n4 : ¬ (l1 = b ∧ l2 = a) := fun k => hs (.inr (.inl (.inr k)))
    have n5 : ¬ (l3 = a ∧ l2 = b) := fun k => hs (.inr (.inr (.inl (.inl k))))
    have n6 : ¬ (l3 = b ∧ l2 = a) := fun k => hs (.inr (.inr (.inl (.inr k))))
    have n7 : ¬ (l0 = a ∧ l3 = b) := fun k => hs (.inr (.inr (.inr (.inl k))))
    have n8 : ¬ (l0 = b ∧ l3 = a) := fun k => hs (.inr (.inr (.inr (.inr k))))
    rw [if_neg n1, if_neg n2, if_neg n3, if_neg n4, if_neg n5, if_neg n6, if_neg n7, if_neg n8]; grind
theorem flo_cor {a b r h : Nat} (hab : a ≠ b) (hc : atC lab H a b r h → ctR lab H r h = 2) : cor H (flo lab H a b) r h = 0 := flo4 (l0 := lab (r, pvH H h)) (l1 := lab (r, h)) (l2 := lab (r + 1, h)) (l3 := lab (r + 1, pvH H h)) hab hc
theorem bridge (g : Good H R lab) {a b : Nat} (hn : near H R lab a b) (hc : ∀ r h, r + 1 < R → h < H → atC lab H a b r h → ctR lab H r h = 2) :
    ∃ σ : Nat → Bool, σ a = true ∧ σ b = false ∧ ∀ u w, near H R lab u w → σ u = true → σ w = false → u = a ∧ w = b := by
  classical
  have hab := hn.1
  have h0 : ∀ h, h < H → flo lab H a b (true, 0, h) = 0 := fun h hh => by
    have k1 : lab (e1 H (true, 0, h)) = lab (0, 0) := g.cap0 _ (pv_lt g.hH)
    have k2 : lab (e2 (true, 0, h)) = lab (0, 0) := g.cap0 _ hh
    unfold flo
    rw [k1, k2, if_neg (by omega), if_neg (by omega)]
  have hp := fun e he => pot_is (R := R) h0 (fun r h hr hh => flo_cor hab (hc r h hr hh)) (e := e) he
  have hz : ∀ e, isE H R e → lab (e1 H e) = lab (e2 e) → pot (flo lab H a b) (e1 H e) = pot (flo lab H a b) (e2 e) := fun e he k => by
    have h1 := hp e he
    have : flo lab H a b e = 0 := by unfold flo; rw [k, if_neg (by omega), if_neg (by omega)]
    grind
  obtain ⟨pa, pb, ca, cb, hadj, rfl, rfl⟩ := near_of hn g.hH
  have key : ∀ p q, isC H R p → isC H R q → lab p = lab q → pot (flo lab H (lab pa) (lab pb)) p = pot (flo lab H (lab pa) (lab pb)) q := fun p q cp cq e => (pt_const hz (g.con p q cp cq e)).symm
  have hstep : ∀ p q, Adj H R p q → lab p = lab pa → lab q = lab pb → pot (flo lab H (lab pa) (lab pb)) q = pot (flo lab H (lab pa) (lab pb)) p + 1 := fun p q ha k1 k2 => by
    obtain ⟨e, he, hk⟩ := ha
    have h1 := hp e he
    rcases hk with ⟨rfl, rfl⟩ | ⟨rfl, rfl⟩
    · have : flo lab H (lab pa) (lab pb) e = 1 := if_pos ⟨k1, k2⟩
      grind
    · have : flo lab H (lab pa) (lab pb) e = -1 := by
        unfold flo; rw [if_neg (fun k => hab (k1.symm.trans k.2 |>.trans rfl)), if_pos ⟨k2, k1⟩]
      grind
  have hother : ∀ p q, Adj H R p q → ¬ (lab p = lab pa ∧ lab q = lab pb) → ¬ (lab p = lab pb ∧ lab q = lab pa) → pot (flo lab H (lab pa) (lab pb)) q = pot (flo lab H (lab pa) (lab pb)) p := fun p q ha k1 k2 => by
    obtain ⟨e, he, hk⟩ := ha
    have h1 := hp e he
    rcases hk with ⟨rfl, rfl⟩ | ⟨rfl, rfl⟩
    · have : flo lab H (lab pa) (lab pb) e = 0 := by unfold flo; rw [if_neg k1, if_neg k2]
      grind
    · have : flo lab H (lab pa) (lab pb) e = 0 := by unfold flo; rw [if_neg (fun k => k2 ⟨k.2, k.1⟩), if_neg (fun k => k1 ⟨k.2, k.1⟩)]
      grind
  refine ⟨fun l => decide (∃ p, isC H R p ∧ lab p = l ∧ pot (flo lab H (lab pa) (lab pb)) p ≤ pot (flo lab H (lab pa) (lab pb)) pa), decide_eq_true ⟨pa, ca, rfl, Rat.le_refl⟩, decide_eq_false ?_, fun u w hn2 hu hw => ?_⟩
  · rintro ⟨p, cp, e, h1⟩
    have := key p pb cp cb e
    have := hstep pa pb hadj rfl rfl
    grind
  · obtain ⟨p, q, cp, cq, ha, rfl, rfl⟩ := near_of hn2 g.hH
    obtain ⟨p', cp', e', hle⟩ := of_decide_eq_true hu
    have hw := of_decide_eq_false hw
    have h1 := key p' p cp' cp e'
    by_cases k1 : lab p = lab pa ∧ lab q = lab pb
    · exact k1
    · exfalso
      by_cases k2 : lab p = lab pb ∧ lab q = lab pa
      · have h2 := hstep q p (adj_comm ha) k2.2 k2.1
        have h3 := key q pa cq ca k2.2
        have h4 := key p pb cp cb k2.1
        exact hw ⟨q, cq, rfl, by rw [h3]; exact Rat.le_refl⟩
      · have h2 := hother p q ha k1 k2
        exact hw ⟨q, cq, rfl, by rw [h2, ← h1]; exact hle⟩
end
end Go.Proofs.Ythlolelbmhfdbaa
end

section
namespace Go.Proofs.Ythlolelbmhfdbaa
set_option maxRecDepth 20000
theorem rsQ_congr {f g : Nat → Rat} : ∀ {n : Nat}, (∀ x, x < n → f x = g x) → rsQ n f = rsQ n g
  | 0, _ => rfl
  | n + 1, h => by
    show rsQ n f + f n = rsQ n g + g n
    rw [rsQ_congr fun x hx => h x (by omega), h n (by omega)]
theorem rsQ_add {f g : Nat → Rat} : ∀ {n : Nat}, rsQ n (fun x => f x + g x) = rsQ n f + rsQ n g
  | 0 => by simp [rsQ]; grind
  | n + 1 => by
    show rsQ n (fun x => f x + g x) + (f n + g n) = rsQ n f + f n + (rsQ n g + g n)
    rw [rsQ_add]; grind
theorem rsQ_neg {f : Nat → Rat} : ∀ {n : Nat}, rsQ n (fun x => - f x) = - rsQ n f
  | 0 => by simp [rsQ]
  | n + 1 => by
    show rsQ n (fun x => - f x) + - f n = - (rsQ n f + f n)
    rw [rsQ_neg]; grind
theorem rsQ_zero {f : Nat → Rat} : ∀ {n : Nat}, (∀ x, x < n → f x = 0) → rsQ n f = 0
  | 0, _ => rfl
  | n + 1, h => by
    show rsQ n f + f n = 0
    rw [rsQ_zero fun x hx => h x (by omega), h n (by omega)]; grind
theorem rsQ_one {n a : Nat} {f : Nat → Rat} (ha : a < n) (h : ∀ x, x < n → x ≠ a → f x = 0) : rsQ n f = f a := by
  induction n with
  | zero => omega
  | succ n ih =>
    show rsQ n f + f n = f a
    by_cases e : a = n
    · subst e; rw [rsQ_zero fun x hx => h x (by omega) (by omega)]; grind
    · rw [ih (by omega) fun x hx hn => h x (by omega) hn, h n (by omega) (by omega)]; grind
theorem rsQ_shift {f : Nat → Rat} : ∀ {n : Nat}, rsQ (n + 1) f = f 0 + rsQ n (fun x => f (x + 1))
  | 0 => by simp [rsQ]; grind
  | n + 1 => by
    show rsQ (n + 1) f + f (n + 1) = f 0 + (rsQ n (fun x => f (x + 1)) + f (n + 1))
    rw [rsQ_shift]; grind
theorem rsQ_round {f : Nat → Rat} {H : Nat} (hH : 0 < H) : rsQ H (fun h => f (pvH H h)) = rsQ H f := by
  obtain ⟨k, rfl⟩ : ∃ k, H = k + 1 := ⟨H - 1, by omega⟩
  rw [rsQ_shift]
  have e0 : pvH (k + 1) 0 = k := by unfold pvH; rw [Nat.zero_add, Nat.add_sub_cancel, Nat.mod_eq_of_lt (by omega)]
  rw [e0]
  have : rsQ k (fun x => f (pvH (k + 1) (x + 1))) = rsQ k f := rsQ_congr fun x hx => by
    congr 1
    unfold pvH
    rw [show x + 1 + (k + 1) - 1 = x + (k + 1) by omega, Nat.add_mod_right, Nat.mod_eq_of_lt (by omega)]
  rw [this]
  show f k + rsQ k f = rsQ k f + f k
  grind
theorem rsQ_tel {f : Nat → Rat} : ∀ {n : Nat}, rsQ n (fun r => f r + - f (r + 1)) = f 0 + - f n
  | 0 => by simp [rsQ]; grind
  | n + 1 => by
    show rsQ n (fun r => f r + - f (r + 1)) + (f n + - f (n + 1)) = _
    rw [rsQ_tel]; grind
def gl (A B : Nat) : List Cell := (List.range A).flatMap fun r => (List.range B).map fun h => (r, h)
theorem gl_mem {A B : Nat} {p : Cell} : p ∈ gl A B ↔ p.1 < A ∧ p.2 < B := by
  unfold gl
  rw [List.mem_flatMap]
  constructor
  · rintro ⟨r, hr, h⟩
    obtain ⟨x, hx, rfl⟩ := List.mem_map.1 h
    exact ⟨List.mem_range.1 hr, List.mem_range.1 hx⟩
  · intro h
    exact ⟨p.1, List.mem_range.2 h.1, List.mem_map.2 ⟨p.2, List.mem_range.2 h.2, rfl⟩⟩
theorem nodup_mapF {α β : Type} {f : α → β} (hf : ∀ x y, f x = f y → x = y) {l : List α} (h : l.Nodup) : (l.map f).Nodup := by
  rw [List.Nodup, List.pairwise_map]
  exact h.imp fun hn e => hn (hf _ _ e)
theorem gl_nodup {A B : Nat} : (gl A B).Nodup := by
  unfold gl
  induction A with
  | zero => simp
  | succ A ih =>
    rw [List.range_succ, List.flatMap_append, List.nodup_append]
    refine ⟨ih, ?_, ?_⟩
    · simp only [List.flatMap_cons, List.flatMap_nil, List.append_nil]
      exact nodup_mapF (fun x y e => (Prod.mk.inj e).2) List.nodup_range
    · intro p hp q hq e
      subst e
      obtain ⟨r, hr, h⟩ := List.mem_flatMap.1 hp
      obtain ⟨x, _, rfl⟩ := List.mem_map.1 h
      simp only [List.flatMap_cons, List.flatMap_nil, List.append_nil] at hq
      obtain ⟨y, _, e⟩ := List.mem_map.1 hq
      have := (Prod.mk.inj e).1
      have := List.mem_range.1 hr
      omega
theorem flt_len {P : Nat → Bool} : ∀ (B : Nat), ((List.range B).filter P).length = smN B fun h => if P h = true then 1 else 0
  | 0 => rfl
  | B + 1 => by
    rw [List.range_succ, List.filter_append, List.length_append, flt_len]
    show _ = smN B _ + (if P B = true then 1 else 0)
    congr 1
    cases h : P B <;> simp [h]
theorem gl_cnt {B : Nat} {P : Cell → Bool} : ∀ (A : Nat), ((gl A B).filter P).length = smN A fun r => smN B fun h => if P (r, h) = true then 1 else 0
  | 0 => rfl
  | A + 1 => by
    unfold gl
    rw [List.range_succ, List.flatMap_append, List.filter_append, List.length_append]
    show ((gl A B).filter P).length + _ = smN A _ + smN B _
    rw [gl_cnt A]
    congr 1
    simp only [List.flatMap_cons, List.flatMap_nil, List.append_nil]
    rw [List.filter_map, List.length_map]
    exact flt_len B
section
variable {H R : Nat} {lab : Cell → Nat}
def cutE (H R : Nat) (lab : Cell → Nat) : List Edg := (((gl (R - 1) H).filter fun p => decide (cu lab H (false, p) = 1)).map fun p => (false, p)) ++ (((gl R H).filter fun p => decide (cu lab H (true, p) = 1)).map fun p => (true, p))
theorem cutE_mem (hR : 2 ≤ R) {e : Edg} : e ∈ cutE H R lab ↔ isE H R e ∧ cu lab H e = 1 := by
  unfold cutE
  obtain ⟨k, r, h⟩ := e
  rw [List.mem_append, List.mem_map, List.mem_map]
  cases k with
  | false =>
    constructor
    · rintro (⟨p, hp, e⟩ | ⟨p, hp, e⟩)
      · rw [List.mem_filter, gl_mem, decide_eq_true_eq] at hp
        obtain ⟨_, rfl⟩ := Prod.mk.inj e
        exact ⟨⟨hp.1.2, by show r + 1 < R; omega⟩, hp.2⟩
      · exact absurd (Prod.mk.inj e).1 (by decide)
    · rintro ⟨⟨h1, h2⟩, h3⟩
      have h2 : r + 1 < R := h2
      exact .inl ⟨(r, h), by rw [List.mem_filter, gl_mem, decide_eq_true_eq]; exact ⟨⟨by show r < R - 1; omega, h1⟩, h3⟩, rfl⟩
  | true =>
    constructor
    · rintro (⟨p, hp, e⟩ | ⟨p, hp, e⟩)
      · exact absurd (Prod.mk.inj e).1 (by decide)
      · rw [List.mem_filter, gl_mem, decide_eq_true_eq] at hp
        obtain ⟨_, rfl⟩ := Prod.mk.inj e
        exact ⟨⟨hp.1.2, hp.1.1⟩, hp.2⟩
    · rintro ⟨⟨h1, h2⟩, h3⟩
      exact .inr ⟨(r, h), by rw [List.mem_filter, gl_mem, decide_eq_true_eq]; exact ⟨⟨h2, h1⟩, h3⟩, rfl⟩
theorem cutE_nodup : (cutE H R lab).Nodup := by
  unfold cutE
  rw [List.nodup_append]
  refine ⟨nodup_mapF (fun x y e => (Prod.mk.inj e).2) (gl_nodup.filter _), nodup_mapF (fun x y e => (Prod.mk.inj e).2) (gl_nodup.filter _), ?_⟩
  intro a ha b hb e
  subst e
  obtain ⟨p, _, rfl⟩ := List.mem_map.1 ha
  obtain ⟨q, _, e⟩ := List.mem_map.1 hb
  exact absurd (Prod.mk.inj e).1 (by decide)
theorem cu_01 {e : Edg} : cu lab H e = 0 ∨ cu lab H e = 1 := by unfold cu; split <;> omega
theorem cu_if {e : Edg} : (if (decide (cu lab H e = 1)) = true then 1 else 0) = cu lab H e := by
  rcases cu_01 (lab := lab) (H := H) (e := e) with h | h <;> simp [h]
theorem cutE_len : (cutE H R lab).length = (smN (R - 1) fun r => smN H fun h => cu lab H (false, r, h)) + smN R fun r => smN H fun h => cu lab H (true, r, h) := by
  unfold cutE
  rw [List.length_append, List.length_map, List.length_map, gl_cnt, gl_cnt]
  congr 1
  · exact smN_congr fun r _ => smN_congr fun h _ => cu_if
  · exact smN_congr fun r _ => smN_congr fun h _ => cu_if
def cutC (H R : Nat) (lab : Cell → Nat) : List Cell := (gl (R - 1) H).filter fun p => !decide (ctR lab H p.1 p.2 = 0)
theorem cutC_len : (cutC H R lab).length = smN (R - 1) fun r => smN H fun h => if ctR lab H r h = 0 then 0 else 1 := by
  unfold cutC
  rw [gl_cnt]
  refine smN_congr fun r _ => smN_congr fun h _ => ?_
  by_cases e : ctR lab H r h = 0 <;> simp [e]
def cfc (H r h : Nat) (e : Edg) : Rat := (if e = (false, r, h) then 1 else 0) + (-(if e = (false, r, pvH H h) then 1 else 0) + (-(if e = (true, r + 1, h) then 1 else 0) + (if e = (true, r, h) then 1 else 0)))
def rfc (h : Nat) : Nat → Edg → Rat
  | 0, _ => 0
  | k + 1, e => rfc h k e + if e = (false, k, h) then 1 else 0
theorem cfc_sum {Y : List Edg} (hn : Y.Nodup) {x : Edg → Rat} (hx : ∀ e, e ∉ Y → x e = 0) {r h : Nat} : lsum Y (fun e => cfc H r h e * x e) = cor H x r h := by
  unfold cfc cor
  rw [lsum_congr (g := fun e => (if e = (false, r, h) then 1 else 0) * x e + (-((if e = (false, r, pvH H h) then 1 else 0) * x e) + (-((if e = (true, r + 1, h) then 1 else 0) * x e) + (if e = (true, r, h) then 1 else 0) * x e))) fun e _ => by grind,
    lsum_add, lsum_add, lsum_add, lsum_neg, lsum_neg, lsum_pick hn hx, lsum_pick hn hx, lsum_pick hn hx, lsum_pick hn hx]
  grind
theorem rfc_sum {Y : List Edg} (hn : Y.Nodup) {x : Edg → Rat} (hx : ∀ e, e ∉ Y → x e = 0) {h : Nat} : ∀ k, lsum Y (fun e => rfc h k e * x e) = rsQ k fun r => x (false, r, h)
  | 0 => lsum_zero fun e _ => by simp [rfc]
  | k + 1 => by
    show lsum Y (fun e => (rfc h k e + if e = (false, k, h) then 1 else 0) * x e) = rsQ k (fun r => x (false, r, h)) + x (false, k, h)
    rw [lsum_congr (g := fun e => rfc h k e * x e + (if e = (false, k, h) then 1 else 0) * x e) fun e _ => by grind, lsum_add, rfc_sum hn hx k, lsum_pick hn hx]
theorem cor_all (hH : 0 < H) {x : Edg → Rat} (h0 : ∀ h, h < H → x (true, 0, h) = 0) (h1 : ∀ h, h < H → x (true, R - 1, h) = 0) : rsQ (R - 1) (fun r => rsQ H fun h => cor H x r h) = 0 := by
  have e : ∀ r, rsQ H (fun h => cor H x r h) = (rsQ H fun h => x (true, r, h)) + - rsQ H fun h => x (true, r + 1, h) := fun r => by
    unfold cor
    rw [rsQ_congr (g := fun h => x (false, r, h) + (-(x (false, r, pvH H h)) + (-(x (true, r + 1, h)) + x (true, r, h)))) fun h _ => by grind, rsQ_add, rsQ_add, rsQ_add, rsQ_neg, rsQ_neg, rsQ_round (f := fun h => x (false, r, h)) hH]
    grind
  rw [rsQ_congr fun r _ => e r, rsQ_tel (f := fun r => rsQ H fun h => x (true, r, h)), rsQ_zero h0, rsQ_zero h1]; grind
theorem cut_cap (g : Good H R lab) {e : Edg} (he : isE H R e) (h : e.1 = true ∧ (e.2.1 = 0 ∨ e.2.1 = R - 1)) : cu lab H e = 0 := by
  obtain ⟨k, r, y⟩ := e
  obtain ⟨rfl, h⟩ := h
  have hy : y < H := he.1
  refine if_pos ?_
  show lab (r, pvH H y) = lab (r, y)
  rcases h with h | h
  · have h : r = 0 := h
    rw [h, g.cap0 _ (pv_lt g.hH), g.cap0 _ hy]
  · have h : r = R - 1 := h
    rw [h, g.cap1 _ (pv_lt g.hH), g.cap1 _ hy]
theorem euler (g : Good H R lab) {L : List Nat} (hn : L.Nodup) (hL : ∀ p, isC H R p → lab p ∈ L) (hU : ∀ l ∈ L, ∃ p, isC H R p ∧ lab p = l) (h2 : 2 ≤ L.length) : (cutE H R lab).length + 2 ≤ (cutC H R lab).length + L.length := by
  classical
  have hR := g.hR
  have hH := g.hH
  cases hV : cutC H R lab with
  | nil =>
    have hz : ∀ e, e ∉ cutE H R lab := fun e he => by
      rw [cutE_mem hR] at he
      obtain ⟨he, hc⟩ := he
      have hnc : ∀ r h, r + 1 < R → h < H → ctR lab H r h = 0 := fun r h hr hh => by
        refine Classical.byContradiction fun k => ?_
        have : (r, h) ∈ cutC H R lab := by
          unfold cutC; rw [List.mem_filter, gl_mem]; exact ⟨⟨by show r < R - 1; omega, hh⟩, by simpa using k⟩
        rw [hV] at this; cases this
      obtain ⟨k, r, y⟩ := e
      have hy : y < H := he.1
      cases k with
      | false =>
        have hr : r + 1 < R := he.2
        have := hnc r y hr hy
        unfold ctR at this; omega
      | true =>
        have hr : r < R := he.2
        by_cases hr2 : r + 1 < R
        · have := hnc r y hr2 hy
          unfold ctR at this; omega
        · have := cut_cap g he ⟨rfl, .inr (show r = R - 1 by omega)⟩
          omega
    have : cutE H R lab = [] := List.eq_nil_iff_forall_not_mem.2 hz
    rw [this]; simp; omega
  | cons v0 Vt =>
    refine Classical.byContradiction fun hlt => ?_
    let rep : Nat → Cell := fun l => if h : ∃ p, isC H R p ∧ lab p = l then Classical.choose h else (0, 0)
    have hrep : ∀ l ∈ L, isC H R (rep l) ∧ lab (rep l) = l := fun l hl => by
      show isC H R (if h : ∃ p, isC H R p ∧ lab p = l then Classical.choose h else (0, 0)) ∧ lab (if h : ∃ p, isC H R p ∧ lab p = l then Classical.choose h else (0, 0)) = l
      rw [dif_pos (hU l hl)]; exact Classical.choose_spec (hU l hl)
    have c00 : isC H R (0, 0) := ⟨by show 0 < R; omega, hH⟩
    have hb := hL _ c00
    have hle : (L.erase (lab (0, 0))).length + 1 = L.length := by have := (List.perm_cons_erase hb).length_eq; rw [List.length_cons] at this; exact this.symm
    obtain ⟨x, ⟨u, hu, hxu⟩, hx, hF⟩ := nullL _ ((Vt.map fun v => cfc H v.1 v.2) ++ (L.erase (lab (0, 0))).map fun l => rfc (rep l).2 (rep l).1) (cutE H R lab) rfl cutE_nodup (by
      rw [List.length_append, List.length_map, List.length_map]
      rw [List.length_cons] at hlt
      omega)
    have hnotcut : ∀ e, isE H R e → cu lab H e = 0 → x e = 0 := fun e he hc => hx e fun hm => by rw [cutE_mem hR] at hm; omega
    have h0 : ∀ h, h < H → x (true, 0, h) = 0 := fun h hh => hnotcut _ ⟨hh, by show 0 < R; omega⟩ (cut_cap g ⟨hh, by show 0 < R; omega⟩ ⟨rfl, .inl rfl⟩)
    have h1 : ∀ h, h < H → x (true, R - 1, h) = 0 := fun h hh => hnotcut _ ⟨hh, by show R - 1 < R; omega⟩ (cut_cap g ⟨hh, by show R - 1 < R; omega⟩ ⟨rfl, .inr rfl⟩)
    have hv0 : v0.1 < R - 1 ∧ v0.2 < H := by
      have : v0 ∈ cutC H R lab := by rw [hV]; exact List.mem_cons_self
      unfold cutC at this; rw [List.mem_filter, gl_mem] at this; exact this.1
    have hcor : ∀ r h, r + 1 < R → h < H → (r, h) ≠ v0 → cor H x r h = 0 := fun r h hr hh hne => by
      by_cases hc : ctR lab H r h = 0
      · have k1 : cu lab H (false, r, h) = 0 := by unfold ctR at hc; omega
        have k2 : cu lab H (false, r, pvH H h) = 0 := by unfold ctR at hc; omega
        have k3 : cu lab H (true, r + 1, h) = 0 := by unfold ctR at hc; omega
        have k4 : cu lab H (true, r, h) = 0 := by unfold ctR at hc; omega
        unfold cor
        rw [hnotcut (false, r, h) ⟨hh, hr⟩ k1, hnotcut (false, r, pvH H h) ⟨pv_lt hH, hr⟩ k2, hnotcut (true, r + 1, h) ⟨hh, hr⟩ k3, hnotcut (true, r, h) ⟨hh, by show r < R; omega⟩ k4]
        grind
      · have hm : (r, h) ∈ Vt := by
          have : (r, h) ∈ cutC H R lab := by
            unfold cutC; rw [List.mem_filter, gl_mem]; exact ⟨⟨by show r < R - 1; omega, hh⟩, by simpa using hc⟩
          rw [hV] at this
          exact (List.mem_cons.1 this).resolve_left hne
        have := hF _ (List.mem_append_left _ (List.mem_map_of_mem (f := fun v : Cell => cfc H v.1 v.2) hm))
        rw [cfc_sum cutE_nodup hx] at this; exact this
    have hall : ∀ r h, r + 1 < R → h < H → cor H x r h = 0 := fun r h hr hh => by
      by_cases e : (r, h) = v0
      · have := cor_all hH h0 h1
        rw [rsQ_one (a := v0.1) hv0.1 fun r' hr' hne => rsQ_zero fun h' hh' => hcor r' h' (by omega) hh' fun k => hne (by rw [← k]),
          rsQ_one (a := v0.2) hv0.2 fun h' hh' hne => hcor v0.1 h' (by omega) hh' fun k => hne (by rw [← k])] at this
        rw [← e] at this; exact this
      · exact hcor r h hr hh e
    have hp := fun e he => pot_is (R := R) (x := x) h0 hall (e := e) he
    have hconst : ∀ e, isE H R e → lab (e1 H e) = lab (e2 e) → pot x (e1 H e) = pot x (e2 e) := fun e he k => by
      have h3 := hp e he
      have h4 := hnotcut e he (if_pos k)
      grind
    have hs0 : pot x (0, 0) = 0 := rfl
    have hrep0 : ∀ l ∈ L, pot x (rep l) = 0 := fun l hl => by
      by_cases e : l = lab (0, 0)
      · rw [pt_const hconst (g.con (0, 0) (rep l) c00 (hrep l hl).1 (by rw [(hrep l hl).2, e])), hs0]
      · have hm : l ∈ L.erase (lab (0, 0)) := (List.mem_erase_of_ne e).2 hl
        have := hF _ (List.mem_append_right _ (List.mem_map_of_mem (f := fun l => rfc (rep l).2 (rep l).1) hm))
        rw [rfc_sum cutE_nodup hx] at this; exact this
    have hzero : ∀ p, isC H R p → pot x p = 0 := fun p hp => by
      have hl := hL p hp
      rw [pt_const hconst (g.con (rep (lab p)) p (hrep _ hl).1 hp (hrep _ hl).2), hrep0 _ hl]
    have hu2 := (cutE_mem hR).1 hu
    have h3 := hp u hu2.1
    rw [hzero _ (e1_in hH hu2.1), hzero _ (e2_in hu2.1)] at h3
    apply hxu; grind
def lsN {α : Type} : List α → (α → Nat) → Nat
  | [], _ => 0
  | a :: l, f => f a + lsN l f
theorem lsN_congr {α : Type} {f g : α → Nat} : ∀ {l : List α}, (∀ a ∈ l, f a = g a) → lsN l f = lsN l g
  | [], _ => rfl
  | a :: l, h => by
    show f a + lsN l f = g a + lsN l g
    rw [h a List.mem_cons_self, lsN_congr fun b hb => h b (List.mem_cons_of_mem _ hb)]
theorem lsN_le {α : Type} {f g : α → Nat} : ∀ {l : List α}, (∀ a ∈ l, f a ≤ g a) → lsN l f ≤ lsN l g
  | [], _ => Nat.le_refl _
  | a :: l, h => Nat.add_le_add (h a List.mem_cons_self) (lsN_le fun b hb => h b (List.mem_cons_of_mem _ hb))
theorem lsN_add {α : Type} {f g : α → Nat} : ∀ {l : List α}, lsN l (fun a => f a + g a) = lsN l f + lsN l g
  | [] => rfl
  | a :: l => by
    show f a + g a + lsN l (fun a => f a + g a) = f a + lsN l f + (g a + lsN l g)
    rw [lsN_add]; omega
theorem lsN_mul {α : Type} {c : Nat} {f : α → Nat} : ∀ {l : List α}, lsN l (fun a => c * f a) = c * lsN l f
  | [] => rfl
  | a :: l => by
    show c * f a + lsN l (fun a => c * f a) = c * (f a + lsN l f)
    rw [lsN_mul, Nat.mul_add]
theorem lsN_zero {α : Type} {f : α → Nat} : ∀ {l : List α}, (∀ a ∈ l, f a = 0) → lsN l f = 0
  | [], _ => rfl
  | a :: l, h => by
    show f a + lsN l f = 0
    rw [h a List.mem_cons_self, lsN_zero fun b hb => h b (List.mem_cons_of_mem _ hb)]
theorem lsN_sm {α : Type} {n : Nat} {f : α → Nat → Nat} : ∀ {l : List α}, lsN l (fun a => smN n (f a)) = smN n fun x => lsN l fun a => f a x
  | [] => (smN_zero fun _ _ => rfl).symm
  | a :: l => by
    show smN n (f a) + lsN l (fun a => smN n (f a)) = smN n fun x => f a x + lsN l fun a => f a x
    rw [lsN_sm, smN_add]
theorem lsN_eq {x : Nat} : ∀ {l : List Nat}, l.Nodup → lsN l (fun a => if x = a then 1 else 0) ≤ 1
  | [], _ => Nat.zero_le _
  | a :: l, hn => by
    have hn2 := List.nodup_cons.1 hn
    show (if x = a then 1 else 0) + lsN l (fun a => if x = a then 1 else 0) ≤ 1
    by_cases e : x = a
    · rw [if_pos e, lsN_zero fun b hb => if_neg fun k => hn2.1 (by rw [← e, k]; exact hb)]; omega
    · rw [if_neg e]; have := lsN_eq (x := x) hn2.2; omega
def so (lab : Cell → Nat) (H a b : Nat) (e : Edg) : Nat := if a = b then 0 else (if lab (e1 H e) = a ∧ lab (e2 e) = b then 1 else 0) + (if lab (e1 H e) = b ∧ lab (e2 e) = a then 1 else 0)
def icC (lab : Cell → Nat) (H a b r h : Nat) : Nat := so lab H a b (true, r, h) + so lab H a b (false, r, h) + so lab H a b (true, r + 1, h) + so lab H a b (false, r, pvH H h)
def IcC (H R : Nat) (lab : Cell → Nat) (a b : Nat) : Nat := smN (R - 1) fun r => smN H fun h => if ctR lab H r h = 2 then 0 else icC lab H a b r h
theorem so_cut {a b : Nat} {e : Edg} (h : cu lab H e = 0) : so lab H a b e = 0 := by
  unfold cu at h
  unfold so
  split at h
  · rename_i k
    split
    · rfl
    · rename_i hab
      rw [if_neg (by omega), if_neg (by omega)]
  · omega
theorem so_all {L : List Nat} (hn : L.Nodup) {e : Edg} : lsN L (fun a => lsN L fun b => so lab H a b e) ≤ 2 * cu lab H e := by
  rcases cu_01 (lab := lab) (H := H) (e := e) with h | h
  · rw [lsN_zero fun a _ => lsN_zero fun b _ => so_cut h]; omega
  · have hm : ∀ (P Q : Prop) [Decidable P] [Decidable Q], (if P ∧ Q then 1 else 0) = (if P then 1 else 0) * (if Q then 1 else 0) := by
      intro P Q _ _; by_cases p : P <;> by_cases q : Q <;> simp [p, q]
    have h1 : ∀ a b, so lab H a b e ≤ (if lab (e1 H e) = a then 1 else 0) * (if lab (e2 e) = b then 1 else 0) + (if lab (e2 e) = a then 1 else 0) * (if lab (e1 H e) = b then 1 else 0) := fun a b => by
      unfold so
      split
      · omega
      · rw [hm (lab (e1 H e) = a), hm (lab (e1 H e) = b), Nat.mul_comm (if lab (e1 H e) = b then 1 else 0)]; exact Nat.le_refl _
    refine Nat.le_trans (lsN_le fun a _ => lsN_le fun b _ => h1 a b) ?_
    have h2 : ∀ x y : Nat, lsN L (fun a => lsN L fun b => (if x = a then 1 else 0) * (if y = b then 1 else 0)) ≤ 1 := fun x y => by
      have h3 : ∀ a, lsN L (fun b => (if x = a then 1 else 0) * (if y = b then 1 else 0)) ≤ if x = a then 1 else 0 := fun a => by
        rw [lsN_mul]
        have := lsN_eq (x := y) hn
        calc _ ≤ (if x = a then 1 else 0) * 1 := Nat.mul_le_mul_left _ this
          _ = _ := Nat.mul_one _
      exact Nat.le_trans (lsN_le fun a _ => h3 a) (lsN_eq hn)
    rw [lsN_congr fun a _ => lsN_add, lsN_add, h]
    have := h2 (lab (e1 H e)) (lab (e2 e))
    have := h2 (lab (e2 e)) (lab (e1 H e))
    omega
theorem ic_all {L : List Nat} (hn : L.Nodup) {r h : Nat} : lsN L (fun a => lsN L fun b => icC lab H a b r h) ≤ 2 * ctR lab H r h := by
  unfold icC
  rw [lsN_congr fun a _ => by rw [lsN_add, lsN_add, lsN_add], lsN_add, lsN_add, lsN_add]
  have k1 := so_all (lab := lab) (H := H) hn (e := (true, r, h))
  have k2 := so_all (lab := lab) (H := H) hn (e := (false, r, h))
  have k3 := so_all (lab := lab) (H := H) hn (e := (true, r + 1, h))
  have k4 := so_all (lab := lab) (H := H) hn (e := (false, r, pvH H h))
  unfold ctR; omega
theorem four_ct {l0 l1 l2 l3 : Nat} : (if l0 = l1 then 0 else 1) + (if l1 = l2 then 0 else 1) + (if l3 = l2 then 0 else 1) + (if l0 = l3 then 0 else 1) ≠ 1 := by
  split <;> split <;> split <;> split <;> omega
theorem four_ev {l0 l1 l2 l3 a b : Nat} (hab : a ≠ b) (hc : (if l0 = l1 then 0 else 1) + (if l1 = l2 then 0 else 1) + (if l3 = l2 then 0 else 1) + (if l0 = l3 then 0 else 1) = 2) :
    (((if l0 = a ∧ l1 = b then 1 else 0) + (if l0 = b ∧ l1 = a then 1 else 0)) + ((if l1 = a ∧ l2 = b then 1 else 0) + (if l1 = b ∧ l2 = a then 1 else 0)) + ((if l3 = a ∧ l2 = b then 1 else 0) + (if l3 = b ∧ l2 = a then 1 else 0)) + ((if l0 = a ∧ l3 = b then 1 else 0) + (if l0 = b ∧ l3 = a then 1 else 0))) % 2 = 0 := by
  have hba : ¬ b = a := Ne.symm hab
  by_cases hs : ((l0 = a ∧ l1 = b) ∨ (l0 = b ∧ l1 = a)) ∨ ((l1 = a ∧ l2 = b) ∨ (l1 = b ∧ l2 = a)) ∨ ((l3 = a ∧ l2 = b) ∨ (l3 = b ∧ l2 = a)) ∨ ((l0 = a ∧ l3 = b) ∨ (l0 = b ∧ l3 = a))
  · obtain ⟨k0, k1, k2, k3⟩ := four_two hab hc hs
    clear hs
    rcases k0 with k0 | k0 <;> rcases k1 with k1 | k1 <;> rcases k2 with k2 | k2 <;> rcases k3 with k3 | k3 <;> simp only [k0, k1, k2, k3, hab, hba, and_self, and_false, false_and, if_true, if_false] at hc ⊢
  · have n1 : ¬ (l0 = a ∧ l1 = b) := fun k => hs (.inl (.inl k))
    have n2 : ¬ (l0 = b ∧ l1 = a) := fun k => hs (.inl (.inr k))
    have n3 : ¬ (l1 = a ∧ l2 = b) := fun k => hs (.inr (.inl (.inl k)))
    have n4 : ¬ (l1 = b ∧ l2 = a) := fun k => hs (.inr (.inl (.inr k)))
    have n5 : ¬ (l3 = a ∧ l2 = b) := fun k => hs (.inr (.inr (.inl (.inl k))))
    have n6 : ¬ (l3 = b ∧ l2 = a) := fun k => hs (.inr (.inr (.inl (.inr k))))
    have n7 : ¬ (l0 = a ∧ l3 = b) := fun k => hs (.inr (.inr (.inr (.inl k))))
    have n8 : ¬ (l0 = b ∧ l3 = a) := fun k => hs (.inr (.inr (.inr (.inr k))))
    rw [if_neg n1, if_neg n2, if_neg n3, if_neg n4, if_neg n5, if_neg n6, if_neg n7, if_neg n8]
theorem ct_ne1 {r h : Nat} : ctR lab H r h ≠ 1 := four_ct (l0 := lab (r, pvH H h)) (l1 := lab (r, h)) (l2 := lab (r + 1, h)) (l3 := lab (r + 1, pvH H h))
theorem ct_le4 {r h : Nat} : ctR lab H r h ≤ 4 := by
  have k1 := cu_01 (lab := lab) (H := H) (e := (true, r, h))
  have k2 := cu_01 (lab := lab) (H := H) (e := (false, r, h))
  have k3 := cu_01 (lab := lab) (H := H) (e := (true, r + 1, h))
  have k4 := cu_01 (lab := lab) (H := H) (e := (false, r, pvH H h))
  unfold ctR; omega
theorem ic_ev {a b r h : Nat} (hc : ctR lab H r h = 2) : icC lab H a b r h % 2 = 0 := by
  by_cases hab : a = b
  · have : ∀ e, so lab H a b e = 0 := fun e => if_pos hab
    unfold icC; rw [this, this, this, this]
  · have e : ∀ e, so lab H a b e = (if lab (e1 H e) = a ∧ lab (e2 e) = b then 1 else 0) + (if lab (e1 H e) = b ∧ lab (e2 e) = a then 1 else 0) := fun e => if_neg hab
    unfold icC; rw [e, e, e, e]
    exact four_ev (l0 := lab (r, pvH H h)) (l1 := lab (r, h)) (l2 := lab (r + 1, h)) (l3 := lab (r + 1, pvH H h)) hab hc
theorem sm_tel {G : Nat → Nat} : ∀ {n : Nat}, (smN n (fun r => G r + G (r + 1))) % 2 = (G 0 + G n) % 2
  | 0 => by show 0 % 2 = (G 0 + G 0) % 2; omega
  | n + 1 => by
    show (smN n (fun r => G r + G (r + 1)) + (G n + G (n + 1))) % 2 = _
    have := sm_tel (G := G) (n := n)
    omega
theorem sm_tel2 {G : Nat → Nat} : ∀ {n : Nat}, smN n (fun r => G r + G (r + 1)) ≤ 2 * smN (n + 1) G
  | 0 => Nat.zero_le _
  | n + 1 => by
    show smN n (fun r => G r + G (r + 1)) + (G n + G (n + 1)) ≤ 2 * (smN (n + 1) G + G (n + 1))
    have h := sm_tel2 (G := G) (n := n)
    have e : ∀ k, smN k (fun r => G r + G (r + 1)) + G k ≤ 2 * smN (k + 1) G := fun k => by
      induction k with
      | zero => show 0 + G 0 ≤ 2 * (0 + G 0); omega
      | succ k ih =>
        show smN k (fun r => G r + G (r + 1)) + (G k + G (k + 1)) + G (k + 1) ≤ 2 * (smN (k + 1) G + G (k + 1))
        omega
    have := e n
    omega
theorem ic_sum (g : Good H R lab) {f : Edg → Nat} (h0 : ∀ h, h < H → f (true, 0, h) = 0) (h1 : ∀ h, h < H → f (true, R - 1, h) = 0) :
    (smN (R - 1) fun r => smN H fun h => f (true, r, h) + f (false, r, h) + f (true, r + 1, h) + f (false, r, pvH H h)) % 2 = 0 ∧ (smN (R - 1) fun r => smN H fun h => f (true, r, h) + f (false, r, h) + f (true, r + 1, h) + f (false, r, pvH H h)) ≤ 2 * ((smN (R - 1) fun r => smN H fun h => f (false, r, h)) + smN R fun r => smN H fun h => f (true, r, h)) := by
  have e : ∀ r, (smN H fun h => f (true, r, h) + f (false, r, h) + f (true, r + 1, h) + f (false, r, pvH H h)) = ((smN H fun h => f (true, r, h)) + smN H fun h => f (true, r + 1, h)) + 2 * smN H fun h => f (false, r, h) := fun r => by
    rw [smN_add, smN_add, smN_add]
    have : smN H (fun h => f (false, r, pvH H h)) = smN H fun h => f (false, r, h) := smN_round (f := fun h => f (false, r, h)) g.hH
    rw [this]; omega
  rw [smN_congr fun r _ => e r, smN_add, smN_mul]
  have t1 := sm_tel (G := fun r => smN H fun h => f (true, r, h)) (n := R - 1)
  have t2 := sm_tel2 (G := fun r => smN H fun h => f (true, r, h)) (n := R - 1)
  rw [smN_zero h0, smN_zero h1] at t1
  have hR := g.hR
  rw [show R - 1 + 1 = R by omega] at t2
  exact ⟨by omega, by omega⟩
theorem IcC_even (g : Good H R lab) {a b : Nat} : IcC H R lab a b % 2 = 0 := by
  have hR := g.hR
  have k1 := (ic_sum g (f := so lab H a b) (fun h hh => so_cut (cut_cap g ⟨hh, by show 0 < R; omega⟩ ⟨rfl, .inl rfl⟩)) fun h hh => so_cut (cut_cap g ⟨hh, by show R - 1 < R; omega⟩ ⟨rfl, .inr rfl⟩)).1
  have k2 : (smN (R - 1) fun r => smN H fun h => if ctR lab H r h = 2 then icC lab H a b r h else 0) % 2 = 0 := smN_even fun r _ => smN_even fun h _ => by
    by_cases e : ctR lab H r h = 2
    · rw [if_pos e]; exact ic_ev e
    · rw [if_neg e]
  have k3 : (smN (R - 1) fun r => smN H fun h => icC lab H a b r h) = IcC H R lab a b + smN (R - 1) fun r => smN H fun h => if ctR lab H r h = 2 then icC lab H a b r h else 0 := by
    unfold IcC
    rw [← smN_add]
    refine smN_congr fun r _ => ?_
    rw [← smN_add]
    exact smN_congr fun h _ => by split <;> omega
  have k1 : (smN (R - 1) fun r => smN H fun h => icC lab H a b r h) % 2 = 0 := k1
  omega
theorem near_two (g : Good H R lab) {a b : Nat} (hn : near H R lab a b) (hno : ∃ r h, r + 1 < R ∧ h < H ∧ atC lab H a b r h ∧ ctR lab H r h ≠ 2) : 2 ≤ IcC H R lab a b := by
  obtain ⟨r, h, hr, hh, hat, hc⟩ := hno
  have hpos : 0 < icC lab H a b r h := by
    have hso : ∀ e, sd lab H a b e → 0 < so lab H a b e := fun e he => by
      unfold so; rw [if_neg hn.1]
      rcases he with k | k
      · rw [if_pos k]; omega
      · rw [if_pos k]; omega
    unfold icC
    rcases hat with k | k | k | k
    · have := hso _ k; omega
    · have := hso _ k; omega
    · have := hso _ k; omega
    · have := hso _ k; omega
  have h1 : 0 < IcC H R lab a b := by
    have h2 := smN_ge (f := fun h => if ctR lab H r h = 2 then 0 else icC lab H a b r h) hh
    have h3 := smN_ge (f := fun r => smN H fun h => if ctR lab H r h = 2 then 0 else icC lab H a b r h) (n := R - 1) (a := r) (by omega)
    simp only [if_neg hc] at h2
    unfold IcC
    omega
  have := IcC_even g (a := a) (b := b)
  omega
noncomputable def prs2 (H R : Nat) (lab : Cell → Nat) (L : List Nat) : Nat := by
  classical exact lsN L fun a => lsN L fun b => if near H R lab a b then 1 else 0
theorem few_pairs (g : Good H R lab) {L : List Nat} (hn : L.Nodup) (hL : ∀ p, isC H R p → lab p ∈ L) (hU : ∀ l ∈ L, ∃ p, isC H R p ∧ lab p = l) (h2 : 2 ≤ L.length)
    (hno : ∀ a b, near H R lab a b → ∃ r h, r + 1 < R ∧ h < H ∧ atC lab H a b r h ∧ ctR lab H r h ≠ 2) : prs2 H R lab L + 12 ≤ 6 * L.length := by
  classical
  have hR := g.hR
  have he := euler g hn hL hU h2
  have s1 : 2 * prs2 H R lab L ≤ smN (R - 1) fun r => smN H fun h => if ctR lab H r h = 2 then 0 else 2 * ctR lab H r h := by
    unfold prs2
    rw [← lsN_mul]
    refine Nat.le_trans (lsN_le (g := fun a => lsN L fun b => IcC H R lab a b) fun a _ => ?_) ?_
    · rw [← lsN_mul]
      refine lsN_le fun b _ => ?_
      split
      · rename_i k; have := near_two g k (hno a b k); omega
      · omega
    · unfold IcC
      rw [lsN_congr fun a _ => lsN_sm, lsN_sm]
      refine smN_le fun r _ => ?_
      rw [lsN_congr fun a _ => lsN_sm, lsN_sm]
      refine smN_le fun h _ => ?_
      by_cases e : ctR lab H r h = 2
      · simp only [if_pos e]
        rw [lsN_zero fun a _ => lsN_zero fun b _ => rfl]; exact Nat.le_refl _
      · simp only [if_neg e]
        exact ic_all hn
  have s2 : (smN (R - 1) fun r => smN H fun h => if ctR lab H r h = 2 then 0 else 2 * ctR lab H r h) + 12 * (cutC H R lab).length ≤ 6 * smN (R - 1) fun r => smN H fun h => ctR lab H r h := by
    rw [cutC_len, ← smN_mul, ← smN_mul, ← smN_add]
    refine smN_le fun r _ => ?_
    rw [← smN_mul, ← smN_mul, ← smN_add]
    refine smN_le fun h _ => ?_
    have k1 := ct_ne1 (lab := lab) (H := H) (r := r) (h := h)
    have k2 := ct_le4 (lab := lab) (H := H) (r := r) (h := h)
    split <;> split <;> omega
  have s3 : (smN (R - 1) fun r => smN H fun h => ctR lab H r h) ≤ 2 * (cutE H R lab).length := by
    rw [cutE_len]
    exact (ic_sum g (f := cu lab H) (fun h hh => cut_cap g ⟨hh, by show 0 < R; omega⟩ ⟨rfl, .inl rfl⟩) fun h hh => cut_cap g ⟨hh, by show R - 1 < R; omega⟩ ⟨rfl, .inr rfl⟩).2
  omega
end
end Go.Proofs.Ythlolelbmhfdbaa
end

section
namespace Go.Proofs.Ythlolelbmhfdbaa
set_option maxRecDepth 20000
section
variable {H R : Nat} {lab : Cell → Nat}
def mrg (lab : Cell → Nat) (w u : Nat) : Cell → Nat := fun p => if lab p = w then u else lab p
structure Lst (H R : Nat) (lab : Cell → Nat) (L : List Nat) : Prop where
  nd : L.Nodup
  ins : ∀ p, isC H R p → lab p ∈ L
  use : ∀ l ∈ L, ∃ p, isC H R p ∧ lab p = l
theorem mrg_ne {w u : Nat} {p : Cell} (h : lab p ≠ w) : mrg lab w u p = lab p := if_neg h
theorem mrg_eq {w u : Nat} {p : Cell} (h : lab p = w) : mrg lab w u p = u := if_pos h
theorem pt_mrg {w u : Nat} {p q : Cell} (h : Pt H R lab p q) : Pt H R (mrg lab w u) p q := by
  induction h with
  | refl => exact .refl
  | step _ a e ih => exact .step ih a (by unfold mrg; rw [e])
theorem good_mrg (g : Good H R lab) {w u : Nat} (hn : near H R lab w u) : Good H R (mrg lab w u) := by
  obtain ⟨pw, pu, cw, cu', ha, hw, hu⟩ := near_of hn g.hH
  have hne := hn.1
  refine ⟨g.hH, g.hR, fun h hh => by unfold mrg; rw [g.cap0 h hh], fun h hh => by unfold mrg; rw [g.cap1 h hh], fun p q cp cq e => ?_⟩
  have hpwu : Pt H R (mrg lab w u) pw pu := .step .refl ha (by rw [mrg_eq hw, mrg_ne (by rw [hu]; exact Ne.symm hne), hu])
  have hpuw : Pt H R (mrg lab w u) pu pw := .step .refl (adj_comm ha) (by rw [mrg_eq hw, mrg_ne (by rw [hu]; exact Ne.symm hne), hu])
  by_cases h1 : lab p = w
  · by_cases h2 : lab q = w
    · exact pt_mrg (g.con p q cp cq (h1.trans h2.symm))
    · rw [mrg_eq h1, mrg_ne h2] at e
      exact ((pt_mrg (g.con p pw cp cw (h1.trans hw.symm))).trans hpwu).trans (pt_mrg (g.con pu q cu' cq (hu.trans e)))
  · by_cases h2 : lab q = w
    · rw [mrg_ne h1, mrg_eq h2] at e
      exact ((pt_mrg (g.con p pu cp cu' (e.trans hu.symm))).trans hpuw).trans (pt_mrg (g.con pw q cw cq (hw.trans h2.symm)))
    · rw [mrg_ne h1, mrg_ne h2] at e
      exact pt_mrg (g.con p q cp cq e)
theorem near_mrg {w u a b : Nat} (h : near H R lab a b) (ha : a ≠ w) (hb : b ≠ w) : near H R (mrg lab w u) a b := by
  obtain ⟨hne, e, he, hk⟩ := h
  refine ⟨hne, e, he, ?_⟩
  rcases hk with ⟨k1, k2⟩ | ⟨k1, k2⟩
  · exact .inl ⟨by rw [mrg_ne (by rw [k1]; exact ha), k1], by rw [mrg_ne (by rw [k2]; exact hb), k2]⟩
  · exact .inr ⟨by rw [mrg_ne (by rw [k1]; exact hb), k1], by rw [mrg_ne (by rw [k2]; exact ha), k2]⟩
theorem near_mrg2 {w u b : Nat} (h : near H R lab w b) (hb : b ≠ u) : near H R (mrg lab w u) u b := by
  obtain ⟨hne, e, he, hk⟩ := h
  refine ⟨Ne.symm hb, e, he, ?_⟩
  rcases hk with ⟨k1, k2⟩ | ⟨k1, k2⟩
  · exact .inl ⟨mrg_eq k1, by rw [mrg_ne (by rw [k2]; exact Ne.symm hne), k2]⟩
  · exact .inr ⟨by rw [mrg_ne (by rw [k1]; exact Ne.symm hne), k1], mrg_eq k2⟩
theorem lst_mrg {L : List Nat} (l : Lst H R lab L) {w u : Nat} (hwu : w ≠ u) (hu : u ∈ L) : Lst H R (mrg lab w u) (L.erase w) := by
  refine ⟨l.nd.erase w, fun p cp => ?_, fun x hx => ?_⟩
  · by_cases h : lab p = w
    · rw [mrg_eq h]; exact (List.mem_erase_of_ne (Ne.symm hwu)).2 hu
    · rw [mrg_ne h]; exact (List.mem_erase_of_ne h).2 (l.ins p cp)
  · have hx2 := List.mem_of_mem_erase hx
    have hxw : x ≠ w := fun e => by
      subst e
      have := (List.perm_cons_erase hx2).nodup_iff.1 l.nd
      exact (List.nodup_cons.1 this).1 hx
    obtain ⟨p, cp, e⟩ := l.use x hx2
    exact ⟨p, cp, by rw [mrg_ne (by rw [e]; exact hxw), e]⟩
theorem near_in (g : Good H R lab) {L : List Nat} (l : Lst H R lab L) {a b : Nat} (h : near H R lab a b) : a ∈ L ∧ b ∈ L := by
  obtain ⟨p, q, cp, cq, _, rfl, rfl⟩ := near_of h g.hH
  exact ⟨l.ins p cp, l.ins q cq⟩
theorem has_near (g : Good H R lab) {L : List Nat} (l : Lst H R lab L) {w : Nat} (hw : w ∈ L) (h2 : 2 ≤ L.length) : ∃ u, near H R lab w u := by
  refine Classical.byContradiction fun hc => ?_
  have hX : ∀ e, isE H R e → (lab (e1 H e) = w ↔ lab (e2 e) = w) := fun e he => by
    constructor
    · intro h1
      exact Classical.byContradiction fun h2 => hc ⟨lab (e2 e), fun k => h2 k.symm, e, he, .inl ⟨h1, rfl⟩⟩
    · intro h1
      exact Classical.byContradiction fun h2 => hc ⟨lab (e1 H e), fun k => h2 k.symm, e, he, .inr ⟨rfl, h1⟩⟩
  obtain ⟨p, cp, hp⟩ := l.use w hw
  have hall : ∀ x ∈ L, x = w := fun x hx => by
    obtain ⟨q, cq, hq⟩ := l.use x hx
    rw [← hq]
    exact grid_con (X := fun p => lab p = w) g.hH hX cp cq hp
  cases L with
  | nil => cases hw
  | cons a L =>
    cases L with
    | nil => simp at h2
    | cons b L =>
      have h3 := hall a List.mem_cons_self
      have h4 := hall b (List.mem_cons_of_mem _ List.mem_cons_self)
      have := (List.nodup_cons.1 l.nd).1
      rw [h3, h4] at this
      exact this List.mem_cons_self
theorem sub_len {K L : List Nat} (hK : K.Nodup) (h : ∀ x ∈ K, x ∈ L) : K.length ≤ L.length := by
  induction K generalizing L with
  | nil => simp
  | cons a K ih =>
    have hn := List.nodup_cons.1 hK
    have ha := h a List.mem_cons_self
    have := ih hn.2 (L := L.erase a) fun x hx => (List.mem_erase_of_ne (fun e => hn.1 (by rw [← e]; exact hx))).2 (h x (List.mem_cons_of_mem _ hx))
    have h2 := (List.perm_cons_erase ha).length_eq
    rw [List.length_cons] at h2 ⊢
    omega
theorem sub_out {K L : List Nat} (hL : L.Nodup) (h : K.length < L.length) : ∃ x ∈ L, x ∉ K := by
  refine Classical.byContradiction fun hc => ?_
  have := sub_len (L := K) hL fun x hx => Classical.byContradiction fun k => hc ⟨x, hx, k⟩
  omega
theorem shrink : ∀ (k : Nat) (lab : Cell → Nat) (L K : List Nat), Good H R lab → Lst H R lab L → K.Nodup → (∀ x ∈ K, x ∈ L) → K ≠ [] → L.length = K.length + k →
    ∃ lab', Good H R lab' ∧ Lst H R lab' K ∧ ∀ a b, a ∈ K → b ∈ K → near H R lab a b → near H R lab' a b
  | 0, lab, L, K, g, l, hK, hs, _, hk => by
    refine ⟨lab, g, ⟨hK, fun p cp => ?_, fun x hx => l.use x (hs x hx)⟩, fun _ _ _ _ h => h⟩
    refine Classical.byContradiction fun hc => ?_
    have := sub_len (K := lab p :: K) (L := L) (List.nodup_cons.2 ⟨hc, hK⟩) fun x hx => by
      rcases List.mem_cons.1 hx with rfl | hx
      · exact l.ins p cp
      · exact hs x hx
    rw [List.length_cons] at this; omega
  | k + 1, lab, L, K, g, l, hK, hs, h0, hk => by
    obtain ⟨w, hw, hwK⟩ := sub_out (K := K) l.nd (by omega)
    have hK1 : 1 ≤ K.length := by cases K with
      | nil => exact absurd rfl h0
      | cons a K => simp
    obtain ⟨u, hu⟩ := has_near g l hw (by omega)
    have huL := (near_in g l hu).2
    have hle := (List.perm_cons_erase hw).length_eq
    rw [List.length_cons] at hle
    obtain ⟨lab', g', l', h'⟩ := shrink k (mrg lab w u) (L.erase w) K (good_mrg g hu) (lst_mrg l hu.1 huL) hK (fun x hx => (List.mem_erase_of_ne (fun e => hwK (by rw [← e]; exact hx))).2 (hs x hx)) h0 (by omega)
    exact ⟨lab', g', l', fun a b ha hb hab => h' a b ha hb (near_mrg hab (fun e => hwK (by rw [← e]; exact ha)) (fun e => hwK (by rw [← e]; exact hb)))⟩
def lone (H R : Nat) (lab : Cell → Nat) : Prop := ∃ a b, near H R lab a b ∧ ∀ r h, r + 1 < R → h < H → atC lab H a b r h → ctR lab H r h = 2
theorem lone_not (h : ¬ lone H R lab) : ∀ a b, near H R lab a b → ∃ r h, r + 1 < R ∧ h < H ∧ atC lab H a b r h ∧ ctR lab H r h ≠ 2 := fun a b hab => by
  refine Classical.byContradiction fun hc => h ⟨a, b, hab, fun r x hr hx hat => Classical.byContradiction fun k => hc ⟨r, x, hr, hx, hat, k⟩⟩
noncomputable def deg (H R : Nat) (lab : Cell → Nat) (L : List Nat) (a : Nat) : Nat := by
  classical exact lsN L fun b => if near H R lab a b then 1 else 0
theorem lsN_ge {α : Type} {c : Nat} {f : α → Nat} : ∀ {l : List α}, (∀ a ∈ l, c ≤ f a) → c * l.length ≤ lsN l f
  | [], _ => by simp [lsN]
  | a :: l, h => by
    have h1 := h a List.mem_cons_self
    have h2 := lsN_ge (c := c) (f := f) (l := l) fun b hb => h b (List.mem_cons_of_mem _ hb)
    show c * (l.length + 1) ≤ f a + lsN l f
    rw [Nat.mul_add]; omega
theorem prs_deg {L : List Nat} : prs2 H R lab L = lsN L (deg H R lab L) := rfl
theorem deg_full {L : List Nat} {a : Nat} (hn : L.Nodup) (h : ∀ b ∈ L, b ≠ a → near H R lab a b) : L.length ≤ deg H R lab L a + 1 := by
  classical
  unfold deg
  induction L with
  | nil => simp
  | cons x L ih =>
    have hn2 := List.nodup_cons.1 hn
    show L.length + 1 ≤ (if near H R lab a x then 1 else 0) + lsN L (fun b => if near H R lab a b then 1 else 0) + 1
    by_cases e : x = a
    · have : ∀ b ∈ L, 1 ≤ if near H R lab a b then 1 else 0 := fun b hb => by
        rw [if_pos (h b (List.mem_cons_of_mem _ hb) fun k => hn2.1 (by rw [e, ← k]; exact hb))]; omega
      have := lsN_ge this
      omega
    · rw [if_pos (h x List.mem_cons_self e)]
      have := ih hn2.2 fun b hb => h b (List.mem_cons_of_mem _ hb)
      omega
theorem no_five (g : Good H R lab) {L : List Nat} (l : Lst H R lab L) {K : List Nat} (hK : K.Nodup) (hs : ∀ x ∈ K, x ∈ L) (h5 : K.length = 5) (hn : ∀ a b, a ∈ K → b ∈ K → a ≠ b → near H R lab a b) : False := by
  have hle := sub_len hK hs
  obtain ⟨lab', g', l', h'⟩ := shrink (L.length - 5) lab L K g l hK hs (by intro e; rw [e] at h5; simp at h5) (by omega)
  have hn' : ∀ a b, a ∈ K → b ∈ K → a ≠ b → near H R lab' a b := fun a b ha hb hab => h' a b ha hb (hn a b ha hb hab)
  by_cases hl : lone H R lab'
  · obtain ⟨a, b, hab, hc⟩ := hl
    obtain ⟨σ, h1, h2, h3⟩ := bridge g' hab hc
    obtain ⟨ha, hb⟩ := near_in g' l' hab
    obtain ⟨x, hx, hxn⟩ := sub_out (K := [a, b]) hK (by simp; omega)
    have hxa : x ≠ a := fun e => hxn (by rw [e]; simp)
    have hxb : x ≠ b := fun e => hxn (by rw [e]; simp)
    cases hσ : σ x with
    | true => exact hxa (h3 x b (hn' x b hx hb hxb) hσ h2).1
    | false => exact hxb (h3 a x (hn' a x ha hx (Ne.symm hxa)) h1 hσ).2
  · have h1 := few_pairs g' hK l'.ins l'.use (by omega) (lone_not hl)
    have h2 : 4 * K.length ≤ prs2 H R lab' K := by
      rw [prs_deg]
      refine lsN_ge fun a ha => ?_
      have := deg_full (H := H) (R := R) (lab := lab') (a := a) hK fun b hb hba => hn' a b ha hb (Ne.symm hba)
      omega
    omega
def Col (H R : Nat) (lab : Cell → Nat) : Prop := ∃ c : Nat → Nat, (∀ a, c a < 4) ∧ ∀ a b, near H R lab a b → c a ≠ c b
theorem free_col {l : List Nat} (h : l.length ≤ 3) : ∃ t, t < 4 ∧ t ∉ l := by
  obtain ⟨t, ht, hn⟩ := sub_out (K := l) (L := [0, 1, 2, 3]) (by decide) (by simp; omega)
  refine ⟨t, ?_, hn⟩
  simp at ht; omega
theorem four_cols : ∀ (k : Nat) (lab : Cell → Nat) (L : List Nat), Good H R lab → Lst H R lab L → L.length ≤ k → L.length ≤ 11 → Col H R lab := by
  classical
  intro k
  induction k with
  | zero =>
    intro lab L g l hk _
    have := l.ins (0, 0) ⟨by have := g.hR; show 0 < R; omega, g.hH⟩
    have e : L = [] := List.eq_nil_of_length_eq_zero (by omega)
    rw [e] at this; cases this
  | succ k ih =>
    intro lab L g l hk h11
    by_cases h4 : L.length ≤ 4
    · refine ⟨fun a => if a ∈ L then L.idxOf a else 0, fun a => ?_, fun a b hab => ?_⟩
      · show (if a ∈ L then L.idxOf a else 0) < 4
        split
        · rename_i h; have := List.idxOf_lt_length_of_mem h; omega
        · omega
      · obtain ⟨ha, hb⟩ := near_in g l hab
        show (if a ∈ L then L.idxOf a else 0) ≠ if b ∈ L then L.idxOf b else 0
        rw [if_pos ha, if_pos hb]
        intro e
        have e1 := List.getElem_idxOf (List.idxOf_lt_length_of_mem ha)
        have e2 := List.getElem_idxOf (List.idxOf_lt_length_of_mem hb)
        apply hab.1
        rw [← e1, ← e2]; congr 1
    · by_cases hl : lone H R lab
      · obtain ⟨a, b, hab, hc⟩ := hl
        obtain ⟨σ, h1, h2, h3⟩ := bridge g hab hc
        obtain ⟨ha, hb⟩ := near_in g l hab
        have part : ∀ τ : Nat → Bool, (∃ x ∈ L, τ x = true) → (∃ x ∈ L, τ x = false) → ∃ c : Nat → Nat, (∀ a, c a < 4) ∧ ∀ a b, near H R lab a b → τ a = true → τ b = true → c a ≠ c b := fun τ ⟨x, hx, hxt⟩ ⟨y, hy, hyf⟩ => by
          have hlt : (L.filter τ).length < L.length := by
            have h5 := sub_len (K := y :: L.filter τ) (L := L) (List.nodup_cons.2 ⟨fun k => by rw [List.mem_filter, hyf] at k; exact absurd k.2 (by decide), l.nd.filter _⟩) fun z hz => by
              rcases List.mem_cons.1 hz with rfl | hz
              · exact hy
              · exact (List.mem_filter.1 hz).1
            rw [List.length_cons] at h5; omega
          obtain ⟨lab', g', l', h'⟩ := shrink (L.length - (L.filter τ).length) lab L (L.filter τ) g l (l.nd.filter _) (fun z hz => (List.mem_filter.1 hz).1) (fun e => by
            have : x ∈ L.filter τ := List.mem_filter.2 ⟨hx, hxt⟩
            rw [e] at this; cases this) (by omega)
          obtain ⟨c, c1, c2⟩ := ih lab' (L.filter τ) g' l' (by omega) (by omega)
          refine ⟨c, c1, fun a b hn ta tb => c2 a b (h' a b ?_ ?_ hn)⟩
          · exact List.mem_filter.2 ⟨(near_in g l hn).1, ta⟩
          · exact List.mem_filter.2 ⟨(near_in g l hn).2, tb⟩
        obtain ⟨c, c1, c2⟩ := part σ ⟨a, ha, h1⟩ ⟨b, hb, h2⟩
        obtain ⟨d, d1, d2⟩ := part (fun x => !σ x) ⟨b, hb, by simp [h2]⟩ ⟨a, ha, by simp [h1]⟩
        let e : Nat → Nat := fun x => if c a = d b then (d x + 1) % 4 else d x
        have e4 : ∀ x, e x < 4 := fun x => by
          show (if c a = d b then (d x + 1) % 4 else d x) < 4
          split
          · omega
          · exact d1 x
        have ee : ∀ x y, d x ≠ d y → e x ≠ e y := fun x y hxy => by
          show (if c a = d b then (d x + 1) % 4 else d x) ≠ (if c a = d b then (d y + 1) % 4 else d y)
          have := d1 x; have := d1 y
          split <;> omega
        have eb : c a ≠ e b := by
          show c a ≠ if c a = d b then (d b + 1) % 4 else d b
          have := d1 b
          split <;> omega
        refine ⟨fun x => if σ x = true then c x else e x, fun x => ?_, fun x y hn => ?_⟩
        · show (if σ x = true then c x else e x) < 4
          split
          · exact c1 x
          · exact e4 x
        · show (if σ x = true then c x else e x) ≠ if σ y = true then c y else e y
          cases hx : σ x with
          | true =>
            cases hy : σ y with
            | true => simp; exact c2 x y hn hx hy
            | false =>
              obtain ⟨rfl, rfl⟩ := h3 x y hn hx hy
              simpa using eb
          | false =>
            cases hy : σ y with
            | true =>
              obtain ⟨rfl, rfl⟩ := h3 y x (near_comm hn) hy hx
              simpa using Ne.symm eb
            | false => simp; exact ee x y (d2 x y hn (by simp [hx]) (by simp [hy]))
      · have hp := few_pairs g l.nd l.ins l.use (by omega) (lone_not hl)
        have hv : ∃ v ∈ L, deg H R lab L v ≤ 4 := by
          refine Classical.byContradiction fun hc => ?_
          have := lsN_ge (c := 5) (f := deg H R lab L) (l := L) fun v hv => Classical.byContradiction fun k => hc ⟨v, hv, by omega⟩
          rw [← prs_deg] at this; omega
        obtain ⟨v, hvL, hdeg⟩ := hv
        let Nv := L.filter fun b => decide (near H R lab v b)
        have hNv : ∀ b, b ∈ Nv ↔ near H R lab v b := fun b => by
          show b ∈ L.filter _ ↔ _
          rw [List.mem_filter, decide_eq_true_eq]
          exact ⟨fun h => h.2, fun h => ⟨(near_in g l h).2, h⟩⟩
        have hNd : Nv.Nodup := l.nd.filter _
        have hNl : Nv.length ≤ 4 := by
          have : ∀ M : List Nat, (M.filter fun b => decide (near H R lab v b)).length = lsN M fun b => if near H R lab v b then 1 else 0 := fun M => by
            induction M with
            | nil => rfl
            | cons x M ih2 =>
              show _ = (if near H R lab v x then 1 else 0) + lsN M _
              by_cases e : near H R lab v x
              · rw [List.filter_cons_of_pos (by simpa using e), List.length_cons, ih2, if_pos e]; omega
              · rw [List.filter_cons_of_neg (by simpa using e), ih2, if_neg e]; omega
          have h5 := this L
          have h6 : deg H R lab L v = lsN L fun b => if near H R lab v b then 1 else 0 := rfl
          show (L.filter fun b => decide (near H R lab v b)).length ≤ 4
          omega
        obtain ⟨u, hu⟩ := has_near g l hvL (by omega)
        have hlen := (List.perm_cons_erase hvL).length_eq
        rw [List.length_cons] at hlen
        by_cases h3 : Nv.length ≤ 3
        · obtain ⟨c, c1, c2⟩ := ih (mrg lab v u) (L.erase v) (good_mrg g hu) (lst_mrg l hu.1 (near_in g l hu).2) (by omega) (by omega)
          obtain ⟨t, ht, htn⟩ := free_col (l := Nv.map c) (by rw [List.length_map]; exact h3)
          have hf : ∀ b, near H R lab v b → c b ≠ t := fun b hb e => htn (List.mem_map.2 ⟨b, (hNv b).2 hb, e⟩)
          refine ⟨fun x => if x = v then t else c x, fun x => ?_, fun x y hn => ?_⟩
          · show (if x = v then t else c x) < 4
            split
            · exact ht
            · exact c1 x
          · show (if x = v then t else c x) ≠ if y = v then t else c y
            by_cases hx : x = v
            · rw [if_pos hx, if_neg (by rw [← hx]; exact Ne.symm hn.1)]
              rw [hx] at hn; exact Ne.symm (hf y hn)
            · by_cases hy : y = v
              · rw [if_neg hx, if_pos hy]
                rw [hy] at hn; exact hf x (near_comm hn)
              · rw [if_neg hx, if_neg hy]; exact c2 x y (near_mrg hn hx hy)
        · by_cases hpair : ∃ a b, a ∈ Nv ∧ b ∈ Nv ∧ a ≠ b ∧ ¬ near H R lab a b
          · obtain ⟨a, b, ha, hb, hab, hnab⟩ := hpair
            have na := (hNv a).1 ha
            have nb := (hNv b).1 hb
            have g1 := good_mrg g na
            have l1 := lst_mrg l na.1 (near_in g l na).2
            have nba : near H R (mrg lab v a) b a := near_comm (near_mrg2 nb (Ne.symm hab))
            have g2 := good_mrg g1 nba
            have l2 := lst_mrg l1 (Ne.symm hab) (near_in g1 l1 nba).2
            have hbm : b ∈ L.erase v := (near_in g1 l1 nba).1
            have hlen2 := (List.perm_cons_erase hbm).length_eq
            rw [List.length_cons] at hlen2
            obtain ⟨c, c1, c2⟩ := ih _ _ g2 l2 (by omega) (by omega)
            let d : Nat → Nat := fun x => if x = b then c a else c x
            have hlen3 := (List.perm_cons_erase hb).length_eq
            rw [List.length_cons] at hlen3
            obtain ⟨t, ht, htn⟩ := free_col (l := (Nv.erase b).map d) (by rw [List.length_map]; omega)
            have haE : a ∈ Nv.erase b := (List.mem_erase_of_ne hab).2 ha
            have hda : d a = c a := if_neg hab
            have hdb : d b = c a := if_pos rfl
            have hf : ∀ y, near H R lab v y → d y ≠ t := fun y hy e => by
              by_cases hyb : y = b
              · rw [hyb, hdb, ← hda] at e; exact htn (List.mem_map.2 ⟨a, haE, e⟩)
              · exact htn (List.mem_map.2 ⟨y, (List.mem_erase_of_ne hyb).2 ((hNv y).2 hy), e⟩)
            have hd : ∀ x y, near H R lab x y → x ≠ v → y ≠ v → d x ≠ d y := fun x y hn hx hy => by
              have n1 := near_mrg (u := a) hn hx hy
              show (if x = b then c a else c x) ≠ if y = b then c a else c y
              by_cases hxb : x = b
              · have hyb : y ≠ b := fun k => hn.1 (hxb.trans k.symm)
                rw [if_pos hxb, if_neg hyb]
                have hya : y ≠ a := fun k => hnab (by rw [hxb, k] at hn; exact near_comm hn)
                rw [hxb] at n1
                exact c2 a y (near_mrg2 n1 hya)
              · by_cases hyb : y = b
                · rw [if_neg hxb, if_pos hyb]
                  have hxa : x ≠ a := fun k => hnab (by rw [hyb, k] at hn; exact hn)
                  rw [hyb] at n1
                  exact Ne.symm (c2 a x (near_mrg2 (near_comm n1) hxa))
                · rw [if_neg hxb, if_neg hyb]
                  exact c2 x y (near_mrg n1 hxb hyb)
            refine ⟨fun x => if x = v then t else d x, fun x => ?_, fun x y hn => ?_⟩
            · show (if x = v then t else d x) < 4
              split
              · exact ht
              · show (if x = b then c a else c x) < 4
                split
                · exact c1 a
                · exact c1 x
            · show (if x = v then t else d x) ≠ if y = v then t else d y
              by_cases hx : x = v
              · rw [if_pos hx, if_neg (by rw [← hx]; exact Ne.symm hn.1)]
                rw [hx] at hn; exact Ne.symm (hf y hn)
              · by_cases hy : y = v
                · rw [if_neg hx, if_pos hy]
                  rw [hy] at hn; exact hf x (near_comm hn)
                · rw [if_neg hx, if_neg hy]; exact hd x y hn hx hy
          · exfalso
            have hvN : v ∉ Nv := fun k => ((hNv v).1 k).1 rfl
            refine no_five g l (K := v :: Nv) (List.nodup_cons.2 ⟨hvN, hNd⟩) (fun x hx => ?_) (by rw [List.length_cons]; omega) fun a b ha hb hab => ?_
            · rcases List.mem_cons.1 hx with rfl | hx
              · exact hvL
              · exact (near_in g l ((hNv x).1 hx)).2
            · rcases List.mem_cons.1 ha with rfl | ha
              · rcases List.mem_cons.1 hb with rfl | hb
                · exact absurd rfl hab
                · exact (hNv b).1 hb
              · rcases List.mem_cons.1 hb with rfl | hb
                · exact near_comm ((hNv a).1 ha)
                · exact Classical.byContradiction fun k => hpair ⟨a, b, ha, hb, hab, k⟩
end
end Go.Proofs.Ythlolelbmhfdbaa
end
