import Derived.IntWalk
import Derived.KernelRfl
import Derived.Test.YthlolelbmhfdbaaM5
set_option linter.all false
section
namespace Go.AE
open Go.RowKit
section
variable {ρ : Env} {Φ : Fz} {w : World}
end
section
variable {C : Ctx} {o : Oper} {T : AT} {H : AH} {nx nx' : Nat} {v : AV} {ups : AH}
end
section ops
variable {C : Ctx} {T : AT} {H : AH} {nx : Nat} {d : Option Tmp} {ty : TypeId} {pos : String} {after : Array Edge} {g : Option (Nat × Bool)}
section num
variable {x y : Operand} {k : IntKind} {a b c : Int} {t t' : TypeId}
theorem U_mul (hx : ev T x = some (.int k a)) (hy : ev T y = some (.int k b)) (hc : k.wrap (a * b) = c) : OpU C ⟨d, .binOp .mul t x y t', ty, pos, after, g⟩ T H nx (.int k c) [] nx :=
  binInt hx hy rfl (by simp) fun w => ⟨.int k c, by simp [binOp, Op.intArith, hc], fun _ _ => mk_int⟩
end num
end ops
end Go.AE
end

section
namespace Go.AE
open Go.RowKit
section
variable {C : Ctx} {ρ : Env} {Φ : Fz} {H : AH} {w : World}
end
section ops
variable {C : Ctx} {T : AT} {H : AH} {nx : Nat} {d : Option Tmp} {ty : TypeId} {pos : String} {after : Array Edge} {g : Option (Nat × Bool)}
theorem U_convInt {s t : TypeId} {x : Operand} {k k' : IntKind} {n m : Int} {dd : TypeDesc} [hT : TyInt C.P t k'] (hs : C.P.underlying s = some dd) (hx : ev T x = some (.int k n)) (hm : k'.wrap n = m) : OpU C ⟨d, .convert s t x, ty, pos, after, g⟩ T H nx (.int k' m) [] nx :=
  OpU.of_value (by intro c; simp) fun ρ Φ a w h2 _ => by
    refine ⟨.int k' m, ?_, mk_int⟩
    simp only [execOp, convert, con_int (ev_con h2 hx), Sem.run_bind, run_underlying hs, run_underlying hT.un, Result.andThen_ok, Conv.intToInt, hm, Sem.run_pure]
end ops
end Go.AE
end

section
namespace Go.AE
open Go.RowKit
section ops
variable {C : Ctx} {T : AT} {H : AH} {nx : Nat} {d : Option Tmp} {ty : TypeId} {pos : String} {after : Array Edge} {g : Option (Nat × Bool)}
end ops
section steps
variable {C : Ctx} {T : AT} {H : AH} {nx : Nat} {df : List Nat} {ops : Array Oper} {i : Nat} {K : St → Prop} {o : Oper} {v : AV} {ups : AH} {nx' t : Nat} {c : Bool}
end steps
section dsteps
variable {C : Ctx} {kl : Oper → Nat} {ops : List Oper} {ms : List Nat} {H0 : AH} {K : AT → AH → Nat → Prop} {i : Nat} {T : AT} {D : List (Nat × AH)} {nx nx' t : Nat} {o : Oper} {v : AV} {ups : AH} {c : Bool}
end dsteps
section codes
variable {C : Ctx} {c : Code} {Q : Exit → St → Prop} {T : AT} {H : AH} {nx : Nat} {df : List Nat}
end codes
section ops
variable {C : Ctx} {T : AT} {H : AH} {nx : Nat} {d : Option Tmp} {ty : TypeId} {pos : String} {after : Array Edge} {g : Option (Nat × Bool)}
theorem U_sliceR {t e z n l h : Nat} {c : Option Nat} {x : Operand} {lo hi : Option Operand} {cs : List AV} [hT : TySl C.P t e z] (hx : ev T x = some (.ros cs n c)) (hlo : BndIs T lo 0 l) (hhi : BndIs T hi n h) (h1 : l < h) (h2 : h ≤ n) :
    OpU C ⟨d, .slice t x lo hi none, ty, pos, after, g⟩ T H nx (.ros (cs.drop (l * z)) (h - l) (c.map (· - l))) [] nx :=
  OpU.of_value (by intro c; simp) fun ρ Φ a w h3 _ => by
    have hp := ev_con h3 hx
    simp only [Con] at hp
    obtain ⟨r, base, xs, k, e1, e2, e3, e4, e5, e6, e7⟩ := hp.resolve_left fun h => by omega
    refine ⟨.slice (some ⟨r, base + l * z, none⟩) (h - l) (k - l), ?_, ?_⟩
    · have := run_sliceAt (P := C.P) (w := w) (t := t) (ad := some ⟨r, base, none⟩) (n := n) (k := k) (l := l) (h := h) (m := k) (bndIs_con h3 hlo) (bndIs_con h3 hhi) (mx := none) rfl (by omega) (by omega) (Nat.le_refl _)
      rw [if_neg (by omega)] at this
      simp only [execOp, e2, Sem.run_bind, Option.map_none, this, Result.andThen_ok, Sem.run_pure, Option.map_some, add_at]
    · simp only [Con]
      refine .inr ⟨r, base + l * z, xs.drop (l * z), k - l, e1, rfl, by omega, fun m hm => ?_, conL_drop _ e5, fun i v hi => ?_, dataL_drop e7 _⟩
      · cases c with
        | none => cases hm
        | some c => cases hm; rw [e4 c rfl]
      · rw [List.getElem?_drop] at hi
        rw [Nat.add_assoc]; exact e6 _ _ hi
end ops
end Go.AE
end

section
namespace Go.AE
open Go.RowKit
section
variable {C : Ctx} {c : Code} {Q : Exit → St → Prop} {T T' : AT} {H H' : AH} {nx : Nat} {df : List Nat} {cs : List AV} {t : TypeId}
end
section ops
variable {C : Ctx} {T : AT} {H : AH} {nx : Nat} {d : Option Tmp} {ty : TypeId} {pos : String} {after : Array Edge} {g : Option (Nat × Bool)}
end ops
theorem setM {α : Type} {g : α → AV} {l : List α} {k : Nat} {x : α} : setC (l.map g) (0 + k * 1) [g x] = (l.set k x).map g := by simp [setC, List.map_set]
end Go.AE
end

section
namespace Go.AE
open Go.RowKit
theorem wr_i64 {n : Int} (h1 : -9223372036854775808 ≤ n) (h2 : n ≤ 9223372036854775807) : IntKind.i64.wrap n = n := w64 h1 h2
section
variable {P : Program} {T : AT} {H : AH} {nx : Nat}
end
section ops
variable {C : Ctx} {T : AT} {H : AH} {nx : Nat} {d : Option Tmp} {ty : TypeId} {pos : String} {after : Array Edge} {g : Option (Nat × Bool)}
end ops
end Go.AE
end

section
namespace Go.AE
open Go.RowKit
section
variable {C : Ctx} {T : AT} {H : AH} {nx : Nat} {d : Option Tmp} {ty : TypeId} {pos : String} {after : Array Edge} {g : Option (Nat × Bool)}
theorem U_neqS {t t' : TypeId} {x y : Operand} {k : IntKind} {a : Int} (hx : ev T x = some (.int k a)) (hy : ev T y = some (.int k a)) : OpU C ⟨d, .binOp .neq t x y t', ty, pos, after, g⟩ T H nx (.bool false) [] nx := by
  have h := U_neq (C := C) (t := t) (t' := t') (d := d) (ty := ty) (pos := pos) (after := after) (g := g) (H := H) (nx := nx) hx hy
  rwa [decide_eq_false (fun k => k rfl)] at h
theorem U_sliceRL {t e z n l h : Nat} {c : Option Nat} {x : Operand} {lo hi : Option Operand} {cs cs' : List AV} [hT : TySl C.P t e z] (hx : ev T x = some (.ros cs n c)) (hlo : BndIs T lo 0 l) (hhi : BndIs T hi n h) (h1 : l < h) (h2 : h ≤ n) (hc : cs.drop (l * z) = cs') :
    OpU C ⟨d, .slice t x lo hi none, ty, pos, after, g⟩ T H nx (.ros cs' (h - l) (c.map (· - l))) [] nx := by
  subst hc; exact U_sliceR hx hlo hhi h1 h2
end
end Go.AE
end

section
namespace Go.AE
open Go.RowKit
section
variable {C : Ctx} {T : AT} {H : AH} {nx : Nat} {d : Option Tmp} {ty : TypeId} {pos : String} {after : Array Edge} {g : Option (Nat × Bool)}
theorem stLt {α : Type} {f : α → AV} {l : List α} {j : Nat} (h : j < l.length) : 0 + j * 1 + 1 ≤ (l.map f).length := by simp; omega
end
end Go.AE
end

section
namespace Go.Proofs.Ythlolelbmhfdbaa
set_option maxRecDepth 20000
open Go.AE
theorem any_false {α : Type} {p : α → Bool} {l : List α} (h : ∀ j (hj : j < l.length), p l[j] = false) : l.any p = false := by
  rw [List.any_eq_false]; intro x hx; obtain ⟨j, hj, rfl⟩ := List.getElem_of_mem hx; rw [h j hj]; simp
end Go.Proofs.Ythlolelbmhfdbaa
end

section
namespace Go.Proofs.Ythlolelbmhfdbaa
set_option maxRecDepth 20000
open Go.AE
theorem any_f {α : Type} {p : α → Bool} {l : List α} (h : ∀ j (hj : j < l.length), p l[j] = false) : l.any p = false := any_false h
theorem bef_succ {α : Type} {p : α → Bool} {l : List α} {k : Nat} (h : ∀ j (hj : j < l.length), j < k → p l[j] = false) (hk : k < l.length) (hp : p l[k] = false) : ∀ j (hj : j < l.length), j < k + 1 → p l[j] = false := fun j hj h2 => by
  rcases Nat.lt_succ_iff_lt_or_eq.1 h2 with h2 | rfl
  · exact h j hj h2
  · exact hp
theorem isBR_p (b : Bx) (H Z : Int) (hH : 1 ≤ H ∧ H ≤ 48) (hZ : 1 ≤ Z ∧ Z ≤ 24) : Pure Try.prog 74 [bxA b, i64 H, i64 Z] (.bool (isB b H Z)) := by
  refine pure_of_body Try.func74 (c := body Try.f74) rfl (by simp [Try.ntmps74]) fun w0 Φ0 => ?_
  refine W_seq rfl ?_
  refine W_reg rfl ?_
  refine Rv rfl rfl rfl (U_boxF rfl rfl rfl) rfl rfl ?_
  refine Rv rfl rfl rfl (U_assign rfl) rfl rfl ?_
  refine Re rfl ?_
  refine thenQ_n ?_
  refine W_seq rfl ?_
  refine W_seq rfl ?_
  refine Wjoin ⟨[(2, i64 Z), (3, .rop [i64 b.fr, i64 b.wd, i64 b.lo, i64 b.hi] 0), (26, .bool ((decide (b.fr < 0)) || ((decide (H ≤ b.fr)) || ((decide (b.wd < 1)) || (decide (H < b.wd))))))], [], 0, []⟩ ?_ ?_
  · refine W_reg rfl ?_
    refine Rv rfl rfl rfl (U_fieldAddrR rfl) rfl rfl ?_
    refine Rv rfl rfl rfl (U_load1 rfl rfl rfl) rfl rfl ?_
    refine Rv rfl rfl rfl (U_lss rfl rfl) rfl rfl ?_
    refine Rv rfl rfl rfl (U_move rfl) rfl rfl ?_
    refine Rsplit (t := 10) rfl (fun hg1 => ?_) (fun hg1 => ?_)
    · rw [hg1]
      have hg1' : b.fr < 0 := of_decide_eq_true hg1
      refine Rs rfl rfl rfl rfl rfl ?_
      refine Rs rfl rfl rfl rfl rfl ?_
      refine Rs rfl rfl rfl rfl rfl ?_
      refine Rs rfl rfl rfl rfl rfl ?_
      refine Rv rfl rfl rfl (U_pick_t rfl rfl) rfl rfl ?_
      refine Rv rfl rfl rfl (U_move rfl) rfl rfl ?_
      refine Rs rfl rfl rfl rfl rfl ?_
      refine Rs rfl rfl rfl rfl rfl ?_
      refine Rs rfl rfl rfl rfl rfl ?_
      refine Rv rfl rfl rfl (U_pick_t rfl rfl) rfl rfl ?_
      refine Rv rfl rfl rfl (U_move rfl) rfl rfl ?_
      refine Rs rfl rfl rfl rfl rfl ?_
      refine Rs rfl rfl rfl rfl rfl ?_
      refine Rs rfl rfl rfl rfl rfl ?_
      refine Rs rfl rfl rfl rfl rfl ?_
      refine Rv rfl rfl rfl (U_pick_t rfl rfl) rfl rfl ?_
      refine Re rfl ?_
      exact joinTo id ⟨eD rfl rfl, eD rfl rfl, eD rfl rfl, trivial⟩ trivial rfl rfl rfl rfl (fun _ _ => rfl)
    · rw [hg1]
      have hg1' : ¬ (b.fr < 0) := of_decide_eq_false hg1
      refine Rv rfl rfl rfl (U_fieldAddrR rfl) rfl rfl ?_
      refine Rv rfl rfl rfl (U_load1 rfl rfl rfl) rfl rfl ?_
      refine Rv rfl rfl rfl (U_move rfl) rfl rfl ?_
      refine Rv rfl rfl rfl (U_geq rfl rfl) rfl rfl ?_
      refine Rv rfl rfl rfl (U_pick_f rfl rfl) rfl rfl ?_
      refine Rv rfl rfl rfl (U_move rfl) rfl rfl ?_
      refine Rsplit (t := 16) rfl (fun hg2 => ?_) (fun hg2 => ?_)
      · rw [hg2]
        have hg2' : H ≤ b.fr := of_decide_eq_true hg2
        refine Rs rfl rfl rfl rfl rfl ?_
        refine Rs rfl rfl rfl rfl rfl ?_
        refine Rs rfl rfl rfl rfl rfl ?_
        refine Rv rfl rfl rfl (U_pick_t rfl rfl) rfl rfl ?_
        refine Rv rfl rfl rfl (U_move rfl) rfl rfl ?_
        refine Rs rfl rfl rfl rfl rfl ?_
        refine Rs rfl rfl rfl rfl rfl ?_
        refine Rs rfl rfl rfl rfl rfl ?_
        refine Rs rfl rfl rfl rfl rfl ?_
        refine Rv rfl rfl rfl (U_pick_t rfl rfl) rfl rfl ?_
        refine Re rfl ?_
        exact joinTo id ⟨eD rfl rfl, eD rfl rfl, eD rfl rfl, trivial⟩ trivial rfl rfl rfl rfl (fun _ _ => rfl)
      · rw [hg2]
        have hg2' : ¬ (H ≤ b.fr) := of_decide_eq_false hg2
        refine Rv rfl rfl rfl (U_fieldAddrR rfl) rfl rfl ?_
        refine Rv rfl rfl rfl (U_load1 rfl rfl rfl) rfl rfl ?_
        refine Rv rfl rfl rfl (U_lss rfl rfl) rfl rfl ?_
        refine Rv rfl rfl rfl (U_pick_f rfl rfl) rfl rfl ?_
        refine Rv rfl rfl rfl (U_move rfl) rfl rfl ?_
        refine Rsplit (t := 21) rfl (fun hg3 => ?_) (fun hg3 => ?_)
        · rw [hg3]
          have hg3' : b.wd < 1 := of_decide_eq_true hg3
          refine Rs rfl rfl rfl rfl rfl ?_
          refine Rs rfl rfl rfl rfl rfl ?_
          refine Rs rfl rfl rfl rfl rfl ?_
          refine Rs rfl rfl rfl rfl rfl ?_
          refine Rv rfl rfl rfl (U_pick_t rfl rfl) rfl rfl ?_
          refine Re rfl ?_
          exact joinTo id ⟨eD rfl rfl, eD rfl rfl, eD rfl rfl, trivial⟩ trivial rfl rfl rfl rfl (fun _ _ => rfl)
        · rw [hg3]
          have hg3' : ¬ (b.wd < 1) := of_decide_eq_false hg3
          refine Rv rfl rfl rfl (U_fieldAddrR rfl) rfl rfl ?_
          refine Rv rfl rfl rfl (U_load1 rfl rfl rfl) rfl rfl ?_
          refine Rv rfl rfl rfl (U_move rfl) rfl rfl ?_
          refine Rv rfl rfl rfl (U_gtr rfl rfl) rfl rfl ?_
          refine Rv rfl rfl rfl (U_pick_f rfl rfl) rfl rfl ?_
          refine Re rfl ?_
          exact joinTo id ⟨eD rfl rfl, eD rfl rfl, eD rfl rfl, trivial⟩ trivial rfl rfl rfl rfl (fun _ _ => rfl)
  refine thenQ_n ?_
  refine Wcond rfl rfl (fun hc0 => ?_) (fun hc0 => ?_)
  · refine W_seq rfl ?_
    refine W_reg rfl ?_
    refine Rv rfl rfl rfl (U_assign rfl) rfl rfl ?_
    refine Re rfl ?_
    refine thenQ_n ?_
    refine W_ret rfl ?_
    refine thenQ_r ?_
    exact retL (rlT rfl rl0) (by first | rfl | (simp only [packA]; congr 1; symm; unfold isB; rw [inL1, inL1, inL1, inL1, Bool.eq_false_iff]; intro h; simp at h hc0; omega; first | done | rfl) | (simp only [packA]; congr 1; unfold isB; rw [inL1, inL1, inL1, inL1, Bool.eq_iff_iff]; simp at hc0 ⊢; omega; first | done | rfl)) rfl
  · have hc0' := Bool.eq_false_iff.1 hc0
    refine W_skip rfl ?_
    refine thenQ_n ?_
    refine W_seq rfl ?_
    refine Wjoin ⟨[(6, .bool ((decide (0 ≤ b.lo)) && ((decide (b.lo < b.hi)) && (decide (b.hi ≤ Z)))))], [], 0, []⟩ ?_ ?_
    · refine W_reg rfl ?_
      refine Rv rfl rfl rfl (U_fieldAddrR rfl) rfl rfl ?_
      refine Rv rfl rfl rfl (U_load1 rfl rfl rfl) rfl rfl ?_
      refine Rv rfl rfl rfl (U_geq rfl rfl) rfl rfl ?_
      refine Rv rfl rfl rfl (U_move rfl) rfl rfl ?_
      refine Rsplit (t := 30) rfl (fun hg4 => ?_) (fun hg4 => ?_)
      · rw [hg4]
        have hg4' : 0 ≤ b.lo := of_decide_eq_true hg4
        refine Rv rfl rfl rfl (U_fieldAddrR rfl) rfl rfl ?_
        refine Rv rfl rfl rfl (U_load1 rfl rfl rfl) rfl rfl ?_
        refine Rv rfl rfl rfl (U_fieldAddrR rfl) rfl rfl ?_
        refine Rv rfl rfl rfl (U_load1 rfl rfl rfl) rfl rfl ?_
        refine Rv rfl rfl rfl (U_lss rfl rfl) rfl rfl ?_
        refine Rv rfl rfl rfl (U_pick_t rfl rfl) rfl rfl ?_
        refine Rv rfl rfl rfl (U_move rfl) rfl rfl ?_
        refine Rsplit (t := 37) rfl (fun hg5 => ?_) (fun hg5 => ?_)
        · rw [hg5]
          have hg5' : b.lo < b.hi := of_decide_eq_true hg5
          refine Rv rfl rfl rfl (U_fieldAddrR rfl) rfl rfl ?_
          refine Rv rfl rfl rfl (U_load1 rfl rfl rfl) rfl rfl ?_
          refine Rv rfl rfl rfl (U_move rfl) rfl rfl ?_
          refine Rv rfl rfl rfl (U_leq rfl rfl) rfl rfl ?_
          refine Rv rfl rfl rfl (U_pick_t rfl rfl) rfl rfl ?_
          refine Rv rfl rfl rfl (U_assign rfl) rfl rfl ?_
          refine Re rfl ?_
          exact joinTo id ⟨eD rfl rfl, trivial⟩ trivial rfl rfl rfl rfl (fun _ _ => rfl)
        · rw [hg5]
          have hg5' : ¬ (b.lo < b.hi) := of_decide_eq_false hg5
          refine Rs rfl rfl rfl rfl rfl ?_
          refine Rs rfl rfl rfl rfl rfl ?_
          refine Rs rfl rfl rfl rfl rfl ?_
          refine Rs rfl rfl rfl rfl rfl ?_
          refine Rv rfl rfl rfl (U_pick_f rfl rfl) rfl rfl ?_
          refine Rv rfl rfl rfl (U_assign rfl) rfl rfl ?_
          refine Re rfl ?_
          exact joinTo id ⟨eD rfl rfl, trivial⟩ trivial rfl rfl rfl rfl (fun _ _ => rfl)
      · rw [hg4]
        have hg4' : ¬ (0 ≤ b.lo) := of_decide_eq_false hg4
        refine Rs rfl rfl rfl rfl rfl ?_
        refine Rs rfl rfl rfl rfl rfl ?_
        refine Rs rfl rfl rfl rfl rfl ?_
        refine Rs rfl rfl rfl rfl rfl ?_
        refine Rs rfl rfl rfl rfl rfl ?_
        refine Rv rfl rfl rfl (U_pick_f rfl rfl) rfl rfl ?_
        refine Rv rfl rfl rfl (U_move rfl) rfl rfl ?_
        refine Rs rfl rfl rfl rfl rfl ?_
        refine Rs rfl rfl rfl rfl rfl ?_
        refine Rs rfl rfl rfl rfl rfl ?_
        refine Rs rfl rfl rfl rfl rfl ?_
        refine Rv rfl rfl rfl (U_pick_f rfl rfl) rfl rfl ?_
        refine Rv rfl rfl rfl (U_assign rfl) rfl rfl ?_
        refine Re rfl ?_
        exact joinTo id ⟨eD rfl rfl, trivial⟩ trivial rfl rfl rfl rfl (fun _ _ => rfl)
    refine thenQ_n ?_
    refine W_ret rfl ?_
    exact retL (rlT rfl rl0) (by first | rfl | (simp only [packA]; congr 1; symm; unfold isB; rw [inL1, inL1, inL1, inL1, Bool.eq_false_iff]; intro h; simp at h hc0; omega; first | done | rfl) | (simp only [packA]; congr 1; unfold isB; rw [inL1, inL1, inL1, inL1, Bool.eq_iff_iff]; simp at hc0 ⊢; omega; first | done | rfl)) rfl
theorem chkSR_p (s : Sk) (c : Option Nat) (hl : s.ls.length ≤ 1000000) (hbl : ∀ l ∈ s.ls, l.length ≤ 1000000) : Pure Try.prog 23 [.agg [i64 s.h, i64 s.z, landsA s.ls c]] (i64 (chkS s)) := by
  refine pure_of_body Try.func23 (c := body Try.f23) rfl (by simp [Try.ntmps23]) fun w0 Φ0 => ?_
  refine W_seq rfl ?_
  refine W_reg rfl ?_
  refine Rv rfl rfl rfl (U_boxF rfl rfl rfl) rfl rfl ?_
  refine Rv rfl rfl rfl (U_assign rfl) rfl rfl ?_
  refine Re rfl ?_
  refine thenQ_n ?_
  refine W_seq rfl ?_
  refine W_seq rfl ?_
  refine Wjoin ⟨[(1, .rop [i64 s.h, i64 s.z, .ros (s.ls.map boxesL) s.ls.length c] 0), (23, .bool ((decide (s.h < 1)) || ((decide (48 < s.h)) || ((decide (s.z < 1)) || (decide (24 < s.z))))))], [], 0, []⟩ ?_ ?_
  · refine W_reg rfl ?_
    refine Rv rfl rfl rfl (U_fieldAddrR rfl) rfl rfl ?_
    refine Rv rfl rfl rfl (U_load1 rfl rfl rfl) rfl rfl ?_
    refine Rv rfl rfl rfl (U_lss rfl rfl) rfl rfl ?_
    refine Rv rfl rfl rfl (U_move rfl) rfl rfl ?_
    refine Rsplit (t := 9) rfl (fun hg1 => ?_) (fun hg1 => ?_)
    · rw [hg1]
      have hg1' : s.h < 1 := of_decide_eq_true hg1
      refine Rs rfl rfl rfl rfl rfl ?_
      refine Rs rfl rfl rfl rfl rfl ?_
      refine Rs rfl rfl rfl rfl rfl ?_
      refine Rv rfl rfl rfl (U_pick_t rfl rfl) rfl rfl ?_
      refine Rv rfl rfl rfl (U_move rfl) rfl rfl ?_
      refine Rs rfl rfl rfl rfl rfl ?_
      refine Rs rfl rfl rfl rfl rfl ?_
      refine Rs rfl rfl rfl rfl rfl ?_
      refine Rv rfl rfl rfl (U_pick_t rfl rfl) rfl rfl ?_
      refine Rv rfl rfl rfl (U_move rfl) rfl rfl ?_
      refine Rs rfl rfl rfl rfl rfl ?_
      refine Rs rfl rfl rfl rfl rfl ?_
      refine Rs rfl rfl rfl rfl rfl ?_
      refine Rv rfl rfl rfl (U_pick_t rfl rfl) rfl rfl ?_
      refine Re rfl ?_
      exact joinTo id ⟨eD rfl rfl, eD rfl rfl, trivial⟩ trivial rfl rfl rfl rfl (fun _ _ => rfl)
    · rw [hg1]
      have hg1' : ¬ (s.h < 1) := of_decide_eq_false hg1
      refine Rv rfl rfl rfl (U_fieldAddrR rfl) rfl rfl ?_
      refine Rv rfl rfl rfl (U_load1 rfl rfl rfl) rfl rfl ?_
      refine Rv rfl rfl rfl (U_gtr rfl rfl) rfl rfl ?_
      refine Rv rfl rfl rfl (U_pick_f rfl rfl) rfl rfl ?_
      refine Rv rfl rfl rfl (U_move rfl) rfl rfl ?_
      refine Rsplit (t := 14) rfl (fun hg2 => ?_) (fun hg2 => ?_)
      · rw [hg2]
        have hg2' : 48 < s.h := of_decide_eq_true hg2
        refine Rs rfl rfl rfl rfl rfl ?_
        refine Rs rfl rfl rfl rfl rfl ?_
        refine Rs rfl rfl rfl rfl rfl ?_
        refine Rv rfl rfl rfl (U_pick_t rfl rfl) rfl rfl ?_
        refine Rv rfl rfl rfl (U_move rfl) rfl rfl ?_
        refine Rs rfl rfl rfl rfl rfl ?_
        refine Rs rfl rfl rfl rfl rfl ?_
        refine Rs rfl rfl rfl rfl rfl ?_
        refine Rv rfl rfl rfl (U_pick_t rfl rfl) rfl rfl ?_
        refine Re rfl ?_
        exact joinTo id ⟨eD rfl rfl, eD rfl rfl, trivial⟩ trivial rfl rfl rfl rfl (fun _ _ => rfl)
      · rw [hg2]
        have hg2' : ¬ (48 < s.h) := of_decide_eq_false hg2
        refine Rv rfl rfl rfl (U_fieldAddrR rfl) rfl rfl ?_
        refine Rv rfl rfl rfl (U_load1 rfl rfl rfl) rfl rfl ?_
        refine Rv rfl rfl rfl (U_lss rfl rfl) rfl rfl ?_
        refine Rv rfl rfl rfl (U_pick_f rfl rfl) rfl rfl ?_
        refine Rv rfl rfl rfl (U_move rfl) rfl rfl ?_
        refine Rsplit (t := 19) rfl (fun hg3 => ?_) (fun hg3 => ?_)
        · rw [hg3]
          have hg3' : s.z < 1 := of_decide_eq_true hg3
          refine Rs rfl rfl rfl rfl rfl ?_
          refine Rs rfl rfl rfl rfl rfl ?_
          refine Rs rfl rfl rfl rfl rfl ?_
          refine Rv rfl rfl rfl (U_pick_t rfl rfl) rfl rfl ?_
          refine Re rfl ?_
          exact joinTo id ⟨eD rfl rfl, eD rfl rfl, trivial⟩ trivial rfl rfl rfl rfl (fun _ _ => rfl)
        · rw [hg3]
          have hg3' : ¬ (s.z < 1) := of_decide_eq_false hg3
          refine Rv rfl rfl rfl (U_fieldAddrR rfl) rfl rfl ?_
          refine Rv rfl rfl rfl (U_load1 rfl rfl rfl) rfl rfl ?_
          refine Rv rfl rfl rfl (U_gtr rfl rfl) rfl rfl ?_
          refine Rv rfl rfl rfl (U_pick_f rfl rfl) rfl rfl ?_
          refine Re rfl ?_
          exact joinTo id ⟨eD rfl rfl, eD rfl rfl, trivial⟩ trivial rfl rfl rfl rfl (fun _ _ => rfl)
  refine thenQ_n ?_
  refine Wcond rfl rfl (fun hc0 => ?_) (fun hc0 => ?_)
  · have hce : chkS s = 3 := by rw [chkS, if_pos (by rw [inL1, inL1]; simp at hc0 ⊢; omega)]
    refine W_seq rfl ?_
    refine W_reg rfl ?_
    refine Rv rfl rfl rfl (U_assign rfl) rfl rfl ?_
    refine Re rfl ?_
    refine thenQ_n ?_
    refine W_ret rfl ?_
    refine thenQ_r ?_
    exact retL (rlT rfl rl0) (by first | rfl | (simp only [packA]; rw [hce]; first | done | rfl)) rfl
  · have hc0' := Bool.eq_false_iff.1 hc0
    have hr : (1 ≤ s.h ∧ s.h ≤ 48) ∧ 1 ≤ s.z ∧ s.z ≤ 24 := by simp at hc0; omega
    obtain ⟨hh, hz⟩ := hr
    refine W_skip rfl ?_
    refine thenQ_n ?_
    refine W_seq rfl ?_
    refine W_seq rfl ?_
    refine W_reg rfl ?_
    refine Rv rfl rfl rfl (U_fieldAddrR rfl) rfl rfl ?_
    refine Rv rfl rfl rfl (U_load1 rfl rfl rfl) rfl rfl ?_
    refine Rv rfl rfl rfl (U_lenOf rfl len_ros) rfl rfl ?_
    refine Rv rfl rfl rfl (U_gtr rfl rfl) rfl rfl ?_
    refine Re rfl ?_
    refine thenQ_n ?_
    refine WcondP rfl rfl (fun hc1 => ?_) (fun hc1 => ?_)
    · have hce : chkS s = 6 := by rw [chkS, if_neg (by rw [inL1, inL1]; simp; omega), if_pos (by simp; omega)]
      refine W_seq rfl ?_
      refine W_reg rfl ?_
      refine Rv rfl rfl rfl (U_assign rfl) rfl rfl ?_
      refine Re rfl ?_
      refine thenQ_n ?_
      refine W_ret rfl ?_
      refine thenQ_r ?_
      exact retL (rlT rfl rl0) (by first | rfl | (simp only [packA]; rw [hce]; first | done | rfl)) rfl
    · refine W_skip rfl ?_
      refine thenQ_n ?_
      refine W_seq rfl ?_
      refine W_seq rfl ?_
      refine W_reg rfl ?_
      refine Rv rfl rfl rfl (U_assign rfl) rfl rfl ?_
      refine Re rfl ?_
      refine thenQ_n ?_
      refine W_block rfl ?_
      refine LoopTo (T' := [(1, .rop [i64 s.h, i64 s.z, .ros (s.ls.map boxesL) s.ls.length c] 0), (3, i64 ((0 : Nat) : Int))]) (H' := []) (n := 0) rfl (fun mz_ qz_ => ∃ (k : Nat), k ≤ s.ls.length ∧ (∀ j (hj : j < s.ls.length), j < k → decide ((600 : Int) < ((s.ls[j].length : Nat) : Int)) = false) ∧ mz_ = s.ls.length - k ∧ qz_ = ⟨[(1, .rop [i64 s.h, i64 s.z, .ros (s.ls.map boxesL) s.ls.length c] 0), (3, i64 ((k : Nat) : Int))], [], 0, []⟩) ⟨0, (by omega), (fun j hj h => absurd h (Nat.not_lt_zero _)), rfl, rfl⟩ id ⟨eD rfl rfl, eD rfl rfl, trivial⟩ trivial rfl rfl rfl rfl (fun _ _ => rfl) ?_
      rintro _ _ ⟨k, hi0_0, hi0_1, rfl, rfl⟩
      refine W_seq rfl ?_
      refine W_seq rfl ?_
      refine W_reg rfl ?_
      refine Rv rfl rfl rfl (U_move rfl) rfl rfl ?_
      refine Rv rfl rfl rfl (U_fieldAddrR rfl) rfl rfl ?_
      refine Rv rfl rfl rfl (U_load1 rfl rfl rfl) rfl rfl ?_
      refine Rv rfl rfl rfl (U_lenOf rfl len_ros) rfl rfl ?_
      refine Rv rfl rfl rfl (U_lss rfl rfl) rfl rfl ?_
      refine Re rfl ?_
      refine thenQ_n ?_
      refine WcondP rfl rfl (fun hc2 => ?_) (fun hc2 => ?_)
      · have hck : k < s.ls.length := by omega
        refine W_skip rfl ?_
        refine thenQ_n ?_
        refine W_seq rfl ?_
        refine W_block rfl ?_
        refine W_seq rfl ?_
        refine W_reg rfl ?_
        refine Rv rfl rfl rfl (U_fieldAddrR rfl) rfl rfl ?_
        refine Rv rfl rfl rfl (U_load1 rfl rfl rfl) rfl rfl ?_
        refine Rv rfl rfl rfl (U_move rfl) rfl rfl ?_
        have hx4 : k < s.ls.length := by omega
        refine Rv rfl rfl rfl (U_indexR (j := k) rfl rfl rfl hx4) rfl rfl ?_
        refine Rv rfl rfl rfl (U_load1 rfl rfl (getM hx4)) rfl rfl ?_
        refine Rv rfl rfl rfl (U_lenOf rfl len_ros) rfl rfl ?_
        refine Rv rfl rfl rfl (U_gtr rfl rfl) rfl rfl ?_
        refine Re rfl ?_
        refine thenQ_n ?_
        refine WcondP rfl rfl (fun hc3 => ?_) (fun hc3 => ?_)
        · have h600 : (s.ls.any fun l => decide ((600 : Int) < ((l.length : Nat) : Int))) = true := any_true hck (by simpa using hc3)
          have hce : chkS s = 6 := by rw [chkS, if_neg (by rw [inL1, inL1]; simp; omega), if_pos (by rw [h600]; simp)]
          refine W_seq rfl ?_
          refine W_reg rfl ?_
          refine Rv rfl rfl rfl (U_assign rfl) rfl rfl ?_
          refine Re rfl ?_
          refine thenQ_n ?_
          refine W_ret rfl ?_
          refine blkQ_r ?_
          refine thenQ_r ?_
          refine thenQ_r ?_
          refine blkQ_r ?_
          refine thenQ_r ?_
          exact retL (rlT rfl rl0) (by first | rfl | (simp only [packA]; rw [hce]; first | done | rfl)) rfl
        · refine W_skip rfl ?_
          refine blkQ_n ?_
          refine thenQ_n ?_
          refine W_reg rfl ?_
          refine Rv rfl rfl rfl (U_move rfl) rfl rfl ?_
          refine Rv rfl rfl rfl (U_add rfl rfl (w64e (m := ((k + 1 : Nat) : Int)) (by omega) (by omega) (by omega))) rfl rfl ?_
          refine Rv rfl rfl rfl (U_assign rfl) rfl rfl ?_
          refine Re rfl ?_
          refine thenQ_n ?_
          exact againTo (T' := [(1, .rop [i64 s.h, i64 s.z, .ros (s.ls.map boxesL) s.ls.length c] 0), (3, i64 (((k + 1) : Nat) : Int))]) (H' := []) (n := 0) (s.ls.length - (k + 1)) ⟨k + 1, (by omega), (bef_succ (p := fun l : List Bx => decide ((600 : Int) < ((l.length : Nat) : Int))) hi0_1 hck (by simp; omega)), rfl, rfl⟩ (by omega) id ⟨eD rfl rfl, eD rfl rfl, trivial⟩ trivial rfl rfl rfl rfl (fun _ _ => rfl)
      · have h600 : (s.ls.any fun l => decide ((600 : Int) < ((l.length : Nat) : Int))) = false := any_f fun j hj => hi0_1 j hj (by omega)
        refine W_exit rfl ?_
        refine thenQ_x ?_
        refine thenQ_x ?_
        refine blkQ_x rfl ?_
        refine thenQ_n ?_
        refine W_seq rfl ?_
        refine W_seq rfl ?_
        refine W_reg rfl ?_
        refine Rv rfl rfl rfl (U_assign rfl) rfl rfl ?_
        refine Re rfl ?_
        refine thenQ_n ?_
        refine W_block rfl ?_
        refine LoopTo (T' := [(1, .rop [i64 s.h, i64 s.z, .ros (s.ls.map boxesL) s.ls.length c] 0), (4, i64 ((0 : Nat) : Int))]) (H' := []) (n := 0) rfl (fun mz_ qz_ => ∃ (m : Nat), m ≤ s.ls.length ∧ (∀ j (hj : j < s.ls.length), j < m → (s.ls[j].any fun b => !isB b s.h s.z) = false) ∧ mz_ = s.ls.length - m ∧ qz_ = ⟨[(1, .rop [i64 s.h, i64 s.z, .ros (s.ls.map boxesL) s.ls.length c] 0), (4, i64 ((m : Nat) : Int))], [], 0, []⟩) ⟨0, (by omega), (fun j hj h => absurd h (Nat.not_lt_zero _)), rfl, rfl⟩ id ⟨eD rfl rfl, eD rfl rfl, trivial⟩ trivial rfl rfl rfl rfl (fun _ _ => rfl) ?_
        rintro _ _ ⟨m, hi1_0, hi1_1, rfl, rfl⟩
        refine W_seq rfl ?_
        refine W_seq rfl ?_
        refine W_reg rfl ?_
        refine Rv rfl rfl rfl (U_move rfl) rfl rfl ?_
        refine Rv rfl rfl rfl (U_fieldAddrR rfl) rfl rfl ?_
        refine Rv rfl rfl rfl (U_load1 rfl rfl rfl) rfl rfl ?_
        refine Rv rfl rfl rfl (U_lenOf rfl len_ros) rfl rfl ?_
        refine Rv rfl rfl rfl (U_lss rfl rfl) rfl rfl ?_
        refine Re rfl ?_
        refine thenQ_n ?_
        refine WcondP rfl rfl (fun hc4 => ?_) (fun hc4 => ?_)
        · have hcm : m < s.ls.length := by omega
          have hbm := hbl _ (List.getElem_mem hcm)
          refine W_skip rfl ?_
          refine thenQ_n ?_
          refine W_seq rfl ?_
          refine W_block rfl ?_
          refine W_seq rfl ?_
          refine W_reg rfl ?_
          refine Rv rfl rfl rfl (U_assign rfl) rfl rfl ?_
          refine Re rfl ?_
          refine thenQ_n ?_
          refine W_block rfl ?_
          refine LoopTo (T' := [(1, .rop [i64 s.h, i64 s.z, .ros (s.ls.map boxesL) s.ls.length c] 0), (4, i64 ((m : Nat) : Int)), (5, i64 ((0 : Nat) : Int))]) (H' := []) (n := 0) rfl (fun mz_ qz_ => ∃ (i : Nat), i ≤ s.ls[m].length ∧ (∀ j (hj : j < s.ls[m].length), j < i → (!isB s.ls[m][j] s.h s.z) = false) ∧ mz_ = s.ls[m].length - i ∧ qz_ = ⟨[(1, .rop [i64 s.h, i64 s.z, .ros (s.ls.map boxesL) s.ls.length c] 0), (4, i64 ((m : Nat) : Int)), (5, i64 ((i : Nat) : Int))], [], 0, []⟩) ⟨0, (by omega), (fun j hj h => absurd h (Nat.not_lt_zero _)), rfl, rfl⟩ id ⟨eD rfl rfl, eD rfl rfl, eD rfl rfl, trivial⟩ trivial rfl rfl rfl rfl (fun _ _ => rfl) ?_
          rintro _ _ ⟨i, hi2_0, hi2_1, rfl, rfl⟩
          refine W_seq rfl ?_
          refine W_seq rfl ?_
          refine W_reg rfl ?_
          refine Rv rfl rfl rfl (U_move rfl) rfl rfl ?_
          refine Rv rfl rfl rfl (U_fieldAddrR rfl) rfl rfl ?_
          refine Rv rfl rfl rfl (U_load1 rfl rfl rfl) rfl rfl ?_
          refine Rv rfl rfl rfl (U_move rfl) rfl rfl ?_
          have hx5 : m < s.ls.length := by omega
          refine Rv rfl rfl rfl (U_indexR (j := m) rfl rfl rfl hx5) rfl rfl ?_
          refine Rv rfl rfl rfl (U_load1 rfl rfl (getM hx5)) rfl rfl ?_
          refine Rv rfl rfl rfl (U_lenOf rfl len_ros) rfl rfl ?_
          refine Rv rfl rfl rfl (U_lss rfl rfl) rfl rfl ?_
          refine Re rfl ?_
          refine thenQ_n ?_
          refine WcondP rfl rfl (fun hc5 => ?_) (fun hc5 => ?_)
          · have hci : i < s.ls[m].length := by omega
            refine W_skip rfl ?_
            refine thenQ_n ?_
            refine W_seq rfl ?_
            refine W_block rfl ?_
            refine W_seq rfl ?_
            refine Wdraw rfl (by kernel_rfl) (by kernel_rfl) ?_
            refine Dv rfl rfl rfl (U_fieldAddrR rfl) rfl rfl ?_
            refine Dv rfl rfl rfl (U_load1 rfl rfl rfl) rfl rfl ?_
            refine Dv rfl rfl rfl (U_move rfl) rfl rfl ?_
            refine Dv rfl rfl rfl (U_indexR (j := m) rfl rfl rfl hx5) rfl rfl ?_
            refine Dv rfl rfl rfl (U_load1 rfl rfl (getM hx5)) rfl rfl ?_
            refine Dv rfl rfl rfl (U_move rfl) rfl rfl ?_
            have hx6 : i < s.ls[m].length := by omega
            refine Dv rfl rfl rfl (U_indexR (j := i) rfl rfl rfl hx6) rfl rfl ?_
            refine Dv rfl rfl rfl (U_load4 rfl rfl (bxG0 hx6) (bxG1 hx6) (bxG2 hx6) (bxG3 hx6)) rfl rfl ?_
            refine Dv rfl rfl rfl (U_fieldAddrR rfl) rfl rfl ?_
            refine Dv rfl rfl rfl (U_load1 rfl rfl rfl) rfl rfl ?_
            refine Dv rfl rfl rfl (U_fieldAddrR rfl) rfl rfl ?_
            refine Dv rfl rfl rfl (U_load1 rfl rfl rfl) rfl rfl ?_
            refine Dv rfl rfl rfl (U_call rfl rfl (isBR_p (s.ls[m][i]) s.h s.z (by assumption) (by assumption)) rfl) rfl rfl ?_
            refine Dv rfl rfl rfl (U_not rfl) rfl rfl ?_
            refine Dr.nil rfl ?_
            refine thenQ_n ?_
            refine Wcond rfl rfl (fun hc6 => ?_) (fun hc6 => ?_)
            · have hst : (s.ls.any fun l => l.any fun b => !isB b s.h s.z) = true := any_true hcm (any_true hci (by simpa using hc6))
              have hce : chkS s = 2 := by rw [chkS, if_neg (by rw [inL1, inL1]; simp; omega), if_neg (by rw [h600]; simp; omega), if_pos hst]
              refine W_seq rfl ?_
              refine W_reg rfl ?_
              refine Rv rfl rfl rfl (U_assign rfl) rfl rfl ?_
              refine Re rfl ?_
              refine thenQ_n ?_
              refine W_ret rfl ?_
              refine blkQ_r ?_
              refine thenQ_r ?_
              refine thenQ_r ?_
              refine blkQ_r ?_
              refine blkQ_r ?_
              refine thenQ_r ?_
              refine thenQ_r ?_
              refine blkQ_r ?_
              refine thenQ_r ?_
              exact retL (rlT rfl rl0) (by first | rfl | (simp only [packA]; rw [hce]; first | done | rfl)) rfl
            · have hc6' := Bool.eq_false_iff.1 hc6
              refine W_skip rfl ?_
              refine blkQ_n ?_
              refine thenQ_n ?_
              refine W_reg rfl ?_
              refine Rv rfl rfl rfl (U_move rfl) rfl rfl ?_
              refine Rv rfl rfl rfl (U_add rfl rfl (w64e (m := ((i + 1 : Nat) : Int)) (by omega) (by omega) (by omega))) rfl rfl ?_
              refine Rv rfl rfl rfl (U_assign rfl) rfl rfl ?_
              refine Re rfl ?_
              refine thenQ_n ?_
              exact againTo (T' := [(1, .rop [i64 s.h, i64 s.z, .ros (s.ls.map boxesL) s.ls.length c] 0), (4, i64 ((m : Nat) : Int)), (5, i64 (((i + 1) : Nat) : Int))]) (H' := []) (n := 0) (s.ls[m].length - (i + 1)) ⟨i + 1, (by omega), (bef_succ (p := fun b : Bx => !isB b s.h s.z) hi2_1 hci (by simpa using hc6)), rfl, rfl⟩ (by omega) id ⟨eD rfl rfl, eD rfl rfl, eD rfl rfl, trivial⟩ trivial rfl rfl rfl rfl (fun _ _ => rfl)
          · have hla : (s.ls[m].any fun b => !isB b s.h s.z) = false := any_f fun j hj => hi2_1 j hj (by omega)
            refine W_exit rfl ?_
            refine thenQ_x ?_
            refine thenQ_x ?_
            refine blkQ_x rfl ?_
            refine blkQ_n ?_
            refine thenQ_n ?_
            refine W_reg rfl ?_
            refine Rv rfl rfl rfl (U_move rfl) rfl rfl ?_
            refine Rv rfl rfl rfl (U_add rfl rfl (w64e (m := ((m + 1 : Nat) : Int)) (by omega) (by omega) (by omega))) rfl rfl ?_
            refine Rv rfl rfl rfl (U_assign rfl) rfl rfl ?_
            refine Re rfl ?_
            refine thenQ_n ?_
            exact againTo (T' := [(1, .rop [i64 s.h, i64 s.z, .ros (s.ls.map boxesL) s.ls.length c] 0), (4, i64 (((m + 1) : Nat) : Int))]) (H' := []) (n := 0) (s.ls.length - (m + 1)) ⟨m + 1, (by omega), (bef_succ (p := fun l : List Bx => l.any fun b => !isB b s.h s.z) hi1_1 hcm hla), rfl, rfl⟩ (by omega) id ⟨eD rfl rfl, eD rfl rfl, trivial⟩ trivial rfl rfl rfl rfl (fun _ _ => rfl)
        · have hst : (s.ls.any fun l => l.any fun b => !isB b s.h s.z) = false := any_f fun j hj => hi1_1 j hj (by omega)
          have hce : chkS s = 0 := by rw [chkS, if_neg (by rw [inL1, inL1]; simp; omega), if_neg (by rw [h600]; simp; omega), if_neg (by rw [hst]; simp)]
          refine W_exit rfl ?_
          refine thenQ_x ?_
          refine thenQ_x ?_
          refine blkQ_x rfl ?_
          refine thenQ_n ?_
          refine W_seq rfl ?_
          refine W_reg rfl ?_
          refine Rv rfl rfl rfl (U_assign rfl) rfl rfl ?_
          refine Re rfl ?_
          refine thenQ_n ?_
          refine W_ret rfl ?_
          exact retL (rlT rfl rl0) (by first | rfl | (simp only [packA]; rw [hce]; first | done | rfl)) rfl
end Go.Proofs.Ythlolelbmhfdbaa
end

section
namespace Go.Proofs.Ythlolelbmhfdbaa
set_option maxRecDepth 20000
open Go.AE
theorem inBoxR_p (b : Bx) (H z h : Nat) (hH : 1 ≤ H ∧ H ≤ 48) (hf : 0 ≤ b.fr ∧ b.fr < H) (hh : h < H) : Pure Try.prog 92 [bxA b, i64 (H : Nat), i64 (h : Nat), i64 (z : Nat)] (.bool (inN b H z h)) := by
  refine pure_of_body Try.func92 (c := body Try.f92) rfl (by simp [Try.ntmps92]) fun w0 Φ0 => ?_
  refine W_seq rfl ?_
  refine W_reg rfl ?_
  refine Rv rfl rfl rfl (U_boxF rfl rfl rfl) rfl rfl ?_
  refine Rv rfl rfl rfl (U_assign rfl) rfl rfl ?_
  refine Re rfl ?_
  refine thenQ_n ?_
  refine W_seq rfl ?_
  refine Wjoin ⟨[(8, .bool ((decide ((((((h : Nat) : Int) - b.fr) + ((H : Nat) : Int)) % ((H : Nat) : Int)) < b.wd)) && ((decide (b.lo ≤ ((z : Nat) : Int))) && (decide (((z : Nat) : Int) < b.hi)))))], [], 0, []⟩ ?_ ?_
  · refine Wdraw rfl (by kernel_rfl) (by kernel_rfl) ?_
    refine Dv rfl rfl rfl (U_move rfl) rfl rfl ?_
    refine Dv rfl rfl rfl (U_fieldAddrR rfl) rfl rfl ?_
    refine Dv rfl rfl rfl (U_load1 rfl rfl rfl) rfl rfl ?_
    refine Dv rfl rfl rfl (U_sub rfl rfl (w64 (by omega) (by omega))) rfl rfl ?_
    refine Dv rfl rfl rfl (U_move rfl) rfl rfl ?_
    refine Dv rfl rfl rfl (U_add rfl rfl (w64 (by omega) (by omega))) rfl rfl ?_
    refine Dv rfl rfl rfl (U_move rfl) rfl rfl ?_
    refine Dv rfl rfl rfl (U_rem (c := (((((h : Nat) : Int) - b.fr) + ((H : Nat) : Int)) % ((H : Nat) : Int))) rfl rfl (by omega) (tmodP (by omega))) rfl rfl ?_
    refine Dv rfl rfl rfl (U_fieldAddrR rfl) rfl rfl ?_
    refine Dv rfl rfl rfl (U_load1 rfl rfl rfl) rfl rfl ?_
    refine Dv rfl rfl rfl (U_lss rfl rfl) rfl rfl ?_
    refine Dv rfl rfl rfl (U_move rfl) rfl rfl ?_
    refine Dsplit (t := 20) rfl (fun hg1 => ?_) (fun hg1 => ?_)
    · rw [hg1]
      have hg1' : (((((h : Nat) : Int) - b.fr) + ((H : Nat) : Int)) % ((H : Nat) : Int)) < b.wd := of_decide_eq_true hg1
      refine Dv rfl rfl rfl (U_move rfl) rfl rfl ?_
      refine Dv rfl rfl rfl (U_fieldAddrR rfl) rfl rfl ?_
      refine Dv rfl rfl rfl (U_load1 rfl rfl rfl) rfl rfl ?_
      refine Dv rfl rfl rfl (U_geq rfl rfl) rfl rfl ?_
      refine Dv rfl rfl rfl (U_pick_t rfl rfl) rfl rfl ?_
      refine Dv rfl rfl rfl (U_move rfl) rfl rfl ?_
      refine Dsplit (t := 26) rfl (fun hg2 => ?_) (fun hg2 => ?_)
      · rw [hg2]
        have hg2' : b.lo ≤ ((z : Nat) : Int) := of_decide_eq_true hg2
        refine Dv rfl rfl rfl (U_move rfl) rfl rfl ?_
        refine Dv rfl rfl rfl (U_fieldAddrR rfl) rfl rfl ?_
        refine Dv rfl rfl rfl (U_load1 rfl rfl rfl) rfl rfl ?_
        refine Dv rfl rfl rfl (U_lss rfl rfl) rfl rfl ?_
        refine Dv rfl rfl rfl (U_pick_t rfl rfl) rfl rfl ?_
        refine Dv rfl rfl rfl (U_assign rfl) rfl rfl ?_
        refine Dr.nil rfl ?_
        exact joinTo id ⟨eD rfl rfl, trivial⟩ trivial rfl rfl rfl rfl (fun _ _ => rfl)
      · rw [hg2]
        have hg2' : ¬ (b.lo ≤ ((z : Nat) : Int)) := of_decide_eq_false hg2
        refine Ds rfl rfl rfl rfl rfl ?_
        refine Ds rfl rfl rfl rfl rfl ?_
        refine Ds rfl rfl rfl rfl rfl ?_
        refine Ds rfl rfl rfl rfl rfl ?_
        refine Dv rfl rfl rfl (U_pick_f rfl rfl) rfl rfl ?_
        refine Dv rfl rfl rfl (U_assign rfl) rfl rfl ?_
        refine Dr.nil rfl ?_
        exact joinTo id ⟨eD rfl rfl, trivial⟩ trivial rfl rfl rfl rfl (fun _ _ => rfl)
    · rw [hg1]
      have hg1' : ¬ ((((((h : Nat) : Int) - b.fr) + ((H : Nat) : Int)) % ((H : Nat) : Int)) < b.wd) := of_decide_eq_false hg1
      refine Ds rfl rfl rfl rfl rfl ?_
      refine Ds rfl rfl rfl rfl rfl ?_
      refine Ds rfl rfl rfl rfl rfl ?_
      refine Ds rfl rfl rfl rfl rfl ?_
      refine Dv rfl rfl rfl (U_pick_f rfl rfl) rfl rfl ?_
      refine Dv rfl rfl rfl (U_move rfl) rfl rfl ?_
      refine Ds rfl rfl rfl rfl rfl ?_
      refine Ds rfl rfl rfl rfl rfl ?_
      refine Ds rfl rfl rfl rfl rfl ?_
      refine Ds rfl rfl rfl rfl rfl ?_
      refine Dv rfl rfl rfl (U_pick_f rfl rfl) rfl rfl ?_
      refine Dv rfl rfl rfl (U_assign rfl) rfl rfl ?_
      refine Dr.nil rfl ?_
      exact joinTo id ⟨eD rfl rfl, trivial⟩ trivial rfl rfl rfl rfl (fun _ _ => rfl)
  refine thenQ_n ?_
  refine W_ret rfl ?_
  exact retL (rlT rfl rl0) (by first | rfl | (simp only [packA]; congr 1; rw [Bool.eq_iff_iff]; simp only [inN, Bool.and_eq_true, decide_eq_true_eq]; simp; omega; first | done | rfl)) rfl
theorem inR_p (H Z : Nat) (ls : List (List Bx)) (c : Option Nat) (hv : VS ⟨H, Z, ls⟩ H Z) (a z h : Nat) (ha : a < ls.length) (hh : h < H) : Pure Try.prog 94 [.agg [i64 (H : Nat), i64 (Z : Nat), landsA ls c], i64 (a : Nat), i64 (h : Nat), i64 (z : Nat)] (.bool (inL' ls[a] H z h)) := by
  have hv' := hv
  obtain ⟨_, _, hH, hZ1, hln, hlb, hbx⟩ := hv'
  simp only at hln hlb hbx
  have hZ := hZ1.2
  have hHZ : Z * H ≤ 1152 := Nat.mul_le_mul hZ hH.2
  have hHZc : H * Z = Z * H := Nat.mul_comm _ _
  have hlba := hlb _ (List.getElem_mem ha)
  refine pure_of_body Try.func94 (c := body Try.f94) rfl (by simp [Try.ntmps94]) fun w0 Φ0 => ?_
  refine W_seq rfl ?_
  refine W_reg rfl ?_
  refine Rv rfl rfl rfl (U_boxF rfl rfl rfl) rfl rfl ?_
  refine Rv rfl rfl rfl (U_assign rfl) rfl rfl ?_
  refine Re rfl ?_
  refine thenQ_n ?_
  refine W_seq rfl ?_
  refine W_reg rfl ?_
  refine Rv rfl rfl rfl (U_fieldAddrR rfl) rfl rfl ?_
  refine Rv rfl rfl rfl (U_load1 rfl rfl rfl) rfl rfl ?_
  refine Rv rfl rfl rfl (U_move rfl) rfl rfl ?_
  have hx1 : a < ls.length := by omega
  refine Rv rfl rfl rfl (U_indexR (j := a) rfl rfl rfl hx1) rfl rfl ?_
  refine Rv rfl rfl rfl (U_load1 rfl rfl (getM hx1)) rfl rfl ?_
  refine Rv rfl rfl rfl (U_assign rfl) rfl rfl ?_
  refine Re rfl ?_
  refine thenQ_n ?_
  refine W_seq rfl ?_
  refine W_seq rfl ?_
  refine W_reg rfl ?_
  refine Rv rfl rfl rfl (U_assign rfl) rfl rfl ?_
  refine Re rfl ?_
  refine thenQ_n ?_
  refine W_block rfl ?_
  refine LoopTo (T' := [(2, i64 ((h : Nat) : Int)), (3, i64 ((z : Nat) : Int)), (4, .rop [i64 ((H : Nat) : Int), i64 ((Z : Nat) : Int), .ros (ls.map boxesL) ls.length c] 0), (9, .ros (ls[a].flatMap bxC) ls[a].length none), (10, i64 ((0 : Nat) : Int))]) (H' := []) (n := 0) rfl (fun mz_ qz_ => ∃ (k : Nat), k ≤ ls[a].length ∧ ((∀ j (hj : j < ls[a].length), j < k → inN ls[a][j] H z h = false)) ∧ mz_ = ls[a].length - k ∧ qz_ = ⟨[(2, i64 ((h : Nat) : Int)), (3, i64 ((z : Nat) : Int)), (4, .rop [i64 ((H : Nat) : Int), i64 ((Z : Nat) : Int), .ros (ls.map boxesL) ls.length c] 0), (9, .ros (ls[a].flatMap bxC) ls[a].length none), (10, i64 ((k : Nat) : Int))], [], 0, []⟩) ⟨0, (by omega), (fun j hj h => absurd h (Nat.not_lt_zero _)), rfl, rfl⟩ id ⟨eD rfl rfl, eD rfl rfl, eD rfl rfl, eD rfl rfl, eD rfl rfl, trivial⟩ trivial rfl rfl rfl rfl (fun _ _ => rfl) ?_
  rintro _ _ ⟨k, hi0_0, hi0_1, rfl, rfl⟩
  refine W_seq rfl ?_
  refine W_seq rfl ?_
  refine W_reg rfl ?_
  refine Rv rfl rfl rfl (U_move rfl) rfl rfl ?_
  refine Rv rfl rfl rfl (U_move rfl) rfl rfl ?_
  refine Rv rfl rfl rfl (U_lenOf rfl len_ros) rfl rfl ?_
  refine Rv rfl rfl rfl (U_lss rfl rfl) rfl rfl ?_
  refine Re rfl ?_
  refine thenQ_n ?_
  refine WcondP rfl rfl (fun hc0 => ?_) (fun hc0 => ?_)
  · have hck : k < ls[a].length := by omega
    have hbb := hbx _ (List.getElem_mem ha) _ (List.getElem_mem hck)
    refine W_skip rfl ?_
    refine thenQ_n ?_
    refine W_seq rfl ?_
    refine W_block rfl ?_
    refine W_seq rfl ?_
    refine Wdraw rfl (by kernel_rfl) (by kernel_rfl) ?_
    refine Dv rfl rfl rfl (U_move rfl) rfl rfl ?_
    refine Dv rfl rfl rfl (U_move rfl) rfl rfl ?_
    have hx2 : k < ls[a].length := by omega
    refine Dv rfl rfl rfl (U_indexR (j := k) rfl rfl rfl hx2) rfl rfl ?_
    refine Dv rfl rfl rfl (U_load4 rfl rfl (bxG0 hx2) (bxG1 hx2) (bxG2 hx2) (bxG3 hx2)) rfl rfl ?_
    refine Dv rfl rfl rfl (U_fieldAddrR rfl) rfl rfl ?_
    refine Dv rfl rfl rfl (U_load1 rfl rfl rfl) rfl rfl ?_
    refine Dv rfl rfl rfl (U_move rfl) rfl rfl ?_
    refine Dv rfl rfl rfl (U_move rfl) rfl rfl ?_
    refine Dv rfl rfl rfl (U_call rfl rfl (inBoxR_p (ls[a][k]) H z h (by omega) hbb.1 (by omega)) rfl) rfl rfl ?_
    refine Dr.nil rfl ?_
    refine thenQ_n ?_
    refine Wcond rfl rfl (fun hc1 => ?_) (fun hc1 => ?_)
    · refine W_seq rfl ?_
      refine W_reg rfl ?_
      refine Rv rfl rfl rfl (U_assign rfl) rfl rfl ?_
      refine Re rfl ?_
      refine thenQ_n ?_
      refine W_ret rfl ?_
      refine blkQ_r ?_
      refine thenQ_r ?_
      refine thenQ_r ?_
      refine blkQ_r ?_
      refine thenQ_r ?_
      exact retL (rlT rfl rl0) (by first | rfl | (simp only [packA]; rw [inL', show ls[a].any (fun b => inN b H z h) = true from any_true hck hc1]; simp [hh]; first | done | rfl) | (simp only [packA]; rw [inL', any_false fun j hj => hi0_1 j hj (by omega)]; simp; first | done | rfl)) rfl
    · have hc1' := Bool.eq_false_iff.1 hc1
      refine W_skip rfl ?_
      refine blkQ_n ?_
      refine thenQ_n ?_
      refine W_reg rfl ?_
      refine Rv rfl rfl rfl (U_move rfl) rfl rfl ?_
      refine Rv rfl rfl rfl (U_add rfl rfl (w64e (m := ((k + 1 : Nat) : Int)) (by omega) (by omega) (by omega))) rfl rfl ?_
      refine Rv rfl rfl rfl (U_assign rfl) rfl rfl ?_
      refine Re rfl ?_
      refine thenQ_n ?_
      exact againTo (T' := [(2, i64 ((h : Nat) : Int)), (3, i64 ((z : Nat) : Int)), (4, .rop [i64 ((H : Nat) : Int), i64 ((Z : Nat) : Int), .ros (ls.map boxesL) ls.length c] 0), (9, .ros (ls[a].flatMap bxC) ls[a].length none), (10, i64 (((k + 1) : Nat) : Int))]) (H' := []) (n := 0) (ls[a].length - (k + 1)) ⟨k + 1, (by omega), (by intro j hj h; rcases Nat.lt_succ_iff_lt_or_eq.1 h with h | rfl; exact hi0_1 j hj h; simpa using hc1), rfl, rfl⟩ (by omega) id ⟨eD rfl rfl, eD rfl rfl, eD rfl rfl, eD rfl rfl, eD rfl rfl, trivial⟩ trivial rfl rfl rfl rfl (fun _ _ => rfl)
  · refine W_exit rfl ?_
    refine thenQ_x ?_
    refine thenQ_x ?_
    refine blkQ_x rfl ?_
    refine thenQ_n ?_
    refine W_seq rfl ?_
    refine W_reg rfl ?_
    refine Rv rfl rfl rfl (U_assign rfl) rfl rfl ?_
    refine Re rfl ?_
    refine thenQ_n ?_
    refine W_ret rfl ?_
    exact retL (rlT rfl rl0) (by first | rfl | (simp only [packA]; rw [inL', show ls[a].any (fun b => inN b H z h) = true from any_true hck hc1]; simp [hh]; first | done | rfl) | (simp only [packA]; rw [inL', any_false fun j hj => hi0_1 j hj (by omega)]; simp; first | done | rfl)) rfl
abbrev fldA (l : List Nat) (n : Nat) : AV := .ros (l.map n64) n (some n)
def fldK (Z H : Nat) (l : List Bx) (m : Nat) : List Nat := (List.range (Z * H)).map fun i => if i < m then bitQ l H (i / H) (i % H) else 0
theorem fldK_len {Z H m : Nat} {l : List Bx} : (fldK Z H l m).length = Z * H := by simp [fldK]
theorem fldK_0 {Z H : Nat} {l : List Bx} : fldK Z H l 0 = List.replicate (H * Z) 0 := by
  apply List.ext_getElem (by simp [fldK, Nat.mul_comm])
  intro i h1 h2
  simp [fldK]
theorem fldK_all {Z H m : Nat} {l : List Bx} (h : Z * H ≤ m) : fldK Z H l m = fldQ Z H l := by
  refine List.map_congr_left fun i hi => ?_
  rw [if_pos (by have := List.mem_range.1 hi; omega)]
theorem zh_lt {Z H z h : Nat} (hz : z < Z) (hh : h < H) : z * H + h < Z * H := by
  have := Nat.mul_le_mul_right H (show z + 1 ≤ Z by omega)
  rw [Nat.add_mul] at this; omega
theorem fldK_t {Z H z h : Nat} {l : List Bx} (hz : z < Z) (hh : h < H) (e : inL' l H z h = true) : (fldK Z H l (z * H + h)).set (z * H + h) 1 = fldK Z H l (z * H + (h + 1)) := by
  apply List.ext_getElem (by simp [fldK])
  intro i h1 h2
  rw [List.getElem_set]
  have hd := zh_div (z := z) hh
  simp only [fldK, List.getElem_map, List.getElem_range]
  by_cases hi : z * H + h = i
  · subst hi; rw [if_pos rfl, if_pos (by omega), hd.1, hd.2, bitQ, if_pos e]
  · rw [if_neg hi]
    by_cases h3 : i < z * H + h
    · rw [if_pos h3, if_pos (by omega)]
    · rw [if_neg h3, if_neg (by omega)]
theorem fldK_f {Z H z h : Nat} {l : List Bx} (hz : z < Z) (hh : h < H) (e : ¬ inL' l H z h = true) : fldK Z H l (z * H + h) = fldK Z H l (z * H + (h + 1)) := by
  refine List.map_congr_left fun i hi => ?_
  have hd := zh_div (z := z) hh
  by_cases hi : z * H + h = i
  · subst hi; rw [if_neg (by omega), if_pos (by omega), hd.1, hd.2, bitQ, if_neg e]
  · by_cases h3 : i < z * H + h
    · rw [if_pos h3, if_pos (by omega)]
    · rw [if_neg h3, if_neg (by omega)]
theorem field_p (H Z : Nat) (ls : List (List Bx)) (c : Option Nat) (hv : VS ⟨H, Z, ls⟩ H Z) (a : Nat) (ha : a < ls.length) : Pure Try.prog 53 [.agg [i64 (H : Nat), i64 (Z : Nat), landsA ls c], i64 (a : Nat)] (fldA (fldQ Z H ls[a]) (H * Z)) := by
  have hv' := hv
  obtain ⟨_, _, hH, hZ1, hln, hlb, hbx⟩ := hv'
  simp only at hln hlb hbx
  have hZ := hZ1.2
  have hHZ : Z * H ≤ 1152 := Nat.mul_le_mul hZ hH.2
  have hHZc : H * Z = Z * H := Nat.mul_comm _ _
  refine pure_of_body Try.func53 (c := body Try.f53) rfl (by simp [Try.ntmps53]) fun w0 Φ0 => ?_
  refine W_seq rfl ?_
  refine W_reg rfl ?_
  refine Rv rfl rfl rfl (U_boxF rfl rfl rfl) rfl rfl ?_
  refine Rv rfl rfl rfl (U_assign rfl) rfl rfl ?_
  refine Re rfl ?_
  refine thenQ_n ?_
  refine W_seq rfl ?_
  refine W_reg rfl ?_
  refine Rv rfl rfl rfl (U_fieldAddrR rfl) rfl rfl ?_
  refine Rv rfl rfl rfl (U_load1 rfl rfl rfl) rfl rfl ?_
  refine Rv rfl rfl rfl (U_fieldAddrR rfl) rfl rfl ?_
  refine Rv rfl rfl rfl (U_load1 rfl rfl rfl) rfl rfl ?_
  refine Rv rfl rfl rfl (U_mul rfl rfl (w64e (m := ((H * Z : Nat) : Int)) (by omega) (by omega) (by omega))) rfl rfl ?_
  refine Ra rfl rfl rfl (U_mkL (n := H * Z) (cs' := (List.replicate (H * Z) (0 : Nat)).map n64) rfl rfl rfl (by omega) (replM rfl _)) rfl rfl rfl ?_
  refine Rv rfl rfl rfl (U_assign rfl) rfl rfl ?_
  refine Re rfl ?_
  refine thenQ_n ?_
  refine W_seq rfl ?_
  refine W_seq rfl ?_
  refine W_reg rfl ?_
  refine Rv rfl rfl rfl (U_assign rfl) rfl rfl ?_
  refine Re rfl ?_
  refine thenQ_n ?_
  refine W_block rfl ?_
  refine LoopTo (T' := [(1, i64 ((a : Nat) : Int)), (2, .rop [i64 ((H : Nat) : Int), i64 ((Z : Nat) : Int), .ros (ls.map boxesL) ls.length c] 0), (5, .slice 0 0 (H * Z) (H * Z)), (6, i64 ((0 : Nat) : Int))]) (H' := [(0, some (.cells ((List.replicate (H * Z) 0).map n64) 3))]) (n := 1) rfl (fun mz_ qz_ => ∃ (z : Nat) (f : List Nat), z ≤ Z ∧ f = fldK Z H ls[a] (z * H) ∧ mz_ = Z - z ∧ qz_ = ⟨[(1, i64 ((a : Nat) : Int)), (2, .rop [i64 ((H : Nat) : Int), i64 ((Z : Nat) : Int), .ros (ls.map boxesL) ls.length c] 0), (5, .slice 0 0 (H * Z) (H * Z)), (6, i64 ((z : Nat) : Int))], [(0, some (.cells (f.map n64) 3))], 1, []⟩) ⟨0, List.replicate (H * Z) 0, (by omega), (by rw [Nat.zero_mul, fldK_0]), rfl, rfl⟩ id ⟨eD rfl rfl, eD rfl rfl, e_ rfl rfl, eD rfl rfl, trivial⟩ ⟨rD (mapD (fun _ => rfl) _) rfl rfl, trivial⟩ rfl rfl rfl rfl (fun _ _ => rfl) ?_
  rintro _ _ ⟨z, f, hi0_0, hi0_1, rfl, rfl⟩
  refine W_seq rfl ?_
  refine W_seq rfl ?_
  refine W_reg rfl ?_
  refine Rv rfl rfl rfl (U_move rfl) rfl rfl ?_
  refine Rv rfl rfl rfl (U_fieldAddrR rfl) rfl rfl ?_
  refine Rv rfl rfl rfl (U_load1 rfl rfl rfl) rfl rfl ?_
  refine Rv rfl rfl rfl (U_lss rfl rfl) rfl rfl ?_
  refine Re rfl ?_
  refine thenQ_n ?_
  refine WcondP rfl rfl (fun hc0 => ?_) (fun hc0 => ?_)
  · have hcz : z < Z := by omega
    refine W_skip rfl ?_
    refine thenQ_n ?_
    refine W_seq rfl ?_
    refine W_block rfl ?_
    refine W_seq rfl ?_
    refine W_reg rfl ?_
    refine Rv rfl rfl rfl (U_assign rfl) rfl rfl ?_
    refine Re rfl ?_
    refine thenQ_n ?_
    refine W_block rfl ?_
    refine LoopTo (T' := [(1, i64 ((a : Nat) : Int)), (2, .rop [i64 ((H : Nat) : Int), i64 ((Z : Nat) : Int), .ros (ls.map boxesL) ls.length c] 0), (5, .slice 0 0 (H * Z) (H * Z)), (6, i64 ((z : Nat) : Int)), (7, i64 ((0 : Nat) : Int))]) (H' := [(0, some (.cells (f.map n64) 3))]) (n := 1) rfl (fun mz_ qz_ => ∃ (h : Nat) (f2 : List Nat), h ≤ H ∧ f2 = fldK Z H ls[a] (z * H + h) ∧ mz_ = H - h ∧ qz_ = ⟨[(1, i64 ((a : Nat) : Int)), (2, .rop [i64 ((H : Nat) : Int), i64 ((Z : Nat) : Int), .ros (ls.map boxesL) ls.length c] 0), (5, .slice 0 0 (H * Z) (H * Z)), (6, i64 ((z : Nat) : Int)), (7, i64 ((h : Nat) : Int))], [(0, some (.cells (f2.map n64) 3))], 1, []⟩) ⟨0, f, (by omega), (by rw [hi0_1]; rfl), rfl, rfl⟩ id ⟨eD rfl rfl, eD rfl rfl, e_ rfl rfl, eD rfl rfl, eD rfl rfl, trivial⟩ ⟨rD (mapD (fun _ => rfl) _) rfl rfl, trivial⟩ rfl rfl rfl rfl (fun _ _ => rfl) ?_
    rintro _ _ ⟨h, f2, hi1_0, hi1_1, rfl, rfl⟩
    have hfl : f2.length = Z * H := by rw [hi1_1, fldK_len]
    refine W_seq rfl ?_
    refine W_seq rfl ?_
    refine W_reg rfl ?_
    refine Rv rfl rfl rfl (U_move rfl) rfl rfl ?_
    refine Rv rfl rfl rfl (U_fieldAddrR rfl) rfl rfl ?_
    refine Rv rfl rfl rfl (U_load1 rfl rfl rfl) rfl rfl ?_
    refine Rv rfl rfl rfl (U_lss rfl rfl) rfl rfl ?_
    refine Re rfl ?_
    refine thenQ_n ?_
    refine WcondP rfl rfl (fun hc1 => ?_) (fun hc1 => ?_)
    · have hch : h < H := by omega
      have hzh := zh_lt hcz hch
      refine W_skip rfl ?_
      refine thenQ_n ?_
      refine W_seq rfl ?_
      refine W_block rfl ?_
      refine W_seq rfl ?_
      refine W_reg rfl ?_
      refine Rv rfl rfl rfl (U_load3 rfl rfl rfl rfl rfl) rfl rfl ?_
      refine Rv rfl rfl rfl (U_move rfl) rfl rfl ?_
      refine Rv rfl rfl rfl (U_move rfl) rfl rfl ?_
      refine Rv rfl rfl rfl (U_move rfl) rfl rfl ?_
      refine Rv rfl rfl rfl (U_call rfl rfl (inR_p H Z ls c hv a z h (by omega) (by omega)) rfl) rfl rfl ?_
      refine Re rfl ?_
      refine thenQ_n ?_
      refine Wcond rfl rfl (fun hc2 => ?_) (fun hc2 => ?_)
      · refine W_reg rfl ?_
        refine Rv rfl rfl rfl (U_move rfl) rfl rfl ?_
        refine Rv rfl rfl rfl (U_move rfl) rfl rfl ?_
        refine Rv rfl rfl rfl (U_fieldAddrR rfl) rfl rfl ?_
        refine Rv rfl rfl rfl (U_load1 rfl rfl rfl) rfl rfl ?_
        refine Rv rfl rfl rfl (U_mul rfl rfl (w64e (m := ((z * H : Nat) : Int)) (by omega) (by omega) (by omega))) rfl rfl ?_
        refine Rv rfl rfl rfl (U_move rfl) rfl rfl ?_
        refine Rv rfl rfl rfl (U_add rfl rfl (w64e (m := ((z * H + h : Nat) : Int)) (by omega) (by omega) (by omega))) rfl rfl ?_
        have hx1 : (z * H + h) < f2.length := by omega
        refine Rv rfl rfl rfl (U_indexS (j := (z * H + h)) rfl rfl rfl (by omega)) rfl rfl ?_
        refine Rn rfl rfl rfl (U_store (n := 1) (cs' := (f2.set (z * H + h) 1).map n64) rfl rfl rfl rfl rfl (stLt hx1) rfl setM) rfl ?_
        refine Re rfl ?_
        refine blkQ_n ?_
        refine thenQ_n ?_
        refine W_reg rfl ?_
        refine Rv rfl rfl rfl (U_move rfl) rfl rfl ?_
        refine Rv rfl rfl rfl (U_add rfl rfl (w64e (m := ((h + 1 : Nat) : Int)) (by omega) (by omega) (by omega))) rfl rfl ?_
        refine Rv rfl rfl rfl (U_assign rfl) rfl rfl ?_
        refine Re rfl ?_
        refine thenQ_n ?_
        exact againTo (T' := [(1, i64 ((a : Nat) : Int)), (2, .rop [i64 ((H : Nat) : Int), i64 ((Z : Nat) : Int), .ros (ls.map boxesL) ls.length c] 0), (5, .slice 0 0 (H * Z) (H * Z)), (6, i64 ((z : Nat) : Int)), (7, i64 (((h + 1) : Nat) : Int))]) (H' := [(0, some (.cells ((f2.set (z * H + h) 1).map n64) 3))]) (n := 1) (H - (h + 1)) ⟨h + 1, f2.set (z * H + h) 1, (by omega), (by first | (rw [hi1_1]; exact fldK_t (by omega) (by omega) hc2) | (rw [hi1_1]; exact fldK_f (by omega) (by omega) (by simpa using hc2))), rfl, rfl⟩ (by omega) id ⟨eD rfl rfl, eD rfl rfl, e_ rfl rfl, eD rfl rfl, eD rfl rfl, trivial⟩ ⟨rD (mapD (fun _ => rfl) _) rfl rfl, trivial⟩ rfl rfl rfl rfl (fun _ _ => rfl)
      · have hc2' := Bool.eq_false_iff.1 hc2
        refine W_skip rfl ?_
        refine blkQ_n ?_
        refine thenQ_n ?_
        refine W_reg rfl ?_
        refine Rv rfl rfl rfl (U_move rfl) rfl rfl ?_
        refine Rv rfl rfl rfl (U_add rfl rfl (w64e (m := ((h + 1 : Nat) : Int)) (by omega) (by omega) (by omega))) rfl rfl ?_
        refine Rv rfl rfl rfl (U_assign rfl) rfl rfl ?_
        refine Re rfl ?_
        refine thenQ_n ?_
        exact againTo (T' := [(1, i64 ((a : Nat) : Int)), (2, .rop [i64 ((H : Nat) : Int), i64 ((Z : Nat) : Int), .ros (ls.map boxesL) ls.length c] 0), (5, .slice 0 0 (H * Z) (H * Z)), (6, i64 ((z : Nat) : Int)), (7, i64 (((h + 1) : Nat) : Int))]) (H' := [(0, some (.cells (f2.map n64) 3))]) (n := 1) (H - (h + 1)) ⟨h + 1, f2, (by omega), (by first | (rw [hi1_1]; exact fldK_t (by omega) (by omega) hc2) | (rw [hi1_1]; exact fldK_f (by omega) (by omega) (by simpa using hc2))), rfl, rfl⟩ (by omega) id ⟨eD rfl rfl, eD rfl rfl, e_ rfl rfl, eD rfl rfl, eD rfl rfl, trivial⟩ ⟨rD (mapD (fun _ => rfl) _) rfl rfl, trivial⟩ rfl rfl rfl rfl (fun _ _ => rfl)
    · refine W_exit rfl ?_
      refine thenQ_x ?_
      refine thenQ_x ?_
      refine blkQ_x rfl ?_
      refine blkQ_n ?_
      refine thenQ_n ?_
      refine W_reg rfl ?_
      refine Rv rfl rfl rfl (U_move rfl) rfl rfl ?_
      refine Rv rfl rfl rfl (U_add rfl rfl (w64e (m := ((z + 1 : Nat) : Int)) (by omega) (by omega) (by omega))) rfl rfl ?_
      refine Rv rfl rfl rfl (U_assign rfl) rfl rfl ?_
      refine Re rfl ?_
      refine thenQ_n ?_
      exact againTo (T' := [(1, i64 ((a : Nat) : Int)), (2, .rop [i64 ((H : Nat) : Int), i64 ((Z : Nat) : Int), .ros (ls.map boxesL) ls.length c] 0), (5, .slice 0 0 (H * Z) (H * Z)), (6, i64 (((z + 1) : Nat) : Int))]) (H' := [(0, some (.cells (f2.map n64) 3))]) (n := 1) (Z - (z + 1)) ⟨z + 1, f2, (by omega), (by rw [hi1_1, show h = H by omega, Nat.succ_mul]), rfl, rfl⟩ (by omega) id ⟨eD rfl rfl, eD rfl rfl, e_ rfl rfl, eD rfl rfl, trivial⟩ ⟨rD (mapD (fun _ => rfl) _) rfl rfl, trivial⟩ rfl rfl rfl rfl (fun _ _ => rfl)
  · refine W_exit rfl ?_
    refine thenQ_x ?_
    refine thenQ_x ?_
    refine blkQ_x rfl ?_
    refine thenQ_n ?_
    refine W_seq rfl ?_
    refine W_reg rfl ?_
    refine Rv rfl rfl rfl (U_move rfl) rfl rfl ?_
    refine Rv rfl rfl rfl (U_assign rfl) rfl rfl ?_
    refine Re rfl ?_
    refine thenQ_n ?_
    refine WfrN 0 rfl (mapD (fun _ => rfl) _) (T' := [(4, .ros (f.map n64) (H * Z) (some (H * Z)))]) (H' := []) ⟨⟨_, rfl, fr_sl (Nat.le_refl _)⟩, trivial⟩ trivial ?_
    refine W_ret rfl ?_
    exact retL (rlT rfl rl0) (by first | rfl | (simp only [packA]; rw [hi0_1, fldK_all (by rw [show z = Z by omega]; exact Nat.le_refl _)]; first | done | rfl)) rfl
end Go.Proofs.Ythlolelbmhfdbaa
end

section
namespace Go.Proofs.Ythlolelbmhfdbaa
set_option maxRecDepth 20000
open Go.AE
theorem chkSRG_p (H Z : Nat) (ls : List (List Bx)) (c : Option Nat) (hc : chkS ⟨H, Z, ls⟩ = 0) (hv : VS ⟨H, Z, ls⟩ H Z) : Pure Try.prog 23 [.agg [i64 (H : Nat), i64 (Z : Nat), landsA ls c]] (i64 0) := by
  have := chkSR_p ⟨H, Z, ls⟩ c hv.hl hv.hbl
  rwa [hc] at this
end Go.Proofs.Ythlolelbmhfdbaa
end

section
namespace Go.Proofs.Ythlolelbmhfdbaa
set_option maxRecDepth 20000
open Go.AE
theorem le_part {k n m : Nat} {F : List Nat} {c : Option Nat} (h : k + n ≤ F.length) (hm : m = n) : AV.le (.ros ((F.drop k).map n64) m c) (.ros (((F.drop k).take n).map n64) ((F.drop k).take n).length none) := by
  subst hm
  have h1 := le_trans (le_cap (cs := (F.drop k).map n64) (n := m) (c := c)) (le_rosT (m := m) (mapD (fun _ => rfl) _))
  have h2 : ((F.drop k).take m).length = m := by simp; omega
  rwa [← List.map_take, show AV.ros (((F.drop k).take m).map n64) m none = .ros (((F.drop k).take m).map n64) ((F.drop k).take m).length none by rw [h2]] at h1
section
variable {H z k h w : Nat} {p : Nat → Bool} {P : Nat → Nat → Bool}
end
end Go.Proofs.Ythlolelbmhfdbaa
end

section
namespace Go.Proofs.Ythlolelbmhfdbaa
set_option maxRecDepth 20000
open Go.AE
section
variable {H z k h w : Nat} {p : Nat → Bool} {P : Nat → Nat → Bool}
theorem widF_spec : ∀ (f w0 : Nat), w0 ≤ widF H p h f w0 ∧ widF H p h f w0 ≤ w0 + f ∧ (∀ j, w0 ≤ j → j < widF H p h f w0 → p ((h + j) % H) = true) ∧ (widF H p h f w0 = w0 + f ∨ p ((h + widF H p h f w0) % H) = false)
  | 0, w0 => ⟨Nat.le_refl _, Nat.le_refl _, fun j h1 h2 => by unfold widF at h2; omega, .inl rfl⟩
  | f + 1, w0 => by
    unfold widF
    split
    · rename_i hp
      obtain ⟨h1, h2, h3, h4⟩ := widF_spec f (w0 + 1)
      refine ⟨by omega, by omega, fun j hj hj2 => ?_, h4.imp (fun h => by omega) id⟩
      by_cases e : j = w0
      · subst e; exact hp
      · exact h3 j (by omega) hj2
    · rename_i hp
      exact ⟨Nat.le_refl _, by omega, fun j h1 h2 => by omega, .inr (by simpa using hp)⟩
theorem widQ_spec (hH : 1 ≤ H) (hp : p h = true) (hh : h < H) : 1 ≤ widQ H p h ∧ widQ H p h ≤ H ∧ (∀ j, j < widQ H p h → p ((h + j) % H) = true) ∧ (widQ H p h = H ∨ p ((h + widQ H p h) % H) = false) := by
  obtain ⟨h1, h2, h3, h4⟩ := widF_spec (H := H) (p := p) (h := h) (H - 1) 1
  refine ⟨h1, by unfold widQ; omega, fun j hj => ?_, h4.imp (fun h => by unfold widQ; omega) id⟩
  by_cases e : j = 0
  · subst e; rw [Nat.add_zero, Nat.mod_eq_of_lt hh]; exact hp
  · exact h3 j (by omega) hj
def runB (H : Nat) (p : Nat → Bool) (h : Nat) : Bool := p h && !(decide (widQ H p h < H) && p ((h + H - 1) % H) || decide (widQ H p h = H) && decide (0 < h))
def rnsG (H : Nat) (p : Nat → Bool) (z k : Nat) : List Bx := (List.range k).flatMap fun h => if runB H p h = true then [⟨h, widQ H p h, z, ((z + 1 : Nat) : Int)⟩] else []
theorem rnsG_succ : rnsG H p z (k + 1) = rnsG H p z k ++ if runB H p k = true then [⟨k, widQ H p k, z, ((z + 1 : Nat) : Int)⟩] else [] := by rw [rnsG, List.range_succ, List.flatMap_append]; simp [rnsG]
theorem rnsG_t (h : runB H p k = true) : rnsG H p z (k + 1) = rnsG H p z k ++ [⟨k, widQ H p k, z, ((z + 1 : Nat) : Int)⟩] := by rw [rnsG_succ, if_pos h]
theorem rnsG_f (h : runB H p k = false) : rnsG H p z (k + 1) = rnsG H p z k := by rw [rnsG_succ, if_neg (by rw [h]; decide), List.append_nil]
theorem rnsG_len : (rnsG H p z k).length ≤ k := by
  induction k with
  | zero => simp [rnsG]
  | succ k ih => rw [rnsG_succ, List.length_append]; split <;> simp <;> omega
theorem rnsG_Z (hH : 1 ≤ H) : rnsG H p z H = rnsZ H p z := by
  by_cases ha : (List.range H).all p = true
  · have hall : ∀ j, j < H → p j = true := fun j hj => List.all_eq_true.1 ha j (List.mem_range.2 hj)
    have hw : ∀ j, widQ H p j = H := fun j => widQ_eq hH (Nat.le_refl _) (fun i _ => hall _ (Nat.mod_lt _ (by omega))) (.inl rfl)
    rw [rnsZ_all hall]
    have : ∀ k, k + 1 ≤ H → rnsG H p z (k + 1) = [⟨0, H, z, ((z + 1 : Nat) : Int)⟩] := fun k => by
      induction k with
      | zero =>
        intro _
        rw [rnsG_t (by unfold runB; rw [hall 0 (by omega), hw]; simp), hw]; rfl
      | succ k ih =>
        intro h
        rw [rnsG_f (by unfold runB; rw [hall (k + 1) (by omega), hw]; simp), ih (by omega)]
    have := this (H - 1) (by omega)
    rwa [show H - 1 + 1 = H by omega] at this
  · obtain ⟨k0, hk0, hk1⟩ : ∃ k0, k0 < H ∧ p k0 = false := by
      have := List.all_eq_false.1 (Bool.eq_false_iff.2 ha)
      obtain ⟨x, hx, h2⟩ := this
      exact ⟨x, List.mem_range.1 hx, by simpa using h2⟩
    rw [rnsZ_not hk0 hk1]
    have : ∀ k, k ≤ H → rnsG H p z k = rnsH H p z k := fun k => by
      induction k with
      | zero => intro _; rfl
      | succ k ih =>
        intro h
        rw [rnsG_succ, rnsH_succ, ih (by omega)]
        congr 1
        have : runB H p k = true ↔ p k = true ∧ p ((k + H - 1) % H) = false := by
          unfold runB
          cases hpk : p k with
          | false => simp
          | true =>
            obtain ⟨_, h2, h3, _⟩ := widQ_spec hH hpk (by omega)
            have hlt : widQ H p k < H := by
              rcases Nat.lt_or_eq_of_le h2 with h9 | h9
              · exact h9
              · have := round_all (show k < H by omega) (fun j hj => h3 j (by omega)) k0 hk0
                rw [hk1] at this; cases this
            simp [hlt, Nat.ne_of_lt hlt]
        by_cases e : runB H p k = true
        · rw [if_pos e, if_pos (this.1 e)]
        · rw [if_neg e, if_neg (fun h => e (this.2 h))]
    exact this H (Nat.le_refl _)
theorem runB_of {V : Nat} {b : Bool} (hw : widQ H p h = w) (hp : p h = true) (hV : V = if p ((h + H - 1) % H) = true then 1 else 0) (hc : (bif decide ((w : Int) < (H : Int)) then (decide ((V : Int) = (1 : Int)) || (decide ((w : Int) = (H : Int)) && decide ((0 : Int) < (h : Int)))) else (decide ((w : Int) = (H : Int)) && decide ((0 : Int) < (h : Int)))) = b) : runB H p h = !b := by
  have e1 : decide ((w : Int) < (H : Int)) = decide (w < H) := by simp
  have e2 : decide ((V : Int) = (1 : Int)) = p ((h + H - 1) % H) := by rw [hV]; cases p ((h + H - 1) % H) <;> simp
  have e3 : decide ((w : Int) = (H : Int)) = decide (w = H) := by rw [decide_eq_decide]; omega
  have e4 : decide ((0 : Int) < (h : Int)) = decide (0 < h) := by rw [decide_eq_decide]; omega
  rw [e1, e2, e3, e4] at hc
  unfold runB
  rw [hw, hp, ← hc]
  cases decide (w < H) <;> simp
theorem runB_no (h : p k = false) : runB H p k = false := by unfold runB; rw [h]; rfl
end
theorem runsOf_p (H Z : Nat) (F : List Nat) (hFl : F.length = Z * H) (P : Nat → Nat → Bool) (hF : ∀ i (hi : i < F.length), F[i] = if P (i / H) (i % H) = true then 1 else 0) (hH : 1 ≤ H ∧ H ≤ 48) (hZ : Z ≤ 24) : Pure Try.prog 52 [fldA F (H * Z), i64 (H : Nat), i64 (Z : Nat)] (boxesA (rnsK H P Z) none) := by
  have hZHm : Z * H ≤ 1152 := Nat.mul_le_mul hZ hH.2
  have hHZc : H * Z = Z * H := Nat.mul_comm _ _
  refine pure_of_body Try.func52 (c := body Try.f52) rfl (by simp [Try.ntmps52]) fun w0 Φ0 => ?_
  refine W_seq rfl ?_
  refine W_reg rfl ?_
  refine Rv rfl rfl rfl (U_assign rfl) rfl rfl ?_
  refine Re rfl ?_
  refine thenQ_n ?_
  refine W_seq rfl ?_
  refine W_reg rfl ?_
  refine Rv rfl rfl rfl (U_assign rfl) rfl rfl ?_
  refine Re rfl ?_
  refine thenQ_n ?_
  refine W_seq rfl ?_
  refine W_seq rfl ?_
  refine W_reg rfl ?_
  refine Rv rfl rfl rfl (U_assign rfl) rfl rfl ?_
  refine Re rfl ?_
  refine thenQ_n ?_
  refine W_block rfl ?_
  refine LoopTo (T' := [(0, .ros (F.map n64) (H * Z) (some (H * Z))), (1, i64 ((H : Nat) : Int)), (2, i64 ((Z : Nat) : Int)), (7, .out 0 [].length 4), (8, i64 ((0 : Nat) : Int))]) (H' := [(0, outB ([].flatMap bxC) 44 [].length)]) (n := 1) rfl (fun mz_ qz_ => ∃ (z : Nat) (B : List Bx), z ≤ Z ∧ B = rnsK H P z ∧ mz_ = Z - z ∧ qz_ = ⟨[(0, .ros (F.map n64) (H * Z) (some (H * Z))), (1, i64 ((H : Nat) : Int)), (2, i64 ((Z : Nat) : Int)), (7, .out 0 B.length 4), (8, i64 ((z : Nat) : Int))], [(0, outB (B.flatMap bxC) 44 B.length)], 1, []⟩) ⟨0, [], (by omega), rfl, rfl, rfl⟩ id ⟨eD rfl rfl, eD rfl rfl, eD rfl rfl, eW rfl le_nils_out rfl, eD rfl rfl, trivial⟩ ⟨rO0 rfl, trivial⟩ rfl rfl rfl rfl (fun _ _ => rfl) ?_
  rintro _ _ ⟨z, B, hi0_0, hi0_1, rfl, rfl⟩
  have hBl : B.length ≤ z * H := by rw [hi0_1]; exact rnsK_len hH.1
  have hzZ : z * H ≤ Z * H := Nat.mul_le_mul_right H hi0_0
  have hZH : Z * H ≤ 1152 := Nat.mul_le_mul hZ hH.2
  refine W_seq rfl ?_
  refine W_seq rfl ?_
  refine W_reg rfl ?_
  refine Rv rfl rfl rfl (U_move rfl) rfl rfl ?_
  refine Rv rfl rfl rfl (U_move rfl) rfl rfl ?_
  refine Rv rfl rfl rfl (U_lss rfl rfl) rfl rfl ?_
  refine Re rfl ?_
  refine thenQ_n ?_
  refine WcondP rfl rfl (fun hc0 => ?_) (fun hc0 => ?_)
  · have hcz : z < Z := by omega
    have hzs : z * H + H ≤ Z * H := by have := Nat.mul_le_mul_right H (show z + 1 ≤ Z by omega); rw [Nat.succ_mul] at this; exact this
    have hvH : ((F.drop (z * H)).take H).length = H := by simp; omega
    have hrb : ∀ j (hj : j < ((F.drop (z * H)).take H).length), ((F.drop (z * H)).take H)[j] = if P z j = true then 1 else 0 := fun j hj => by have hjH : j < H := (by omega); have hd := zh_div (z := z) hjH; rw [List.getElem_take, List.getElem_drop, hF, hd.1, hd.2]
    refine W_skip rfl ?_
    refine thenQ_n ?_
    refine W_seq rfl ?_
    refine W_block rfl ?_
    refine W_seq rfl ?_
    refine W_reg rfl ?_
    refine Rv rfl rfl rfl (U_move rfl) rfl rfl ?_
    refine Rv rfl rfl rfl (U_move rfl) rfl rfl ?_
    refine Rv rfl rfl rfl (U_move rfl) rfl rfl ?_
    refine Rv rfl rfl rfl (U_mul rfl rfl (w64e (m := ((z * H : Nat) : Int)) (by omega) (by omega) (by omega))) rfl rfl ?_
    refine Rv rfl rfl rfl (U_move rfl) rfl rfl ?_
    refine Rv rfl rfl rfl (U_move rfl) rfl rfl ?_
    refine Rv rfl rfl rfl (U_mul rfl rfl (w64e (m := ((z * H : Nat) : Int)) (by omega) (by omega) (by omega))) rfl rfl ?_
    refine Rv rfl rfl rfl (U_move rfl) rfl rfl ?_
    refine Rv rfl rfl rfl (U_add rfl rfl (w64e (m := ((z * H + H : Nat) : Int)) (by omega) (by omega) (by omega))) rfl rfl ?_
    refine Rv rfl rfl rfl (OpU.weakV (le_part (F := F) (k := z * H) (n := H) (by omega) (by omega)) (U_sliceRL (l := z * H) (h := z * H + H) rfl rfl rfl (by omega) (by omega) (by rw [Nat.mul_one, ← List.map_drop]))) rfl rfl ?_
    refine Rv rfl rfl rfl (U_assign rfl) rfl rfl ?_
    refine Re rfl ?_
    refine thenQ_n ?_
    refine W_seq rfl ?_
    refine W_reg rfl ?_
    refine Rv rfl rfl rfl (U_assign rfl) rfl rfl ?_
    refine Re rfl ?_
    refine thenQ_n ?_
    refine W_block rfl ?_
    refine LoopTo (T' := [(0, .ros (F.map n64) (H * Z) (some (H * Z))), (1, i64 ((H : Nat) : Int)), (2, i64 ((Z : Nat) : Int)), (7, .out 0 B.length 4), (8, i64 ((z : Nat) : Int)), (9, .ros (((F.drop (z * H)).take H).map n64) (((F.drop (z * H)).take H).length) none), (10, i64 ((0 : Nat) : Int))]) (H' := [(0, outB (B.flatMap bxC) 44 B.length)]) (n := 1) rfl (fun mz_ qz_ => ∃ (h : Nat) (B2 : List Bx), h ≤ H ∧ B2 = B ++ rnsG H (P z) z h ∧ mz_ = H - h ∧ qz_ = ⟨[(0, .ros (F.map n64) (H * Z) (some (H * Z))), (1, i64 ((H : Nat) : Int)), (2, i64 ((Z : Nat) : Int)), (7, .out 0 B2.length 4), (8, i64 ((z : Nat) : Int)), (9, .ros (((F.drop (z * H)).take H).map n64) (((F.drop (z * H)).take H).length) none), (10, i64 ((h : Nat) : Int))], [(0, outB (B2.flatMap bxC) 44 B2.length)], 1, []⟩) ⟨0, B, (by omega), (by simp [rnsG]), rfl, rfl⟩ id ⟨eD rfl rfl, eD rfl rfl, eD rfl rfl, e_ rfl rfl, eD rfl rfl, eD rfl rfl, eD rfl rfl, trivial⟩ ⟨rO (flatD (fun _ => rfl) _) rfl rfl, trivial⟩ rfl rfl rfl rfl (fun _ _ => rfl) ?_
    rintro _ _ ⟨h, B2, hi1_0, hi1_1, rfl, rfl⟩
    have hB2 : B2.length ≤ B.length + H := by have := rnsG_len (H := H) (p := P z) (z := z) (k := h); rw [hi1_1, List.length_append]; omega
    refine W_seq rfl ?_
    refine W_seq rfl ?_
    refine W_reg rfl ?_
    refine Rv rfl rfl rfl (U_move rfl) rfl rfl ?_
    refine Rv rfl rfl rfl (U_move rfl) rfl rfl ?_
    refine Rv rfl rfl rfl (U_lss rfl rfl) rfl rfl ?_
    refine Re rfl ?_
    refine thenQ_n ?_
    refine WcondP rfl rfl (fun hc1 => ?_) (fun hc1 => ?_)
    · have hch : h < H := by omega
      have hmp : (h + H - 1) % H < H := Nat.mod_lt _ (by omega)
      refine W_skip rfl ?_
      refine thenQ_n ?_
      refine W_seq rfl ?_
      refine W_block rfl ?_
      refine W_seq rfl ?_
      refine W_seq rfl ?_
      refine W_reg rfl ?_
      refine Rv rfl rfl rfl (U_move rfl) rfl rfl ?_
      refine Rv rfl rfl rfl (U_move rfl) rfl rfl ?_
      have hx1 : h < ((F.drop (z * H)).take H).length := by omega
      refine Rv rfl rfl rfl (U_indexR (j := h) rfl rfl rfl hx1) rfl rfl ?_
      refine Rv rfl rfl rfl (U_load1 rfl rfl (getM hx1)) rfl rfl ?_
      refine Rv rfl rfl rfl (U_eql rfl rfl) rfl rfl ?_
      refine Re rfl ?_
      refine thenQ_n ?_
      refine WcondP rfl rfl (fun hc2 => ?_) (fun hc2 => ?_)
      · have hskip : runB H (P z) h = false := runB_no (by have h7 := hrb h (by omega); by_cases e : P z h = true; rw [if_pos e] at h7; omega; simpa using e)
        refine W_exit rfl ?_
        refine thenQ_x ?_
        refine blkQ_x rfl ?_
        refine thenQ_n ?_
        refine W_reg rfl ?_
        refine Rv rfl rfl rfl (U_move rfl) rfl rfl ?_
        refine Rv rfl rfl rfl (U_add rfl rfl (w64e (m := ((h + 1 : Nat) : Int)) (by omega) (by omega) (by omega))) rfl rfl ?_
        refine Rv rfl rfl rfl (U_assign rfl) rfl rfl ?_
        refine Re rfl ?_
        refine thenQ_n ?_
        exact againTo (T' := [(0, .ros (F.map n64) (H * Z) (some (H * Z))), (1, i64 ((H : Nat) : Int)), (2, i64 ((Z : Nat) : Int)), (7, .out 0 B2.length 4), (8, i64 ((z : Nat) : Int)), (9, .ros (((F.drop (z * H)).take H).map n64) (((F.drop (z * H)).take H).length) none), (10, i64 (((h + 1) : Nat) : Int))]) (H' := [(0, outB (B2.flatMap bxC) 44 B2.length)]) (n := 1) (H - (h + 1)) ⟨h + 1, B2, (by omega), (by first | (rw [rnsG_f hskip]; exact hi1_1) | (rw [rnsG_t hrun, hwid, ← List.append_assoc, ← hi1_1])), rfl, rfl⟩ (by omega) id ⟨eD rfl rfl, eD rfl rfl, eD rfl rfl, e_ rfl rfl, eD rfl rfl, eD rfl rfl, eD rfl rfl, trivial⟩ ⟨rO (flatD (fun _ => rfl) _) rfl rfl, trivial⟩ rfl rfl rfl rfl (fun _ _ => rfl)
      · have hpk : P z h = true := by have h7 := hrb h (by omega); by_cases e : P z h = true; exact e; rw [if_neg e] at h7; omega
        refine W_skip rfl ?_
        refine thenQ_n ?_
        refine W_seq rfl ?_
        refine W_reg rfl ?_
        refine Rv rfl rfl rfl (U_assign rfl) rfl rfl ?_
        refine Re rfl ?_
        refine thenQ_n ?_
        refine W_seq rfl ?_
        refine W_block rfl ?_
        refine LoopTo (T' := [(0, .ros (F.map n64) (H * Z) (some (H * Z))), (1, i64 ((H : Nat) : Int)), (2, i64 ((Z : Nat) : Int)), (7, .out 0 B2.length 4), (8, i64 ((z : Nat) : Int)), (9, .ros (((F.drop (z * H)).take H).map n64) (((F.drop (z * H)).take H).length) none), (10, i64 ((h : Nat) : Int)), (11, i64 ((1 : Nat) : Int))]) (H' := [(0, outB (B2.flatMap bxC) 44 B2.length)]) (n := 1) rfl (fun mz_ qz_ => ∃ (w : Nat), (1 ≤ w ∧ w ≤ H) ∧ ((∀ j, j < w → P z ((h + j) % H) = true)) ∧ mz_ = H - w ∧ qz_ = ⟨[(0, .ros (F.map n64) (H * Z) (some (H * Z))), (1, i64 ((H : Nat) : Int)), (2, i64 ((Z : Nat) : Int)), (7, .out 0 B2.length 4), (8, i64 ((z : Nat) : Int)), (9, .ros (((F.drop (z * H)).take H).map n64) (((F.drop (z * H)).take H).length) none), (10, i64 ((h : Nat) : Int)), (11, i64 ((w : Nat) : Int))], [(0, outB (B2.flatMap bxC) 44 B2.length)], 1, []⟩) ⟨1, (by omega), (fun j hj => by obtain rfl : j = 0 := (by omega); rw [Nat.add_zero, Nat.mod_eq_of_lt hch]; exact hpk), rfl, rfl⟩ id ⟨eD rfl rfl, eD rfl rfl, eD rfl rfl, e_ rfl rfl, eD rfl rfl, eD rfl rfl, eD rfl rfl, eD rfl rfl, trivial⟩ ⟨rO (flatD (fun _ => rfl) _) rfl rfl, trivial⟩ rfl rfl rfl rfl (fun _ _ => rfl) ?_
        rintro _ _ ⟨w, hi2_0, hi2_1, rfl, rfl⟩
        have hmw : (h + w) % H < H := Nat.mod_lt _ (by omega)
        refine W_seq rfl ?_
        refine W_seq rfl ?_
        refine Wjoin ⟨[(0, .ros (F.map n64) (H * Z) (some (H * Z))), (1, i64 ((H : Nat) : Int)), (2, i64 ((Z : Nat) : Int)), (7, .out 0 B2.length 4), (8, i64 ((z : Nat) : Int)), (9, .ros (((F.drop (z * H)).take H).map n64) (((F.drop (z * H)).take H).length) none), (10, i64 ((h : Nat) : Int)), (11, i64 ((w : Nat) : Int)), (50, .bool ((decide (((w : Nat) : Int) < ((H : Nat) : Int))) && (decide (((((F.drop (z * H)).take H)[((h + w) % H)] : Nat) : Int) = (1 : Int)))))], [(0, outB (B2.flatMap bxC) 44 B2.length)], 1, []⟩ ?_ ?_
        · refine W_reg rfl ?_
          refine Rv rfl rfl rfl (U_move rfl) rfl rfl ?_
          refine Rv rfl rfl rfl (U_move rfl) rfl rfl ?_
          refine Rv rfl rfl rfl (U_lss rfl rfl) rfl rfl ?_
          refine Rv rfl rfl rfl (U_move rfl) rfl rfl ?_
          refine Rsplit (t := 40) rfl (fun hg2 => ?_) (fun hg2 => ?_)
          · rw [hg2]
            have hg2' : ((w : Nat) : Int) < ((H : Nat) : Int) := of_decide_eq_true hg2
            refine Rv rfl rfl rfl (U_move rfl) rfl rfl ?_
            refine Rv rfl rfl rfl (U_move rfl) rfl rfl ?_
            refine Rv rfl rfl rfl (U_move rfl) rfl rfl ?_
            refine Rv rfl rfl rfl (U_add rfl rfl (w64e (m := ((h + w : Nat) : Int)) (by omega) (by omega) (by omega))) rfl rfl ?_
            refine Rv rfl rfl rfl (U_move rfl) rfl rfl ?_
            refine Rv rfl rfl rfl (U_rem (c := (((h + w) % H : Nat) : Int)) rfl rfl (by omega) (tmodN _ _)) rfl rfl ?_
            have hx3 : ((h + w) % H) < ((F.drop (z * H)).take H).length := by omega
            refine Rv rfl rfl rfl (U_indexR (j := ((h + w) % H)) rfl rfl rfl hx3) rfl rfl ?_
            refine Rv rfl rfl rfl (U_load1 rfl rfl (getM hx3)) rfl rfl ?_
            refine Rv rfl rfl rfl (U_eql rfl rfl) rfl rfl ?_
            refine Rv rfl rfl rfl (U_pick_t rfl rfl) rfl rfl ?_
            refine Re rfl ?_
            exact joinTo id ⟨eD rfl rfl, eD rfl rfl, eD rfl rfl, e_ rfl rfl, eD rfl rfl, eD rfl rfl, eD rfl rfl, eD rfl rfl, eD rfl rfl, trivial⟩ ⟨rO (flatD (fun _ => rfl) _) rfl rfl, trivial⟩ rfl rfl rfl rfl (fun _ _ => rfl)
          · rw [hg2]
            have hg2' : ¬ (((w : Nat) : Int) < ((H : Nat) : Int)) := of_decide_eq_false hg2
            refine Rs rfl rfl rfl rfl rfl ?_
            refine Rs rfl rfl rfl rfl rfl ?_
            refine Rs rfl rfl rfl rfl rfl ?_
            refine Rs rfl rfl rfl rfl rfl ?_
            refine Rs rfl rfl rfl rfl rfl ?_
            refine Rs rfl rfl rfl rfl rfl ?_
            refine Rs rfl rfl rfl rfl rfl ?_
            refine Rs rfl rfl rfl rfl rfl ?_
            refine Rs rfl rfl rfl rfl rfl ?_
            refine Rv rfl rfl rfl (U_pick_f rfl rfl) rfl rfl ?_
            refine Re rfl ?_
            exact joinTo id ⟨eD rfl rfl, eD rfl rfl, eD rfl rfl, e_ rfl rfl, eD rfl rfl, eD rfl rfl, eD rfl rfl, eD rfl rfl, eD rfl rfl, trivial⟩ ⟨rO (flatD (fun _ => rfl) _) rfl rfl, trivial⟩ rfl rfl rfl rfl (fun _ _ => rfl)
        refine thenQ_n ?_
        refine Wcond rfl rfl (fun hc3 => ?_) (fun hc3 => ?_)
        · have hc3s : w < H ∧ ((F.drop (z * H)).take H)[(h + w) % H] = 1 := by simp at hc3; exact ⟨by omega, by simp; omega⟩
          have hpw : P z ((h + w) % H) = true := by have h7 := hrb ((h + w) % H) (by omega); by_cases e : P z ((h + w) % H) = true; exact e; rw [if_neg e] at h7; omega
          refine W_skip rfl ?_
          refine thenQ_n ?_
          refine W_block rfl ?_
          refine W_reg rfl ?_
          refine Rv rfl rfl rfl (U_move rfl) rfl rfl ?_
          refine Rv rfl rfl rfl (U_add rfl rfl (w64e (m := ((w + 1 : Nat) : Int)) (by omega) (by omega) (by omega))) rfl rfl ?_
          refine Rv rfl rfl rfl (U_assign rfl) rfl rfl ?_
          refine Re rfl ?_
          refine blkQ_n ?_
          refine thenQ_n ?_
          exact againTo (T' := [(0, .ros (F.map n64) (H * Z) (some (H * Z))), (1, i64 ((H : Nat) : Int)), (2, i64 ((Z : Nat) : Int)), (7, .out 0 B2.length 4), (8, i64 ((z : Nat) : Int)), (9, .ros (((F.drop (z * H)).take H).map n64) (((F.drop (z * H)).take H).length) none), (10, i64 ((h : Nat) : Int)), (11, i64 (((w + 1) : Nat) : Int))]) (H' := [(0, outB (B2.flatMap bxC) 44 B2.length)]) (n := 1) (H - (w + 1)) ⟨w + 1, (by omega), (fun j hj => by rcases Nat.lt_succ_iff_lt_or_eq.1 hj with hj | rfl; exact hi2_1 j hj; exact hpw), rfl, rfl⟩ (by omega) id ⟨eD rfl rfl, eD rfl rfl, eD rfl rfl, e_ rfl rfl, eD rfl rfl, eD rfl rfl, eD rfl rfl, eD rfl rfl, trivial⟩ ⟨rO (flatD (fun _ => rfl) _) rfl rfl, trivial⟩ rfl rfl rfl rfl (fun _ _ => rfl)
        · have hc3' := Bool.eq_false_iff.1 hc3
          have hpw : w = H ∨ P z ((h + w) % H) = false := by rcases Nat.lt_or_ge w H with h8 | h8; right; have h7 := hrb ((h + w) % H) (by omega); by_cases e : P z ((h + w) % H) = true; rw [if_pos e] at h7; exfalso; simp [h8] at hc3 h7; omega; simpa using e; exact .inl (by omega)
          have hwid := widQ_eq hi2_0.1 hi2_0.2 hi2_1 hpw
          refine W_exit rfl ?_
          refine thenQ_x ?_
          refine thenQ_x ?_
          refine blkQ_x rfl ?_
          refine thenQ_n ?_
          refine W_seq rfl ?_
          refine W_seq rfl ?_
          refine Wjoin ⟨[(0, .ros (F.map n64) (H * Z) (some (H * Z))), (1, i64 ((H : Nat) : Int)), (2, i64 ((Z : Nat) : Int)), (7, .out 0 B2.length 4), (8, i64 ((z : Nat) : Int)), (9, .ros (((F.drop (z * H)).take H).map n64) (((F.drop (z * H)).take H).length) none), (10, i64 ((h : Nat) : Int)), (11, i64 ((w : Nat) : Int)), (76, .bool (bif (decide (((w : Nat) : Int) < ((H : Nat) : Int))) then ((decide (((((F.drop (z * H)).take H)[((h + H - 1) % H)] : Nat) : Int) = (1 : Int))) || ((decide (((w : Nat) : Int) = ((H : Nat) : Int))) && (decide ((0 : Int) < ((h : Nat) : Int))))) else ((decide (((w : Nat) : Int) = ((H : Nat) : Int))) && (decide ((0 : Int) < ((h : Nat) : Int))))))], [(0, outB (B2.flatMap bxC) 44 B2.length)], 1, []⟩ ?_ ?_
          · refine W_reg rfl ?_
            refine Rv rfl rfl rfl (U_move rfl) rfl rfl ?_
            refine Rv rfl rfl rfl (U_move rfl) rfl rfl ?_
            refine Rv rfl rfl rfl (U_lss rfl rfl) rfl rfl ?_
            refine Rv rfl rfl rfl (U_move rfl) rfl rfl ?_
            refine Rsplit (t := 56) rfl (fun hg4 => ?_) (fun hg4 => ?_)
            · rw [hg4]
              have hg4' : ((w : Nat) : Int) < ((H : Nat) : Int) := of_decide_eq_true hg4
              refine Rv rfl rfl rfl (U_move rfl) rfl rfl ?_
              refine Rv rfl rfl rfl (U_move rfl) rfl rfl ?_
              refine Rv rfl rfl rfl (U_move rfl) rfl rfl ?_
              refine Rv rfl rfl rfl (U_add rfl rfl (w64e (m := ((h + H : Nat) : Int)) (by omega) (by omega) (by omega))) rfl rfl ?_
              refine Rv rfl rfl rfl (U_sub rfl rfl (w64e (m := ((h + H - 1 : Nat) : Int)) (by omega) (by omega) (by omega))) rfl rfl ?_
              refine Rv rfl rfl rfl (U_move rfl) rfl rfl ?_
              refine Rv rfl rfl rfl (U_rem (c := (((h + H - 1) % H : Nat) : Int)) rfl rfl (by omega) (tmodN _ _)) rfl rfl ?_
              have hx5 : ((h + H - 1) % H) < ((F.drop (z * H)).take H).length := by omega
              refine Rv rfl rfl rfl (U_indexR (j := ((h + H - 1) % H)) rfl rfl rfl hx5) rfl rfl ?_
              refine Rv rfl rfl rfl (U_load1 rfl rfl (getM hx5)) rfl rfl ?_
              refine Rv rfl rfl rfl (U_eql rfl rfl) rfl rfl ?_
              refine Rv rfl rfl rfl (U_pick_t rfl rfl) rfl rfl ?_
              refine Rv rfl rfl rfl (U_move rfl) rfl rfl ?_
              refine Rsplit (t := 68) rfl (fun hg6 => ?_) (fun hg6 => ?_)
              · rw [hg6]
                have hg6' : ((((F.drop (z * H)).take H)[((h + H - 1) % H)] : Nat) : Int) = (1 : Int) := of_decide_eq_true hg6
                refine Rs rfl rfl rfl rfl rfl ?_
                refine Rs rfl rfl rfl rfl rfl ?_
                refine Rs rfl rfl rfl rfl rfl ?_
                refine Rs rfl rfl rfl rfl rfl ?_
                refine Rs rfl rfl rfl rfl rfl ?_
                refine Rs rfl rfl rfl rfl rfl ?_
                refine Rs rfl rfl rfl rfl rfl ?_
                refine Rv rfl rfl rfl (U_pick_t rfl rfl) rfl rfl ?_
                refine Re rfl ?_
                exact joinTo id ⟨eD rfl rfl, eD rfl rfl, eD rfl rfl, e_ rfl rfl, eD rfl rfl, eD rfl rfl, eD rfl rfl, eD rfl rfl, eD rfl rfl, trivial⟩ ⟨rO (flatD (fun _ => rfl) _) rfl rfl, trivial⟩ rfl rfl rfl rfl (fun _ _ => rfl)
              · rw [hg6]
                have hg6' : ¬ (((((F.drop (z * H)).take H)[((h + H - 1) % H)] : Nat) : Int) = (1 : Int)) := of_decide_eq_false hg6
                refine Rv rfl rfl rfl (U_move rfl) rfl rfl ?_
                refine Rv rfl rfl rfl (U_move rfl) rfl rfl ?_
                refine Rv rfl rfl rfl (U_eql rfl rfl) rfl rfl ?_
                refine Rv rfl rfl rfl (U_move rfl) rfl rfl ?_
                refine Rsplit (t := 72) rfl (fun hg7 => ?_) (fun hg7 => ?_)
                · rw [hg7]
                  have hg7' : ((w : Nat) : Int) = ((H : Nat) : Int) := of_decide_eq_true hg7
                  refine Rv rfl rfl rfl (U_move rfl) rfl rfl ?_
                  refine Rv rfl rfl rfl (U_gtr rfl rfl) rfl rfl ?_
                  refine Rv rfl rfl rfl (U_pick_t rfl rfl) rfl rfl ?_
                  refine Rv rfl rfl rfl (U_pick_f rfl rfl) rfl rfl ?_
                  refine Re rfl ?_
                  exact joinTo id ⟨eD rfl rfl, eD rfl rfl, eD rfl rfl, e_ rfl rfl, eD rfl rfl, eD rfl rfl, eD rfl rfl, eD rfl rfl, eD rfl rfl, trivial⟩ ⟨rO (flatD (fun _ => rfl) _) rfl rfl, trivial⟩ rfl rfl rfl rfl (fun _ _ => rfl)
                · rw [hg7]
                  have hg7' : ¬ (((w : Nat) : Int) = ((H : Nat) : Int)) := of_decide_eq_false hg7
                  refine Rs rfl rfl rfl rfl rfl ?_
                  refine Rs rfl rfl rfl rfl rfl ?_
                  refine Rv rfl rfl rfl (U_pick_f rfl rfl) rfl rfl ?_
                  refine Rv rfl rfl rfl (U_pick_f rfl rfl) rfl rfl ?_
                  refine Re rfl ?_
                  exact joinTo id ⟨eD rfl rfl, eD rfl rfl, eD rfl rfl, e_ rfl rfl, eD rfl rfl, eD rfl rfl, eD rfl rfl, eD rfl rfl, eD rfl rfl, trivial⟩ ⟨rO (flatD (fun _ => rfl) _) rfl rfl, trivial⟩ rfl rfl rfl rfl (fun _ _ => rfl)
            · rw [hg4]
              have hg4' : ¬ (((w : Nat) : Int) < ((H : Nat) : Int)) := of_decide_eq_false hg4
              refine Rs rfl rfl rfl rfl rfl ?_
              refine Rs rfl rfl rfl rfl rfl ?_
              refine Rs rfl rfl rfl rfl rfl ?_
              refine Rs rfl rfl rfl rfl rfl ?_
              refine Rs rfl rfl rfl rfl rfl ?_
              refine Rs rfl rfl rfl rfl rfl ?_
              refine Rs rfl rfl rfl rfl rfl ?_
              refine Rs rfl rfl rfl rfl rfl ?_
              refine Rs rfl rfl rfl rfl rfl ?_
              refine Rs rfl rfl rfl rfl rfl ?_
              refine Rv rfl rfl rfl (U_pick_f rfl rfl) rfl rfl ?_
              refine Rv rfl rfl rfl (U_move rfl) rfl rfl ?_
              refine Rv rfl rfl rfl (U_move rfl) rfl rfl ?_
              refine Rv rfl rfl rfl (U_move rfl) rfl rfl ?_
              refine Rv rfl rfl rfl (U_eql rfl rfl) rfl rfl ?_
              refine Rv rfl rfl rfl (U_move rfl) rfl rfl ?_
              refine Rsplit (t := 72) rfl (fun hg8 => ?_) (fun hg8 => ?_)
              · rw [hg8]
                have hg8' : ((w : Nat) : Int) = ((H : Nat) : Int) := of_decide_eq_true hg8
                refine Rv rfl rfl rfl (U_move rfl) rfl rfl ?_
                refine Rv rfl rfl rfl (U_gtr rfl rfl) rfl rfl ?_
                refine Rv rfl rfl rfl (U_pick_t rfl rfl) rfl rfl ?_
                refine Rv rfl rfl rfl (U_pick_f rfl rfl) rfl rfl ?_
                refine Re rfl ?_
                exact joinTo id ⟨eD rfl rfl, eD rfl rfl, eD rfl rfl, e_ rfl rfl, eD rfl rfl, eD rfl rfl, eD rfl rfl, eD rfl rfl, eD rfl rfl, trivial⟩ ⟨rO (flatD (fun _ => rfl) _) rfl rfl, trivial⟩ rfl rfl rfl rfl (fun _ _ => rfl)
              · rw [hg8]
                have hg8' : ¬ (((w : Nat) : Int) = ((H : Nat) : Int)) := of_decide_eq_false hg8
                refine Rs rfl rfl rfl rfl rfl ?_
                refine Rs rfl rfl rfl rfl rfl ?_
                refine Rv rfl rfl rfl (U_pick_f rfl rfl) rfl rfl ?_
                refine Rv rfl rfl rfl (U_pick_f rfl rfl) rfl rfl ?_
                refine Re rfl ?_
                exact joinTo id ⟨eD rfl rfl, eD rfl rfl, eD rfl rfl, e_ rfl rfl, eD rfl rfl, eD rfl rfl, eD rfl rfl, eD rfl rfl, eD rfl rfl, trivial⟩ ⟨rO (flatD (fun _ => rfl) _) rfl rfl, trivial⟩ rfl rfl rfl rfl (fun _ _ => rfl)
          refine thenQ_n ?_
          refine Wcond rfl rfl (fun hc4 => ?_) (fun hc4 => ?_)
          · have hskip : runB H (P z) h = false := runB_of hwid hpk (hrb ((h + H - 1) % H) (by omega)) hc4
            refine W_exit rfl ?_
            refine thenQ_x ?_
            refine blkQ_x rfl ?_
            refine thenQ_n ?_
            refine W_reg rfl ?_
            refine Rv rfl rfl rfl (U_move rfl) rfl rfl ?_
            refine Rv rfl rfl rfl (U_add rfl rfl (w64e (m := ((h + 1 : Nat) : Int)) (by omega) (by omega) (by omega))) rfl rfl ?_
            refine Rv rfl rfl rfl (U_assign rfl) rfl rfl ?_
            refine Re rfl ?_
            refine thenQ_n ?_
            exact againTo (T' := [(0, .ros (F.map n64) (H * Z) (some (H * Z))), (1, i64 ((H : Nat) : Int)), (2, i64 ((Z : Nat) : Int)), (7, .out 0 B2.length 4), (8, i64 ((z : Nat) : Int)), (9, .ros (((F.drop (z * H)).take H).map n64) (((F.drop (z * H)).take H).length) none), (10, i64 (((h + 1) : Nat) : Int))]) (H' := [(0, outB (B2.flatMap bxC) 44 B2.length)]) (n := 1) (H - (h + 1)) ⟨h + 1, B2, (by omega), (by first | (rw [rnsG_f hskip]; exact hi1_1) | (rw [rnsG_t hrun, hwid, ← List.append_assoc, ← hi1_1])), rfl, rfl⟩ (by omega) id ⟨eD rfl rfl, eD rfl rfl, eD rfl rfl, e_ rfl rfl, eD rfl rfl, eD rfl rfl, eD rfl rfl, trivial⟩ ⟨rO (flatD (fun _ => rfl) _) rfl rfl, trivial⟩ rfl rfl rfl rfl (fun _ _ => rfl)
          · have hc4' := Bool.eq_false_iff.1 hc4
            have hrun : runB H (P z) h = true := runB_of hwid hpk (hrb ((h + H - 1) % H) (by omega)) hc4
            refine W_skip rfl ?_
            refine thenQ_n ?_
            refine W_reg rfl ?_
            refine Rv rfl rfl rfl (U_move rfl) rfl rfl ?_
            refine Rv rfl rfl rfl (U_move rfl) rfl rfl ?_
            refine Rv rfl rfl rfl (U_move rfl) rfl rfl ?_
            refine Rv rfl rfl rfl (U_move rfl) rfl rfl ?_
            refine Rv rfl rfl rfl (U_move rfl) rfl rfl ?_
            refine Rv rfl rfl rfl (U_add rfl rfl (w64e (m := ((z + 1 : Nat) : Int)) (by omega) (by omega) (by omega))) rfl rfl ?_
            refine Rv rfl rfl rfl (U_build rfl rfl) rfl rfl ?_
            refine Rv rfl rfl rfl (U_buildSliceF (by rfl) (by decide) rfl rfl rfl) rfl rfl ?_
            refine Ra rfl rfl rfl (U_appO (b := 0) (m := 0) (cs' := (B2 ++ [(⟨h, w, z, ((z + 1 : Nat) : Int)⟩ : Bx)]).flatMap bxC) (n' := (B2 ++ [(⟨h, w, z, ((z + 1 : Nat) : Int)⟩ : Bx)]).length) rfl rfl (by simp) rfl (flat_len (z := 4) (fun _ => rfl) _) rfl rfl (by omega) (appF (f := bxC) B2 (⟨h, w, z, ((z + 1 : Nat) : Int)⟩ : Bx)) (len1 _ _)) rfl rfl rfl ?_
            refine Rv rfl rfl rfl (U_assign rfl) rfl rfl ?_
            refine Re rfl ?_
            refine blkQ_n ?_
            refine thenQ_n ?_
            refine W_reg rfl ?_
            refine Rv rfl rfl rfl (U_move rfl) rfl rfl ?_
            refine Rv rfl rfl rfl (U_add rfl rfl (w64e (m := ((h + 1 : Nat) : Int)) (by omega) (by omega) (by omega))) rfl rfl ?_
            refine Rv rfl rfl rfl (U_assign rfl) rfl rfl ?_
            refine Re rfl ?_
            refine thenQ_n ?_
            exact againTo (T' := [(0, .ros (F.map n64) (H * Z) (some (H * Z))), (1, i64 ((H : Nat) : Int)), (2, i64 ((Z : Nat) : Int)), (7, .out 0 (B2 ++ [(⟨h, w, z, ((z + 1 : Nat) : Int)⟩ : Bx)]).length 4), (8, i64 ((z : Nat) : Int)), (9, .ros (((F.drop (z * H)).take H).map n64) (((F.drop (z * H)).take H).length) none), (10, i64 (((h + 1) : Nat) : Int))]) (H' := [(0, outB ((B2 ++ [(⟨h, w, z, ((z + 1 : Nat) : Int)⟩ : Bx)]).flatMap bxC) 44 (B2 ++ [(⟨h, w, z, ((z + 1 : Nat) : Int)⟩ : Bx)]).length)]) (n := 1) (H - (h + 1)) ⟨h + 1, B2 ++ [(⟨h, w, z, ((z + 1 : Nat) : Int)⟩ : Bx)], (by omega), (by first | (rw [rnsG_f hskip]; exact hi1_1) | (rw [rnsG_t hrun, hwid, ← List.append_assoc, ← hi1_1])), rfl, rfl⟩ (by omega) (mapN [1]) ⟨eD rfl rfl, eD rfl rfl, eD rfl rfl, e_ rfl rfl, eD rfl rfl, eD rfl rfl, eD rfl rfl, trivial⟩ ⟨rO (flatD (fun _ => rfl) _) rfl rfl, trivial⟩ rfl rfl rfl rfl (fun _ h => absurd h (Nat.not_lt_zero _))
    · refine W_exit rfl ?_
      refine thenQ_x ?_
      refine thenQ_x ?_
      refine blkQ_x rfl ?_
      refine blkQ_n ?_
      refine thenQ_n ?_
      refine W_reg rfl ?_
      refine Rv rfl rfl rfl (U_move rfl) rfl rfl ?_
      refine Rv rfl rfl rfl (U_add rfl rfl (w64e (m := ((z + 1 : Nat) : Int)) (by omega) (by omega) (by omega))) rfl rfl ?_
      refine Rv rfl rfl rfl (U_assign rfl) rfl rfl ?_
      refine Re rfl ?_
      refine thenQ_n ?_
      exact againTo (T' := [(0, .ros (F.map n64) (H * Z) (some (H * Z))), (1, i64 ((H : Nat) : Int)), (2, i64 ((Z : Nat) : Int)), (7, .out 0 B2.length 4), (8, i64 (((z + 1) : Nat) : Int))]) (H' := [(0, outB (B2.flatMap bxC) 44 B2.length)]) (n := 1) (Z - (z + 1)) ⟨z + 1, B2, (by omega), (by rw [rnsK_succ, ← rnsG_Z hH.1, hi1_1, show h = H by omega, hi0_1]), rfl, rfl⟩ (by omega) id ⟨eD rfl rfl, eD rfl rfl, eD rfl rfl, e_ rfl rfl, eD rfl rfl, trivial⟩ ⟨rO (flatD (fun _ => rfl) _) rfl rfl, trivial⟩ rfl rfl rfl rfl (fun _ _ => rfl)
  · refine W_exit rfl ?_
    refine thenQ_x ?_
    refine thenQ_x ?_
    refine blkQ_x rfl ?_
    refine thenQ_n ?_
    refine W_seq rfl ?_
    refine W_reg rfl ?_
    refine Rv rfl rfl rfl (U_move rfl) rfl rfl ?_
    refine Rv rfl rfl rfl (U_assign rfl) rfl rfl ?_
    refine Re rfl ?_
    refine thenQ_n ?_
    refine WfrO 0 (B.flatMap bxC) rfl (flatD (fun _ => rfl) _) (T' := [(6, .ros (B.flatMap bxC) B.length none)]) (H' := []) ⟨fO rfl, trivial⟩ trivial ?_
    refine W_ret rfl ?_
    exact retL (rlT rfl rl0) (by first | rfl | (simp only [packA]; rw [hi0_1, show z = Z by omega]; first | done | rfl)) rfl
end Go.Proofs.Ythlolelbmhfdbaa
end

section
namespace Go.Proofs.Ythlolelbmhfdbaa
set_option maxRecDepth 20000
open Go.AE
theorem givP_all {Z H j z h a : Nat} {ls : List (List Bx)} {b : Bx} (hz : z < Z) : givP H ls b a (Z * H) j z h = if h < H ∧ inN b H z h = true then decide (j = a) else chP ls H j z h := by
  unfold givP
  by_cases hh : h < H
  · have := zh_lt (Z := Z) hz hh
    by_cases hb : inN b H z h = true
    · rw [if_pos ⟨hh, this, hb⟩, if_pos ⟨hh, hb⟩]
    · rw [if_neg fun h => hb h.2.2, if_neg fun h => hb h.2]
  · rw [if_neg fun h => hh h.1, if_neg fun h => hh h.1]
end Go.Proofs.Ythlolelbmhfdbaa
end

section
namespace Go.Proofs.Ythlolelbmhfdbaa
set_option maxRecDepth 20000
open Go.AE
def mostQ (ls : List (List Bx)) : Int := ls.foldl (fun m l => max m (l.length : Int)) 0
theorem mostQ_take {ls : List (List Bx)} {i : Nat} (hi : i < ls.length) : mostQ (ls.take (i + 1)) = max (mostQ (ls.take i)) (ls[i].length : Int) := by
  unfold mostQ; rw [List.take_succ_eq_append_getElem hi, List.foldl_append]; rfl
theorem mostF_ge {ls : List (List Bx)} : ∀ {m : Int}, m ≤ ls.foldl (fun m l => max m (l.length : Int)) m := by
  induction ls with
  | nil => intro m; exact Int.le_refl m
  | cons a l ih => intro m; exact Int.le_trans (Int.le_max_left m _) ih
theorem mostF_mem {ls : List (List Bx)} : ∀ {m : Int} {l : List Bx}, l ∈ ls → (l.length : Int) ≤ ls.foldl (fun m l => max m (l.length : Int)) m := by
  induction ls with
  | nil => intro m l h; cases h
  | cons a r ih =>
    intro m l h
    cases h with
    | head => exact Int.le_trans (Int.le_max_right m _) mostF_ge
    | tail _ h => exact ih h
theorem mostQ_mem {ls : List (List Bx)} {l : List Bx} (h : l ∈ ls) : (l.length : Int) ≤ mostQ ls := mostF_mem h
def grt (s : Sk) : Bool := decide (14 < s.ls.length) || (decide (610 < mostQ s.ls) || (decide (chkS s = 0) && (decide (120 < s.h * s.z) || decide (30 < mostQ s.ls))))
theorem chkS_hz {s : Sk} (h : chkS s = 0) : 1 ≤ s.h ∧ s.h ≤ 48 ∧ 1 ≤ s.z ∧ s.z ≤ 24 ∧ 1 ≤ s.h * s.z ∧ s.h * s.z ≤ 1152 := by
  obtain ⟨H, Z, e1, e2, hH, hZ, _⟩ := vs_of h
  have := Int.mul_le_mul (show s.h ≤ 48 by omega) (show s.z ≤ 24 by omega) (by omega) (by omega)
  have := Int.mul_pos (show 0 < s.h by omega) (show 0 < s.z by omega)
  omega
theorem grt_ls {s : Sk} (h : grt s = false) : s.ls.length ≤ 1000000 := by
  simp [grt] at h; omega
theorem grt_bl {s : Sk} (h : grt s = false) : ∀ l ∈ s.ls, l.length ≤ 1000000 := by
  intro l hl; have := mostQ_mem hl; simp [grt] at h; omega
theorem bl_most {ls : List (List Bx)} (h : mostQ ls ≤ 610) : ∀ l ∈ ls, l.length ≤ 1000000 := by
  intro l hl; have := mostQ_mem hl; omega
theorem great_p (s : Sk) (c : Option Nat) : Pure Try.prog 16 [.agg [i64 s.h, i64 s.z, landsA s.ls c]] (.bool (grt s)) := by
  refine pure_of_body Try.func16 (c := body Try.f16) rfl (by simp [Try.ntmps16]) fun w0 Φ0 => ?_
  refine W_seq rfl ?_
  refine W_reg rfl ?_
  refine Rv rfl rfl rfl (U_boxF rfl rfl rfl) rfl rfl ?_
  refine Rv rfl rfl rfl (U_assign rfl) rfl rfl ?_
  refine Re rfl ?_
  refine thenQ_n ?_
  refine W_seq rfl ?_
  refine W_seq rfl ?_
  refine W_reg rfl ?_
  refine Rv rfl rfl rfl (U_fieldAddrR rfl) rfl rfl ?_
  refine Rv rfl rfl rfl (U_load1 rfl rfl rfl) rfl rfl ?_
  refine Rv rfl rfl rfl (U_lenOf rfl len_ros) rfl rfl ?_
  refine Rv rfl rfl rfl (U_gtr rfl rfl) rfl rfl ?_
  refine Re rfl ?_
  refine thenQ_n ?_
  refine WcondP rfl rfl (fun hc0 => ?_) (fun hc0 => ?_)
  · refine W_seq rfl ?_
    refine W_reg rfl ?_
    refine Rv rfl rfl rfl (U_assign rfl) rfl rfl ?_
    refine Re rfl ?_
    refine thenQ_n ?_
    refine W_ret rfl ?_
    refine thenQ_r ?_
    exact retL (rlT rfl rl0) (by first | rfl | (exact congrArg AV.bool (by unfold grt; first | (rw [show decide (14 < s.ls.length) = true from decide_eq_true (by omega)]; rfl) | (rw [show decide (14 < s.ls.length) = false from decide_eq_false (by omega), hmq, Bool.false_or])); done)) rfl
  · refine W_skip rfl ?_
    refine thenQ_n ?_
    refine W_seq rfl ?_
    refine W_reg rfl ?_
    refine Rv rfl rfl rfl (U_assign rfl) rfl rfl ?_
    refine Re rfl ?_
    refine thenQ_n ?_
    refine W_seq rfl ?_
    refine W_seq rfl ?_
    refine W_reg rfl ?_
    refine Rv rfl rfl rfl (U_assign rfl) rfl rfl ?_
    refine Re rfl ?_
    refine thenQ_n ?_
    refine W_block rfl ?_
    refine LoopTo (T' := [(1, .rop [i64 s.h, i64 s.z, .ros (s.ls.map boxesL) s.ls.length c] 0), (3, i64 0), (4, i64 ((0 : Nat) : Int))]) (H' := []) (n := 0) rfl (fun mz_ qz_ => ∃ (i : Nat) (m : Int), i ≤ s.ls.length ∧ m = mostQ (s.ls.take i) ∧ mz_ = s.ls.length - i ∧ qz_ = ⟨[(1, .rop [i64 s.h, i64 s.z, .ros (s.ls.map boxesL) s.ls.length c] 0), (3, i64 m), (4, i64 ((i : Nat) : Int))], [], 0, []⟩) ⟨0, 0, (by omega), rfl, rfl, rfl⟩ id ⟨eD rfl rfl, eD rfl rfl, eD rfl rfl, trivial⟩ trivial rfl rfl rfl rfl (fun _ _ => rfl) ?_
    rintro _ _ ⟨i, m, hi0_0, hi0_1, rfl, rfl⟩
    refine W_seq rfl ?_
    refine W_seq rfl ?_
    refine W_reg rfl ?_
    refine Rv rfl rfl rfl (U_move rfl) rfl rfl ?_
    refine Rv rfl rfl rfl (U_fieldAddrR rfl) rfl rfl ?_
    refine Rv rfl rfl rfl (U_load1 rfl rfl rfl) rfl rfl ?_
    refine Rv rfl rfl rfl (U_lenOf rfl len_ros) rfl rfl ?_
    refine Rv rfl rfl rfl (U_lss rfl rfl) rfl rfl ?_
    refine Re rfl ?_
    refine thenQ_n ?_
    refine WcondP rfl rfl (fun hc1 => ?_) (fun hc1 => ?_)
    · refine W_skip rfl ?_
      refine thenQ_n ?_
      refine W_seq rfl ?_
      refine W_block rfl ?_
      refine W_reg rfl ?_
      refine Rv rfl rfl rfl (U_move rfl) rfl rfl ?_
      refine Rv rfl rfl rfl (U_fieldAddrR rfl) rfl rfl ?_
      refine Rv rfl rfl rfl (U_load1 rfl rfl rfl) rfl rfl ?_
      refine Rv rfl rfl rfl (U_move rfl) rfl rfl ?_
      have hx1 : i < s.ls.length := by omega
      refine Rv rfl rfl rfl (U_indexR (j := i) rfl rfl rfl hx1) rfl rfl ?_
      refine Rv rfl rfl rfl (U_load1 rfl rfl (getM hx1)) rfl rfl ?_
      refine Rv rfl rfl rfl (U_lenOf rfl len_ros) rfl rfl ?_
      refine Rv rfl rfl rfl (U_max rfl rfl rfl) rfl rfl ?_
      refine Rv rfl rfl rfl (U_assign rfl) rfl rfl ?_
      refine Re rfl ?_
      refine blkQ_n ?_
      refine thenQ_n ?_
      refine W_reg rfl ?_
      refine Rv rfl rfl rfl (U_move rfl) rfl rfl ?_
      refine Rv rfl rfl rfl (U_add rfl rfl (w64e (m := ((i + 1 : Nat) : Int)) (by omega) (by omega) (by omega))) rfl rfl ?_
      refine Rv rfl rfl rfl (U_assign rfl) rfl rfl ?_
      refine Re rfl ?_
      refine thenQ_n ?_
      exact againTo (T' := [(1, .rop [i64 s.h, i64 s.z, .ros (s.ls.map boxesL) s.ls.length c] 0), (3, i64 (max m ((s.ls[i].length : Nat) : Int))), (4, i64 (((i + 1) : Nat) : Int))]) (H' := []) (n := 0) (s.ls.length - (i + 1)) ⟨i + 1, max m ((s.ls[i].length : Nat) : Int), (by omega), (by rw [mostQ_take (by omega), ← hi0_1]), rfl, rfl⟩ (by omega) id ⟨eD rfl rfl, eD rfl rfl, eD rfl rfl, trivial⟩ trivial rfl rfl rfl rfl (fun _ _ => rfl)
    · have hmq : m = mostQ s.ls := by rw [hi0_1, show i = s.ls.length by omega, List.take_length]
      refine W_exit rfl ?_
      refine thenQ_x ?_
      refine thenQ_x ?_
      refine blkQ_x rfl ?_
      refine thenQ_n ?_
      refine W_seq rfl ?_
      refine Wjoin ⟨[(2, .bool ((decide (610 < m)) || ((decide ((chkS s) = 0)) && ((decide (120 < (s.h * s.z))) || (decide (30 < m))))))], [], 0, []⟩ ?_ ?_
      · refine W_reg rfl ?_
        refine Rv rfl rfl rfl (U_move rfl) rfl rfl ?_
        refine Rv rfl rfl rfl (U_gtr rfl rfl) rfl rfl ?_
        refine Rv rfl rfl rfl (U_move rfl) rfl rfl ?_
        refine Rsplit (t := 26) rfl (fun hg2 => ?_) (fun hg2 => ?_)
        · rw [hg2]
          have hg2' : 610 < m := of_decide_eq_true hg2
          refine Rs rfl rfl rfl rfl rfl ?_
          refine Rs rfl rfl rfl rfl rfl ?_
          refine Rs rfl rfl rfl rfl rfl ?_
          refine Rs rfl rfl rfl rfl rfl ?_
          refine Rs rfl rfl rfl rfl rfl ?_
          refine Rs rfl rfl rfl rfl rfl ?_
          refine Rs rfl rfl rfl rfl rfl ?_
          refine Rs rfl rfl rfl rfl rfl ?_
          refine Rs rfl rfl rfl rfl rfl ?_
          refine Rs rfl rfl rfl rfl rfl ?_
          refine Rs rfl rfl rfl rfl rfl ?_
          refine Rs rfl rfl rfl rfl rfl ?_
          refine Rs rfl rfl rfl rfl rfl ?_
          refine Rs rfl rfl rfl rfl rfl ?_
          refine Rs rfl rfl rfl rfl rfl ?_
          refine Rv rfl rfl rfl (U_pick_t rfl rfl) rfl rfl ?_
          refine Rv rfl rfl rfl (U_assign rfl) rfl rfl ?_
          refine Re rfl ?_
          exact joinTo id ⟨eD rfl rfl, trivial⟩ trivial rfl rfl rfl rfl (fun _ _ => rfl)
        · rw [hg2]
          have hg2' : ¬ (610 < m) := of_decide_eq_false hg2
          have hbl := bl_most (ls := s.ls) (by omega)
          have hl : s.ls.length ≤ 1000000 := by omega
          refine Rv rfl rfl rfl (U_load3 rfl rfl rfl rfl rfl) rfl rfl ?_
          refine Rv rfl rfl rfl (U_call rfl rfl (chkSR_p s c hl hbl) rfl) rfl rfl ?_
          refine Rv rfl rfl rfl (U_eql rfl rfl) rfl rfl ?_
          refine Rv rfl rfl rfl (U_move rfl) rfl rfl ?_
          refine Rsplit (t := 30) rfl (fun hg3 => ?_) (fun hg3 => ?_)
          · rw [hg3]
            have hg3' : (chkS s) = 0 := of_decide_eq_true hg3
            have hhz := chkS_hz hg3'
            refine Rv rfl rfl rfl (U_fieldAddrR rfl) rfl rfl ?_
            refine Rv rfl rfl rfl (U_load1 rfl rfl rfl) rfl rfl ?_
            refine Rv rfl rfl rfl (U_fieldAddrR rfl) rfl rfl ?_
            refine Rv rfl rfl rfl (U_load1 rfl rfl rfl) rfl rfl ?_
            refine Rv rfl rfl rfl (U_mul rfl rfl (w64 (by omega) (by omega))) rfl rfl ?_
            refine Rv rfl rfl rfl (U_gtr rfl rfl) rfl rfl ?_
            refine Rv rfl rfl rfl (U_move rfl) rfl rfl ?_
            refine Rsplit (t := 37) rfl (fun hg4 => ?_) (fun hg4 => ?_)
            · rw [hg4]
              have hg4' : 120 < (s.h * s.z) := of_decide_eq_true hg4
              refine Rs rfl rfl rfl rfl rfl ?_
              refine Rs rfl rfl rfl rfl rfl ?_
              refine Rv rfl rfl rfl (U_pick_t rfl rfl) rfl rfl ?_
              refine Rv rfl rfl rfl (U_pick_t rfl rfl) rfl rfl ?_
              refine Rv rfl rfl rfl (U_pick_f rfl rfl) rfl rfl ?_
              refine Rv rfl rfl rfl (U_assign rfl) rfl rfl ?_
              refine Re rfl ?_
              exact joinTo id ⟨eD rfl rfl, trivial⟩ trivial rfl rfl rfl rfl (fun _ _ => rfl)
            · rw [hg4]
              have hg4' : ¬ (120 < (s.h * s.z)) := of_decide_eq_false hg4
              refine Rv rfl rfl rfl (U_move rfl) rfl rfl ?_
              refine Rv rfl rfl rfl (U_gtr rfl rfl) rfl rfl ?_
              refine Rv rfl rfl rfl (U_pick_f rfl rfl) rfl rfl ?_
              refine Rv rfl rfl rfl (U_pick_t rfl rfl) rfl rfl ?_
              refine Rv rfl rfl rfl (U_pick_f rfl rfl) rfl rfl ?_
              refine Rv rfl rfl rfl (U_assign rfl) rfl rfl ?_
              refine Re rfl ?_
              exact joinTo id ⟨eD rfl rfl, trivial⟩ trivial rfl rfl rfl rfl (fun _ _ => rfl)
          · rw [hg3]
            have hg3' : ¬ ((chkS s) = 0) := of_decide_eq_false hg3
            refine Rs rfl rfl rfl rfl rfl ?_
            refine Rs rfl rfl rfl rfl rfl ?_
            refine Rs rfl rfl rfl rfl rfl ?_
            refine Rs rfl rfl rfl rfl rfl ?_
            refine Rs rfl rfl rfl rfl rfl ?_
            refine Rs rfl rfl rfl rfl rfl ?_
            refine Rs rfl rfl rfl rfl rfl ?_
            refine Rs rfl rfl rfl rfl rfl ?_
            refine Rs rfl rfl rfl rfl rfl ?_
            refine Rs rfl rfl rfl rfl rfl ?_
            refine Rv rfl rfl rfl (U_pick_f rfl rfl) rfl rfl ?_
            refine Rv rfl rfl rfl (U_pick_f rfl rfl) rfl rfl ?_
            refine Rv rfl rfl rfl (U_assign rfl) rfl rfl ?_
            refine Re rfl ?_
            exact joinTo id ⟨eD rfl rfl, trivial⟩ trivial rfl rfl rfl rfl (fun _ _ => rfl)
      refine thenQ_n ?_
      refine W_ret rfl ?_
      exact retL (rlT rfl rl0) (by first | rfl | (exact congrArg AV.bool (by unfold grt; first | (rw [show decide (14 < s.ls.length) = true from decide_eq_true (by omega)]; rfl) | (rw [show decide (14 < s.ls.length) = false from decide_eq_false (by omega), hmq, Bool.false_or])); done)) rfl
theorem samBS_p (a : List Bx) (c d : Option Nat) (ha : a.length ≤ 1000000) : Pure Try.prog 45 [boxesA a c, boxesA a d] (.bool true) := by
  have := samB_p a a c d ha ha; rwa [decide_eq_true rfl] at this
theorem skiesS_p (s : Sk) (c d : Option Nat) (hl : s.ls.length ≤ 1000000) (hbl : ∀ l ∈ s.ls, l.length ≤ 1000000) : Pure Try.prog 46 [.agg [i64 s.h, i64 s.z, landsA s.ls c], .agg [i64 s.h, i64 s.z, landsA s.ls d]] (.bool true) := by
  refine pure_of_body Try.func46 (c := body Try.f46) rfl (by simp [Try.ntmps46]) fun w0 Φ0 => ?_
  refine W_seq rfl ?_
  refine W_reg rfl ?_
  refine Rv rfl rfl rfl (U_boxF rfl rfl rfl) rfl rfl ?_
  refine Rv rfl rfl rfl (U_boxF rfl rfl rfl) rfl rfl ?_
  refine Rv rfl rfl rfl (U_assign rfl) rfl rfl ?_
  refine Re rfl ?_
  refine thenQ_n ?_
  refine W_seq rfl ?_
  refine W_seq rfl ?_
  refine W_reg rfl ?_
  refine Rv rfl rfl rfl (U_fieldAddrR rfl) rfl rfl ?_
  refine Rv rfl rfl rfl (U_load1 rfl rfl rfl) rfl rfl ?_
  refine Rv rfl rfl rfl (U_fieldAddrR rfl) rfl rfl ?_
  refine Rv rfl rfl rfl (U_load1 rfl rfl rfl) rfl rfl ?_
  refine Rv rfl rfl rfl (U_neqS rfl rfl) rfl rfl ?_
  refine Rv rfl rfl rfl (U_move rfl) rfl rfl ?_
  refine Rv rfl rfl rfl (U_fieldAddrR rfl) rfl rfl ?_
  refine Rv rfl rfl rfl (U_load1 rfl rfl rfl) rfl rfl ?_
  refine Rv rfl rfl rfl (U_fieldAddrR rfl) rfl rfl ?_
  refine Rv rfl rfl rfl (U_load1 rfl rfl rfl) rfl rfl ?_
  refine Rv rfl rfl rfl (U_neqS rfl rfl) rfl rfl ?_
  refine Rv rfl rfl rfl (U_pick_f rfl rfl) rfl rfl ?_
  refine Rv rfl rfl rfl (U_move rfl) rfl rfl ?_
  refine Rv rfl rfl rfl (U_fieldAddrR rfl) rfl rfl ?_
  refine Rv rfl rfl rfl (U_load1 rfl rfl rfl) rfl rfl ?_
  refine Rv rfl rfl rfl (U_lenOf rfl len_ros) rfl rfl ?_
  refine Rv rfl rfl rfl (U_fieldAddrR rfl) rfl rfl ?_
  refine Rv rfl rfl rfl (U_load1 rfl rfl rfl) rfl rfl ?_
  refine Rv rfl rfl rfl (U_lenOf rfl len_ros) rfl rfl ?_
  refine Rv rfl rfl rfl (U_neqS rfl rfl) rfl rfl ?_
  refine Rv rfl rfl rfl (U_pick_f rfl rfl) rfl rfl ?_
  refine Re rfl ?_
  refine thenQ_n ?_
  refine Wcond rfl rfl (fun h => nomatch h) (fun _ => ?_)
  refine W_skip rfl ?_
  refine thenQ_n ?_
  refine W_seq rfl ?_
  refine W_seq rfl ?_
  refine W_reg rfl ?_
  refine Rv rfl rfl rfl (U_assign rfl) rfl rfl ?_
  refine Re rfl ?_
  refine thenQ_n ?_
  refine W_block rfl ?_
  refine LoopTo (T' := [(2, .rop [i64 s.h, i64 s.z, .ros (s.ls.map boxesL) s.ls.length c] 0), (3, .rop [i64 s.h, i64 s.z, .ros (s.ls.map boxesL) s.ls.length d] 0), (5, i64 ((0 : Nat) : Int))]) (H' := []) (n := 0) rfl (fun mz_ qz_ => ∃ (i : Nat), i ≤ s.ls.length ∧ mz_ = s.ls.length - i ∧ qz_ = ⟨[(2, .rop [i64 s.h, i64 s.z, .ros (s.ls.map boxesL) s.ls.length c] 0), (3, .rop [i64 s.h, i64 s.z, .ros (s.ls.map boxesL) s.ls.length d] 0), (5, i64 ((i : Nat) : Int))], [], 0, []⟩) ⟨0, (by omega), rfl, rfl⟩ id ⟨eD rfl rfl, eD rfl rfl, eD rfl rfl, trivial⟩ trivial rfl rfl rfl rfl (fun _ _ => rfl) ?_
  rintro _ _ ⟨i, hi0_0, rfl, rfl⟩
  refine W_seq rfl ?_
  refine W_seq rfl ?_
  refine W_reg rfl ?_
  refine Rv rfl rfl rfl (U_move rfl) rfl rfl ?_
  refine Rv rfl rfl rfl (U_fieldAddrR rfl) rfl rfl ?_
  refine Rv rfl rfl rfl (U_load1 rfl rfl rfl) rfl rfl ?_
  refine Rv rfl rfl rfl (U_lenOf rfl len_ros) rfl rfl ?_
  refine Rv rfl rfl rfl (U_lss rfl rfl) rfl rfl ?_
  refine Re rfl ?_
  refine thenQ_n ?_
  refine WcondP rfl rfl (fun hc1 => ?_) (fun hc1 => ?_)
  · refine W_skip rfl ?_
    refine thenQ_n ?_
    refine W_seq rfl ?_
    refine W_block rfl ?_
    refine W_seq rfl ?_
    refine Wdraw rfl (by kernel_rfl) (by kernel_rfl) ?_
    refine Dv rfl rfl rfl (U_fieldAddrR rfl) rfl rfl ?_
    refine Dv rfl rfl rfl (U_load1 rfl rfl rfl) rfl rfl ?_
    refine Dv rfl rfl rfl (U_move rfl) rfl rfl ?_
    have hx1 : i < s.ls.length := by omega
    refine Dv rfl rfl rfl (U_indexR (j := i) rfl rfl rfl hx1) rfl rfl ?_
    refine Dv rfl rfl rfl (U_load1 rfl rfl (getM hx1)) rfl rfl ?_
    refine Dv rfl rfl rfl (U_fieldAddrR rfl) rfl rfl ?_
    refine Dv rfl rfl rfl (U_load1 rfl rfl rfl) rfl rfl ?_
    refine Dv rfl rfl rfl (U_move rfl) rfl rfl ?_
    refine Dv rfl rfl rfl (U_indexR (j := i) rfl rfl rfl hx1) rfl rfl ?_
    refine Dv rfl rfl rfl (U_load1 rfl rfl (getM hx1)) rfl rfl ?_
    refine Dv rfl rfl rfl (U_call rfl rfl (samBS_p s.ls[i] none none (by first | assumption | omega | exact hbl _ (List.getElem_mem _))) rfl) rfl rfl ?_
    refine Dv rfl rfl rfl (U_not rfl) rfl rfl ?_
    refine Dr.nil rfl ?_
    refine thenQ_n ?_
    refine Wcond rfl rfl (fun h => nomatch h) (fun _ => ?_)
    refine W_skip rfl ?_
    refine blkQ_n ?_
    refine thenQ_n ?_
    refine W_reg rfl ?_
    refine Rv rfl rfl rfl (U_move rfl) rfl rfl ?_
    refine Rv rfl rfl rfl (U_add rfl rfl (w64e (m := ((i + 1 : Nat) : Int)) (by omega) (by omega) (by omega))) rfl rfl ?_
    refine Rv rfl rfl rfl (U_assign rfl) rfl rfl ?_
    refine Re rfl ?_
    refine thenQ_n ?_
    exact againTo (T' := [(2, .rop [i64 s.h, i64 s.z, .ros (s.ls.map boxesL) s.ls.length c] 0), (3, .rop [i64 s.h, i64 s.z, .ros (s.ls.map boxesL) s.ls.length d] 0), (5, i64 (((i + 1) : Nat) : Int))]) (H' := []) (n := 0) (s.ls.length - (i + 1)) ⟨i + 1, (by omega), rfl, rfl⟩ (by omega) id ⟨eD rfl rfl, eD rfl rfl, eD rfl rfl, trivial⟩ trivial rfl rfl rfl rfl (fun _ _ => rfl)
  · refine W_exit rfl ?_
    refine thenQ_x ?_
    refine thenQ_x ?_
    refine blkQ_x rfl ?_
    refine thenQ_n ?_
    refine W_seq rfl ?_
    refine W_reg rfl ?_
    refine Rv rfl rfl rfl (U_assign rfl) rfl rfl ?_
    refine Re rfl ?_
    refine thenQ_n ?_
    refine W_ret rfl ?_
    exact retL (rlT rfl rl0) rfl rfl
theorem fine_p (s : Sk) (c : Option Nat) : Pure Try.prog 47 [.agg [i64 s.h, i64 s.z, landsA s.ls c]] (.bool (!grt s && decide (chkS s = 0))) := by
  refine pure_of_body Try.func47 (c := body Try.f47) rfl (by simp [Try.ntmps47]) fun w0 Φ0 => ?_
  refine W_seq rfl ?_
  refine W_reg rfl ?_
  refine Rv rfl rfl rfl (U_boxF rfl rfl rfl) rfl rfl ?_
  refine Rv rfl rfl rfl (U_assign rfl) rfl rfl ?_
  refine Re rfl ?_
  refine thenQ_n ?_
  refine W_seq rfl ?_
  refine Wjoin ⟨[(2, .bool ((!(grt s)) && (decide ((chkS s) = 0))))], [], 0, []⟩ ?_ ?_
  · refine W_reg rfl ?_
    refine Rv rfl rfl rfl (U_load3 rfl rfl rfl rfl rfl) rfl rfl ?_
    refine Rv rfl rfl rfl (U_call rfl rfl (great_p s c) rfl) rfl rfl ?_
    refine Rv rfl rfl rfl (U_not rfl) rfl rfl ?_
    refine Rv rfl rfl rfl (U_move rfl) rfl rfl ?_
    refine Rsplit (t := 6) rfl (fun hg1 => ?_) (fun hg1 => ?_)
    · rw [hg1]
      have hgr : grt s = false := by simpa using hg1
      have hl := grt_ls hgr
      have hbl := grt_bl hgr
      refine Rv rfl rfl rfl (U_load3 rfl rfl rfl rfl rfl) rfl rfl ?_
      refine Rv rfl rfl rfl (U_call rfl rfl (chkSR_p s c hl hbl) rfl) rfl rfl ?_
      refine Rv rfl rfl rfl (U_eql rfl rfl) rfl rfl ?_
      refine Rv rfl rfl rfl (U_pick_t rfl rfl) rfl rfl ?_
      refine Rv rfl rfl rfl (U_assign rfl) rfl rfl ?_
      refine Re rfl ?_
      exact joinTo id ⟨eD rfl rfl, trivial⟩ trivial rfl rfl rfl rfl (fun _ _ => rfl)
    · rw [hg1]
      refine Rs rfl rfl rfl rfl rfl ?_
      refine Rs rfl rfl rfl rfl rfl ?_
      refine Rs rfl rfl rfl rfl rfl ?_
      refine Rv rfl rfl rfl (U_pick_f rfl rfl) rfl rfl ?_
      refine Rv rfl rfl rfl (U_assign rfl) rfl rfl ?_
      refine Re rfl ?_
      exact joinTo id ⟨eD rfl rfl, trivial⟩ trivial rfl rfl rfl rfl (fun _ _ => rfl)
  refine thenQ_n ?_
  refine W_ret rfl ?_
  exact retL (rlT rfl rl0) rfl rfl
end Go.Proofs.Ythlolelbmhfdbaa
end

section
namespace Go.Proofs.Ythlolelbmhfdbaa
open Go Go.AE Go.Proofs
theorem rd5 : Reads Try.prog 5 fun vs => ∃ n, (0 ≤ n ∧ n ≤ 255) ∧ vs = [.int .u8 n] := Reads.int Try.underlying5
theorem rd5b : Reads Try.prog 5 fun vs => ∃ n : Nat, n < 256 ∧ vs = [.int .u8 (n : Nat)] := rd5.mono fun vs ⟨n, h, e⟩ => ⟨n.toNat, by omega, by rw [e, Int.toNat_of_nonneg h.1]⟩
end Go.Proofs.Ythlolelbmhfdbaa
end

section
namespace Go.Proofs.Ythlolelbmhfdbaa
open Go Go.AE Go.Proofs
theorem rd60 : Reads Try.prog 60 fun vs => ∃ x : Nat × Nat × Nat × Nat, (x.1 < 256 ∧ x.2.1 < 256 ∧ x.2.2.1 < 256 ∧ x.2.2.2 < 256) ∧ vs = [.int .u8 x.1, .int .u8 x.2.1, .int .u8 x.2.2.1, .int .u8 x.2.2.2] :=
  (Reads.array Try.underlying60 (z := 1) (by kernel_rfl) (by kernel_rfl) rd5b).mono fun vs ⟨ls, h, hn, e⟩ => by
    obtain ⟨xs, h1, rfl⟩ := all_map (Q := fun n : Nat => n < 256) (f := fun n : Nat => [AV.int IntKind.u8 n]) h
    rw [List.length_map] at hn
    match xs, hn, h1 with
    | [a, b, c, d], _, h1 => exact ⟨(a, b, c, d), ⟨h1 a (by simp), h1 b (by simp), h1 c (by simp), h1 d (by simp)⟩, by rw [e]; rfl⟩
theorem inp60 : ArgR Try.prog 60 fun a => ∃ x : Nat × Nat × Nat × Nat, (x.1 < 256 ∧ x.2.1 < 256 ∧ x.2.2.1 < 256 ∧ x.2.2.2 < 256) ∧ a = .agg [.int .u8 x.1, .int .u8 x.2.1, .int .u8 x.2.2.1, .int .u8 x.2.2.2] :=
  (ArgR.array Try.underlying60 rd60).mono fun v ⟨vs, ⟨x, hx, e⟩, e'⟩ => ⟨x, hx, by rw [e', e]⟩
end Go.Proofs.Ythlolelbmhfdbaa
end

section
namespace Go.Proofs.Ythlolelbmhfdbaa
set_option maxRecDepth 20000
open Go.AE
theorem sumS_congr {α : Type} {f g : α → Nat} {l : List α} (h : ∀ x ∈ l, f x = g x) : (l.map f).sum = (l.map g).sum := by rw [List.map_congr_left h]
theorem sumS_le {α : Type} {f g : α → Nat} : ∀ {l : List α}, (∀ x ∈ l, f x ≤ g x) → (l.map f).sum ≤ (l.map g).sum
  | [], _ => Nat.le_refl _
  | a :: l, h => by
    have h1 := h a (.head _); have h2 := sumS_le (l := l) fun x hx => h x (.tail _ hx)
    simp only [List.map_cons, List.sum_cons]; omega
theorem sumS_0 {α : Type} {f : α → Nat} {l : List α} (h : ∀ x ∈ l, f x = 0) : (l.map f).sum = 0 := by
  rw [sumS_congr (g := fun _ => 0) h]; induction l with
  | nil => rfl
  | cons a l ih => simp [ih fun x hx => h x (.tail _ hx)]
theorem sumS_one {α : Type} [DecidableEq α] {f : α → Nat} {x : α} : ∀ {l : List α}, l.Nodup → x ∈ l → (l.map fun q => if q = x then f q else 0).sum = f x
  | [], _, h => by cases h
  | a :: l, hn, h => by
    rw [List.nodup_cons] at hn
    simp only [List.map_cons, List.sum_cons]
    by_cases e : a = x
    · subst e
      rw [if_pos rfl, sumS_0 fun y hy => if_neg fun e => hn.1 (by rw [← e]; exact hy)]; rfl
    · rw [if_neg e, sumS_one hn.2 (by cases h with | head => exact absurd rfl e | tail _ h => exact h)]; omega
end Go.Proofs.Ythlolelbmhfdbaa
end

section
namespace Go.Proofs.Ythlolelbmhfdbaa
set_option maxRecDepth 20000
open Go.AE
theorem sk_ok {s : Sk} (h : chkS s = 0) : ∃ (H Z : Nat) (ls : List (List Bx)), s = ⟨H, Z, ls⟩ ∧ VS ⟨H, Z, ls⟩ H Z := by
  obtain ⟨H, Z, hv⟩ := vs_of h
  obtain ⟨h', z', ls⟩ := s
  have e1 := hv.h; have e2 := hv.z
  simp only at e1 e2
  subst e1; subst e2
  exact ⟨H, Z, ls, rfl, hv⟩
theorem fineF_p (s : Sk) (c : Option Nat) (h : (!grt s && decide (chkS s = 0)) = false) : Pure Try.prog 47 [.agg [i64 s.h, i64 s.z, landsA s.ls c]] (.bool false) := by
  have := fine_p s c; rwa [h] at this
theorem fineT_p (H Z : Nat) (ls : List (List Bx)) (c : Option Nat) (hg : grt ⟨H, Z, ls⟩ = false) (hc : chkS ⟨H, Z, ls⟩ = 0) : Pure Try.prog 47 [.agg [i64 (H : Nat), i64 (Z : Nat), landsA ls c]] (.bool true) := by
  have := fine_p ⟨H, Z, ls⟩ c; rwa [hg, hc] at this
end Go.Proofs.Ythlolelbmhfdbaa
end

section
namespace Go.Proofs.Ythlolelbmhfdbaa
set_option maxRecDepth 20000
open Go.AE
theorem cntF {p : Nat → Bool} : ∀ {n : Nat}, ((List.range n).filter p).length = ((List.range n).map fun i => if p i = true then 1 else 0).sum
  | 0 => rfl
  | n + 1 => by
    rw [List.range_succ, List.filter_append, List.length_append, List.map_append, List.sum_append, cntF (n := n)]
    congr 1
    by_cases h : p n = true
    · simp [h]
    · simp [h]
theorem range_getD {α : Type} {f : α → Nat} {d : α} {l : List α} : ((List.range l.length).map fun i => f (l.getD i d)) = l.map f := by
  apply List.ext_getElem (by simp)
  intro i h1 h2
  simp at h1 h2
  simp [List.getD_eq_getElem?_getD, List.getElem?_eq_getElem, h1]
theorem cntQ_sum {ls : List (List Bx)} {H : Nat} {p : Nat × Nat} : cntQ ls H p = (ls.map fun l => bitQ l H p.1 p.2).sum := by
  unfold cntQ ofQ
  rw [List.length_map, cntF]
  have : ((List.range ls.length).map fun i => if inL' (ls.getD i []) H p.1 p.2 = true then 1 else 0) = (List.range ls.length).map fun i => (fun l => bitQ l H p.1 p.2) (ls.getD i []) := rfl
  rw [this, range_getD (f := fun l => bitQ l H p.1 p.2)]
theorem sum_pos {α : Type} {f : α → Nat} : ∀ {l : List α} {x : α}, x ∈ l → f x ≤ (l.map f).sum
  | a :: l, x, h => by
    simp only [List.map_cons, List.sum_cons]
    cases h with
    | head => omega
    | tail _ h => have := sum_pos (f := f) h; omega
end Go.Proofs.Ythlolelbmhfdbaa
end

section
namespace Go.Proofs.Ythlolelbmhfdbaa
set_option maxRecDepth 20000
open Go.AE
theorem onceN {H Z : Nat} {ls : List (List Bx)} (hc : chkS ⟨H, Z, ls⟩ = 0) (hn : fltQ Z H ls = none) : onceQ ⟨H, Z, ls⟩ = 0 := by unfold onceQ; rw [fltR_n hc hn]; rfl
theorem onceS {H Z : Nat} {ls : List (List Bx)} {p : Nat × Nat} (hc : chkS ⟨H, Z, ls⟩ = 0) (hn : fltQ Z H ls = some p) : onceQ ⟨H, Z, ls⟩ = 19 := by unfold onceQ; rw [fltR_s hc hn]; rfl
theorem vs_bl {H Z : Nat} {ls : List (List Bx)} (hv : VS ⟨H, Z, ls⟩ H Z) : ∀ l ∈ ls, l.length ≤ 1000000 := fun l hl => Nat.le_trans (hv.lb l hl) (by decide)
theorem vs_ln {H Z : Nat} {ls : List (List Bx)} (hv : VS ⟨H, Z, ls⟩ H Z) : ls.length ≤ 1000000 := Nat.le_trans hv.ln (by decide)
theorem onceN_p (H Z : Nat) (ls : List (List Bx)) (c : Option Nat) (hc : chkS ⟨H, Z, ls⟩ = 0) (hv : VS ⟨H, Z, ls⟩ H Z) (hn : fltQ Z H ls = none) : Pure Try.prog 25 [.agg [i64 (H : Nat), i64 (Z : Nat), landsA ls c]] (i64 0) := by
  have := onceA_p ⟨H, Z, ls⟩ c (vs_ln hv) (vs_bl hv); rwa [onceN hc hn] at this
theorem onceS_p (H Z : Nat) (ls : List (List Bx)) (c : Option Nat) (hc : chkS ⟨H, Z, ls⟩ = 0) (hv : VS ⟨H, Z, ls⟩ H Z) {p : Nat × Nat} (hn : fltQ Z H ls = some p) : Pure Try.prog 25 [.agg [i64 (H : Nat), i64 (Z : Nat), landsA ls c]] (i64 19) := by
  have := onceA_p ⟨H, Z, ls⟩ c (vs_ln hv) (vs_bl hv); rwa [onceS hc hn] at this
end Go.Proofs.Ythlolelbmhfdbaa
end

section
namespace Go.Proofs.Ythlolelbmhfdbaa
set_option maxRecDepth 20000
open Go.AE
def boxW (Z H x0 x1 x2 x3 : Nat) : Bx := ⟨((x0 % H : Nat) : Int), ((1 + x1 % H : Nat) : Int), ((x2 % Z : Nat) : Int), ((x2 % Z + 1 + x3 % (Z - x2 % Z) : Nat) : Int)⟩
theorem boxW_is {Z H x0 x1 x2 x3 : Nat} (hH : 1 ≤ H) (hZ : 1 ≤ Z) : isB (boxW Z H x0 x1 x2 x3) H Z = true := by
  have a := Nat.mod_lt x0 (show H > 0 by omega); have b := Nat.mod_lt x1 (show H > 0 by omega); have c := Nat.mod_lt x2 (show Z > 0 by omega); have d := Nat.mod_lt x3 (show Z - x2 % Z > 0 by omega)
  rw [isB_iff]; simp only [boxW]; omega
theorem boxW_p (H Z : Nat) (ls : List (List Bx)) (c : Option Nat) (hv : VS ⟨H, Z, ls⟩ H Z) (x0 x1 x2 x3 : Nat) (hx0 : x0 < 256) (hx1 : x1 < 256) (hx2 : x2 < 256) (hx3 : x3 < 256) : Pure Try.prog 51 [.agg [i64 (H : Nat), i64 (Z : Nat), landsA ls c], .agg [.int .u8 (x0 : Nat), .int .u8 (x1 : Nat), .int .u8 (x2 : Nat), .int .u8 (x3 : Nat)]] (.agg [i64 (boxW Z H x0 x1 x2 x3).fr, i64 (boxW Z H x0 x1 x2 x3).wd, i64 (boxW Z H x0 x1 x2 x3).lo, i64 (boxW Z H x0 x1 x2 x3).hi]) := by
  have hv' := hv
  obtain ⟨_, _, hH, hZ1, hln, hlb, hbx⟩ := hv'
  simp only at hln hlb hbx
  have hZ := hZ1.2
  have hHZ : Z * H ≤ 1152 := Nat.mul_le_mul hZ hH.2
  have hHZc : H * Z = Z * H := Nat.mul_comm _ _
  have he3 : ((x3 : Nat) : Int).tmod ((Z : Int) - ((x2 % Z : Nat) : Int)) = ((x3 % (Z - x2 % Z) : Nat) : Int) := by
    have := Nat.mod_lt x2 (show Z > 0 by omega)
    rw [Int.tmod_eq_emod_of_nonneg (by omega), show (Z : Int) - ((x2 % Z : Nat) : Int) = ((Z - x2 % Z : Nat) : Int) by omega]; rfl
  have m0 := Nat.mod_lt x0 (show H > 0 by omega)
  have m1 := Nat.mod_lt x1 (show H > 0 by omega)
  have m2 := Nat.mod_lt x2 (show Z > 0 by omega)
  have m3 := Nat.mod_lt x3 (show Z - x2 % Z > 0 by omega)
  refine pure_of_body Try.func51 (c := body Try.f51) rfl (by simp [Try.ntmps51]) fun w0 Φ0 => ?_
  refine W_seq rfl ?_
  refine W_reg rfl ?_
  refine Rv rfl rfl rfl (U_boxF rfl rfl rfl) rfl rfl ?_
  refine Rv rfl rfl rfl (U_boxF rfl rfl rfl) rfl rfl ?_
  refine Ra rfl rfl rfl (U_alloc) rfl rfl rfl ?_
  refine Re rfl ?_
  refine thenQ_n ?_
  refine W_seq rfl ?_
  refine W_reg rfl ?_
  refine Rv rfl rfl rfl (U_indexAR (j := 2) rfl rfl rfl (by decide)) rfl rfl ?_
  refine Rv rfl rfl rfl (U_load1 rfl rfl rfl) rfl rfl ?_
  refine Rv rfl rfl rfl (U_convInt (by rfl) rfl (wr_i64 (by omega) (by omega))) rfl rfl ?_
  refine Rv rfl rfl rfl (U_fieldAddrR rfl) rfl rfl ?_
  refine Rv rfl rfl rfl (U_load1 rfl rfl rfl) rfl rfl ?_
  refine Rv rfl rfl rfl (U_rem (c := ((x2 % Z : Nat) : Int)) rfl rfl (by omega) (tmodN _ _)) rfl rfl ?_
  refine Rv rfl rfl rfl (U_assign rfl) rfl rfl ?_
  refine Re rfl ?_
  refine thenQ_n ?_
  refine W_seq rfl ?_
  refine Wdraw rfl (by kernel_rfl) (by kernel_rfl) ?_
  refine Dv rfl rfl rfl (U_indexAR (j := 0) rfl rfl rfl (by decide)) rfl rfl ?_
  refine Dv rfl rfl rfl (U_load1 rfl rfl rfl) rfl rfl ?_
  refine Dv rfl rfl rfl (U_convInt (by rfl) rfl (wr_i64 (by omega) (by omega))) rfl rfl ?_
  refine Dv rfl rfl rfl (U_fieldAddrR rfl) rfl rfl ?_
  refine Dv rfl rfl rfl (U_load1 rfl rfl rfl) rfl rfl ?_
  refine Dv rfl rfl rfl (U_rem (c := ((x0 % H : Nat) : Int)) rfl rfl (by omega) (tmodN _ _)) rfl rfl ?_
  refine Dv rfl rfl rfl (U_indexAR (j := 1) rfl rfl rfl (by decide)) rfl rfl ?_
  refine Dv rfl rfl rfl (U_load1 rfl rfl rfl) rfl rfl ?_
  refine Dv rfl rfl rfl (U_convInt (by rfl) rfl (wr_i64 (by omega) (by omega))) rfl rfl ?_
  refine Dv rfl rfl rfl (U_fieldAddrR rfl) rfl rfl ?_
  refine Dv rfl rfl rfl (U_load1 rfl rfl rfl) rfl rfl ?_
  refine Dv rfl rfl rfl (U_rem (c := ((x1 % H : Nat) : Int)) rfl rfl (by omega) (tmodN _ _)) rfl rfl ?_
  refine Dv rfl rfl rfl (U_add rfl rfl (w64 (by omega) (by omega))) rfl rfl ?_
  refine Dv rfl rfl rfl (U_move rfl) rfl rfl ?_
  refine Dv rfl rfl rfl (U_move rfl) rfl rfl ?_
  refine Dv rfl rfl rfl (U_add rfl rfl (w64e (m := ((x2 % Z + 1 : Nat) : Int)) (by omega) (by omega) (by omega))) rfl rfl ?_
  refine Dv rfl rfl rfl (U_indexAR (j := 3) rfl rfl rfl (by decide)) rfl rfl ?_
  refine Dv rfl rfl rfl (U_load1 rfl rfl rfl) rfl rfl ?_
  refine Dv rfl rfl rfl (U_convInt (by rfl) rfl (wr_i64 (by omega) (by omega))) rfl rfl ?_
  refine Dv rfl rfl rfl (U_fieldAddrR rfl) rfl rfl ?_
  refine Dv rfl rfl rfl (U_load1 rfl rfl rfl) rfl rfl ?_
  refine Dv rfl rfl rfl (U_move rfl) rfl rfl ?_
  refine Dv rfl rfl rfl (U_sub rfl rfl (w64 (by omega) (by omega))) rfl rfl ?_
  refine Dv rfl rfl rfl (U_rem rfl rfl (by omega) rfl) rfl rfl ?_
  refine Dv rfl rfl rfl (U_add rfl rfl (w64 (by omega) (by omega))) rfl rfl ?_
  refine Dv rfl rfl rfl (U_call rfl rfl (box_p ((x0 % H : Nat) : Int) (1 + ((x1 % H : Nat) : Int)) ((x2 % Z : Nat) : Int) (((x2 % Z + 1 : Nat) : Int) + (((x3 : Nat) : Int).tmod (((Z : Nat) : Int) - ((x2 % Z : Nat) : Int))))) rfl) rfl rfl ?_
  refine Dn_ rfl rfl rfl (U_storeAll rfl rfl rfl rfl rfl rfl) rfl rfl ?_
  refine Dr.nil rfl ?_
  refine thenQ_n ?_
  refine W_ret rfl ?_
  exact retL (rlA rfl rfl rfl rl0) (by first | rfl | (simp only [packA]; rw [he3]; simp only [boxW]; push_cast; rfl; first | done | rfl)) rfl
end Go.Proofs.Ythlolelbmhfdbaa
end

section
namespace Go.Proofs.Ythlolelbmhfdbaa
set_option maxRecDepth 20000
open Go.AE
abbrev atB (H : Nat) (b : Bx) (i : Nat) : Bool := inN b H (i / H) (i % H)
abbrev atL (H : Nat) (l : List Bx) (i : Nat) : Bool := inL' l H (i / H) (i % H)
theorem bitQ_1 {l : List Bx} {H i : Nat} : bitQ l H (i / H) (i % H) = if atL H l i = true then 1 else 0 := rfl
theorem sumS_zero {α : Type} {f : α → Nat} {l : List α} : (l.map f).sum = 0 ↔ ∀ x ∈ l, f x = 0 :=
  ⟨fun h x hx => by have := sum_pos (f := f) hx; omega, sumS_0⟩
theorem sumS_full {α : Type} {f : α → Nat} (h1 : ∀ x, f x ≤ 1) : ∀ {l : List α}, (l.map f).sum = l.length ↔ ∀ x ∈ l, f x = 1
  | [] => by simp
  | a :: l => by
    have h2 := sumS_full h1 (l := l); have h3 := h1 a
    have h4 := sum_le (f := f) (m := 1) (l := l) fun x _ => h1 x
    simp only [List.map_cons, List.sum_cons, List.length_cons, List.forall_mem_cons]
    rw [← h2]; omega
theorem inK_0 {Z H : Nat} {l : List Bx} {b : Bx} : inK H l b (Z * H) = 0 ↔ ∀ i, i < Z * H → atB H b i = true → atL H l i = false := by
  unfold inK
  rw [sumS_zero]
  simp only [bxN, List.mem_filter, List.mem_range, bitQ_1]
  constructor
  · intro h i hi hb
    have := h i ⟨hi, hb⟩
    by_cases e : atL H l i = true
    · rw [if_pos e] at this; omega
    · simpa using e
  · rintro h i ⟨hi, hb⟩
    rw [if_neg (by rw [h i hi hb]; simp)]
theorem inK_2 {Z H : Nat} {l : List Bx} {b : Bx} : inK H l b (Z * H) = (bxN H b (Z * H)).length ↔ ∀ i, i < Z * H → atB H b i = true → atL H l i = true := by
  unfold inK
  rw [sumS_full (fun i => bitQ_le)]
  simp only [bxN, List.mem_filter, List.mem_range, bitQ_1]
  constructor
  · intro h i hi hb
    have := h i ⟨hi, hb⟩
    by_cases e : atL H l i = true
    · exact e
    · rw [if_neg e] at this; omega
  · rintro h i ⟨hi, hb⟩
    rw [if_pos (h i hi hb)]
theorem kin_0 {Z H : Nat} {l : List Bx} {b : Bx} : kinQ Z H l b = 0 ↔ ∀ i, i < Z * H → atB H b i = true → atL H l i = false := by
  rw [← inK_0]; unfold kinQ
  by_cases h : inK H l b (Z * H) = 0
  · rw [if_pos h]; exact ⟨fun _ => h, fun _ => rfl⟩
  · rw [if_neg h]; split
    · exact ⟨fun e => by omega, fun e => absurd e h⟩
    · exact ⟨fun e => by omega, fun e => absurd e h⟩
theorem kin_2 {Z H : Nat} {l : List Bx} {b : Bx} (h0 : ∃ i, i < Z * H ∧ atB H b i = true) : kinQ Z H l b = 2 ↔ ∀ i, i < Z * H → atB H b i = true → atL H l i = true := by
  obtain ⟨i, hi, hb⟩ := h0
  by_cases h : inK H l b (Z * H) = 0
  · have e : kinQ Z H l b = 0 := if_pos h
    rw [e]
    constructor
    · intro h; omega
    · intro h2; have := inK_0.1 h i hi hb; have := h2 i hi hb; simp_all
  · rw [← inK_2]; unfold kinQ; rw [if_neg h]
    split <;> simp [*]
theorem div_at {H z h : Nat} (hh : h < H) : (z * H + h) / H = z ∧ (z * H + h) % H = h := by
  rw [Nat.mul_comm, Nat.mul_add_div (by omega), Nat.mul_add_mod, Nat.div_eq_of_lt hh, Nat.mod_eq_of_lt hh]; simp
theorem at_lt {Z H z h : Nat} (hz : z < Z) (hh : h < H) : z * H + h < Z * H := by
  have := Nat.mul_le_mul_right H (show z + 1 ≤ Z from hz)
  rw [Nat.add_mul] at this; omega
theorem bx_some {Z H : Nat} {b : Bx} (hb : isB b H Z = true) : ∃ i, i < Z * H ∧ atB H b i = true := by
  rw [isB_iff] at hb
  have hh : b.fr.toNat < H := by omega
  have hz : b.lo.toNat < Z := by omega
  refine ⟨b.lo.toNat * H + b.fr.toNat, at_lt hz hh, ?_⟩
  unfold atB
  rw [(div_at hh).1, (div_at hh).2]
  unfold inN
  simp only [Bool.and_eq_true, decide_eq_true_eq]
  refine ⟨⟨by omega, by omega⟩, ?_⟩
  rw [show ((b.fr.toNat : Nat) : Int) - b.fr + H = H by omega, Int.emod_self]; omega
end Go.Proofs.Ythlolelbmhfdbaa
end

section
namespace Go.Proofs.Ythlolelbmhfdbaa
set_option maxRecDepth 20000
open Go.AE
theorem vs_chk {H Z : Nat} {ls : List (List Bx)} (h : VS ⟨H, Z, ls⟩ H Z) : chkS ⟨H, Z, ls⟩ = 0 := by
  have h1 := h.h1; have h2 := h.z1; have h3 := h.ln; have h4 := h.lb; have h5 := h.bx
  simp only at h3 h4 h5
  unfold chkS
  rw [if_neg, if_neg, if_neg]
  · simp only [List.any_eq_true, not_exists, not_and]
    intro l hl b hb
    have := isB_iff.2 (h5 l hl b hb)
    simp [this]
  · simp only [Bool.or_eq_true, decide_eq_true_eq, List.any_eq_true, not_or, not_exists, not_and]
    exact ⟨by omega, fun l hl => by have := h4 l hl; omega⟩
  · rw [inL1, inL1]; simp; omega
end Go.Proofs.Ythlolelbmhfdbaa
end

section
namespace Go.Proofs.Ythlolelbmhfdbaa
set_option maxRecDepth 20000
open Go.AE
theorem mod2 {x H : Nat} (h : x < 2 * H) : x % H = if x < H then x else x - H := by
  split
  · exact Nat.mod_eq_of_lt ‹_›
  · rw [Nat.mod_eq_sub_mod (by omega), Nat.mod_eq_of_lt (by omega)]
theorem inN_nat {H z h f w y : Nat} (hh : h < H) (hf : f < H) : inN ⟨f, w, y, ((y + 1 : Nat) : Int)⟩ H z h = (decide (z = y) && decide ((h + H - f) % H < w)) := by
  unfold inN
  have e : ((h : Int) - (f : Int) + (H : Int)) % (H : Int) = (((h + H - f) % H : Nat) : Int) := by
    rw [show (h : Int) - (f : Int) + (H : Int) = ((h + H - f : Nat) : Int) by omega]; rfl
  simp only [e]
  rw [Bool.eq_iff_iff]
  simp only [Bool.and_eq_true, decide_eq_true_eq]
  omega
section
variable {H z h f : Nat} {p : Nat → Bool} {P : Nat → Nat → Bool}
theorem least (q : Nat → Bool) : ∀ n, (∀ j, j < n → q j = true) ∨ ∃ d, d < n ∧ q d = false ∧ ∀ j, j < d → q j = true
  | 0 => .inl fun j h => by omega
  | n + 1 => by
    rcases least q n with h | ⟨d, h1, h2, h3⟩
    · cases e : q n with
      | false => exact .inr ⟨n, by omega, e, h⟩
      | true =>
        refine .inl fun j hj => ?_
        by_cases e2 : j = n
        · subst e2; exact e
        · exact h j (by omega)
    · exact .inr ⟨d, by omega, h2, h3⟩
theorem run_start (hh : h < H) (hp : p h = true) (hn : ∃ k, k < H ∧ p k = false) : ∃ f, f < H ∧ p f = true ∧ p ((f + H - 1) % H) = false ∧ (h + H - f) % H < widQ H p f := by
  obtain ⟨k, hk, hkp⟩ := hn
  rcases least (fun d => p ((h + H - d) % H)) (H + 1) with hall | ⟨d, hd, hd1, hd2⟩
  · exfalso
    have := hall ((h + H - k) % H) (by have := Nat.mod_lt (h + H - k) (show H > 0 by omega); omega)
    have e : (h + H - (h + H - k) % H) % H = k := by
      rw [mod2 (x := h + H - k) (by omega)]
      split
      · rw [show h + H - (h + H - k) = k by omega, Nat.mod_eq_of_lt hk]
      · rw [show h + H - (h + H - k - H) = k + H by omega, Nat.add_mod_right, Nat.mod_eq_of_lt hk]
    rw [e, hkp] at this; cases this
  · have hd0 : d ≠ 0 := fun e => by
      subst e
      rw [Nat.sub_zero, Nat.add_mod_right, Nat.mod_eq_of_lt hh, hp] at hd1; cases hd1
    have hdH : d ≠ H := fun e => by
      subst e
      rw [Nat.add_sub_cancel, Nat.mod_eq_of_lt hh, hp] at hd1; cases hd1
    -- the beginning: d - 1 hours ahead
    refine ⟨(h + H - (d - 1)) % H, Nat.mod_lt _ (by omega), hd2 (d - 1) (by omega), ?_, ?_⟩
    · rw [← hd1]
      congr 1
      rw [mod2 (x := h + H - (d - 1)) (by omega), mod2 (x := h + H - d) (by omega)]
      split
      · rw [mod2 (by omega)]; split <;> split <;> omega
      · rw [mod2 (by omega)]; split <;> split <;> omega
    · have hf : (h + H - (d - 1)) % H < H := Nat.mod_lt _ (by omega)
      have e : (h + H - (h + H - (d - 1)) % H) % H = d - 1 := by
        rw [mod2 (x := h + H - (d - 1)) (by omega)]
        split
        · rw [show h + H - (h + H - (d - 1)) = d - 1 by omega, Nat.mod_eq_of_lt (by omega)]
        · rw [show h + H - (h + H - (d - 1) - H) = d - 1 + H by omega, Nat.add_mod_right, Nat.mod_eq_of_lt (by omega)]
      rw [e]
      obtain ⟨w1, w2, w3, w4⟩ := widQ_spec (H := H) (p := p) (by omega) (hd2 (d - 1) (by omega)) hf
      refine Nat.lt_of_not_le fun hle => ?_
      rcases w4 with w4 | w4
      · omega
      · have : p ((h + H - (d - 1 - widQ H p ((h + H - (d - 1)) % H))) % H) = true := hd2 _ (by omega)
        have e2 : ((h + H - (d - 1)) % H + widQ H p ((h + H - (d - 1)) % H)) % H = (h + H - (d - 1 - widQ H p ((h + H - (d - 1)) % H))) % H := by
          rw [Nat.mod_add_mod]; congr 1; omega
        rw [e2, this] at w4; cases w4
theorem run_hit (hh : h < H) (hf : f < H) (hp : p f = true) (hd : (h + H - f) % H < widQ H p f) : p h = true := by
  obtain ⟨_, _, w3, _⟩ := widQ_spec (H := H) (p := p) (by omega) hp hf
  have := w3 _ hd
  have e : (f + (h + H - f) % H) % H = h := by
    rw [Nat.add_mod_mod, show f + (h + H - f) = h + H by omega, Nat.add_mod_right, Nat.mod_eq_of_lt hh]
  rwa [e] at this
theorem rnsZ_in {y : Nat} (hh : h < H) : ((rnsZ H p y).any fun b => inN b H z h) = (decide (z = y) && p h) := by
  by_cases ha : ∀ j, j < H → p j = true
  · rw [rnsZ_all ha]
    simp only [List.any_cons, List.any_nil, Bool.or_false]
    have := inN_nat (z := z) (y := y) (w := H) (f := 0) hh (by omega)
    simp only [Int.natCast_zero] at this
    rw [show (⟨0, (H : Int), (y : Int), ((y + 1 : Nat) : Int)⟩ : Bx) = ⟨((0 : Nat) : Int), H, y, ((y + 1 : Nat) : Int)⟩ from rfl]
    rw [inN_nat hh (by omega), ha h hh, decide_eq_true (show (h + H - 0) % H < H from Nat.mod_lt _ (by omega))]
  · obtain ⟨k, hk⟩ := Classical.not_forall.1 ha
    obtain ⟨hk, hkp⟩ := Classical.not_imp.1 hk
    rw [rnsZ_not hk (by simpa using hkp)]
    rw [Bool.eq_iff_iff]
    simp only [rnsH, List.any_eq_true, List.mem_flatMap, List.mem_range, Bool.and_eq_true, decide_eq_true_eq]
    constructor
    · rintro ⟨b, ⟨g, hg, hb⟩, hin⟩
      split at hb
      · rename_i hs
        rw [List.mem_singleton] at hb; subst hb
        rw [inN_nat hh hg] at hin
        simp only [Bool.and_eq_true, decide_eq_true_eq] at hin
        exact ⟨hin.1, run_hit hh hg hs.1 hin.2⟩
      · cases hb
    · rintro ⟨e, hp⟩
      obtain ⟨g, hg, h1, h2, h3⟩ := run_start hh hp ⟨k, hk, by simpa using hkp⟩
      refine ⟨_, ⟨g, hg, by rw [if_pos ⟨h1, h2⟩]; exact List.mem_singleton.2 rfl⟩, ?_⟩
      rw [inN_nat hh hg, e, decide_eq_true h3]; simp
theorem rnsK_in {Z : Nat} (hh : h < H) : ((rnsK H P Z).any fun b => inN b H z h) = (decide (z < Z) && P z h) := by
  induction Z with
  | zero => simp [rnsK]
  | succ Z ih =>
    rw [rnsK_succ, List.any_append, ih, rnsZ_in hh]
    by_cases e : z = Z
    · subst e; simp
    · have : (z < Z + 1) ↔ z < Z := by omega
      simp [e, this]
theorem runs_eqv {Z : Nat} (hP : ∀ z h, Z ≤ z → P z h = false) (hQ : ∀ z h, H ≤ h → P z h = false) : inL' (rnsK H P Z) H = P := by
  funext z h
  unfold inL'
  by_cases hh : h < H
  · rw [rnsK_in hh, decide_eq_true hh, Bool.true_and]
    by_cases hz : z < Z
    · rw [decide_eq_true hz, Bool.true_and]
    · rw [decide_eq_false hz, hP z h (by omega)]; rfl
  · rw [decide_eq_false hh, hQ z h (by omega)]; rfl
theorem inL_out {Z : Nat} {l : List Bx} (hl : ∀ b ∈ l, b.hi ≤ Z) : (∀ z h, Z ≤ z → inL' l H z h = false) ∧ ∀ z h, H ≤ h → inL' l H z h = false := by
  constructor
  · intro z h hz
    unfold inL'
    rw [Bool.and_eq_false_iff]; right
    rw [List.any_eq_false]
    intro b hb
    have := hl b hb
    unfold inN
    simp only [Bool.and_eq_true, decide_eq_true_eq, not_and]
    intro h1; omega
  · intro z h hh
    unfold inL'; rw [decide_eq_false (by omega)]; rfl
theorem rnsZ_mem {y : Nat} {b : Bx} (hH : 1 ≤ H) (hb : b ∈ rnsZ H p y) : ∃ f : Nat, f < H ∧ ∃ w : Nat, 1 ≤ w ∧ w ≤ H ∧ b = ⟨f, w, y, ((y + 1 : Nat) : Int)⟩ := by
  by_cases ha : ∀ j, j < H → p j = true
  · rw [rnsZ_all ha, List.mem_singleton] at hb
    exact ⟨0, by omega, H, hH, Nat.le_refl _, hb⟩
  · obtain ⟨k, hk⟩ := Classical.not_forall.1 ha
    obtain ⟨hk, hkp⟩ := Classical.not_imp.1 hk
    rw [rnsZ_not hk (by simpa using hkp), rnsH, List.mem_flatMap] at hb
    obtain ⟨g, hg, hb⟩ := hb
    split at hb
    · rename_i hs
      rw [List.mem_singleton] at hb
      obtain ⟨w1, w2, _⟩ := widQ_spec (H := H) (p := p) hH hs.1 (List.mem_range.1 hg)
      exact ⟨g, List.mem_range.1 hg, _, w1, w2, hb⟩
    · cases hb
theorem rnsK_mem {Z : Nat} {b : Bx} (hH : 1 ≤ H) (hb : b ∈ rnsK H P Z) : ∃ (f w y : Nat), f < H ∧ 1 ≤ w ∧ w ≤ H ∧ y < Z ∧ b = ⟨f, w, y, ((y + 1 : Nat) : Int)⟩ := by
  unfold rnsK at hb
  obtain ⟨y, hy, hb⟩ := List.mem_flatMap.1 hb
  obtain ⟨f, hf, w, h1, h2, e⟩ := rnsZ_mem hH hb
  exact ⟨f, w, y, hf, h1, h2, List.mem_range.1 hy, e⟩
theorem rnsK_is {Z : Nat} {b : Bx} (hH : 1 ≤ H) (hb : b ∈ rnsK H P Z) : isB b H Z = true ∧ b.hi = b.lo + 1 := by
  obtain ⟨f, w, y, h1, h2, h3, h4, rfl⟩ := rnsK_mem hH hb
  exact ⟨isB_iff.2 (by simp only; omega), by simp only; omega⟩
end
end Go.Proofs.Ythlolelbmhfdbaa
end

section
namespace Go.Proofs.Ythlolelbmhfdbaa
set_option maxRecDepth 20000
open Go.AE
section
variable {Z H : Nat} {l l' m m' : List Bx} {ls ls' : List (List Bx)}
structure Eqs (H : Nat) (ls' ls : List (List Bx)) : Prop where
  len : ls'.length = ls.length
  eq : ∀ i, inL' (ls'.getD i []) H = inL' (ls.getD i []) H
theorem Eqs.at (h : Eqs H ls' ls) {i : Nat} (h1 : i < ls'.length) (h2 : i < ls.length) : inL' ls'[i] H = inL' ls[i] H := by
  have := h.eq i
  simpa [List.getD_eq_getElem?_getD, List.getElem?_eq_getElem, h1, h2] using this
theorem vs_hi (hv : VS ⟨H, Z, ls⟩ H Z) : ∀ l ∈ ls, ∀ b ∈ l, b.hi ≤ Z := fun l hl b hb => (hv.bx l hl b hb).2.2.2.2
theorem grt_hz {s : Sk} (hg : grt s = false) (hc : chkS s = 0) : s.h * s.z ≤ 120 := by
  unfold grt at hg
  rw [hc] at hg
  simp only [Bool.or_eq_false_iff, Bool.and_eq_false_iff, decide_eq_false_iff_not] at hg
  rcases hg.2.2 with h | h
  · exact absurd trivial h
  · omega
theorem grt_zh {H Z : Nat} {ls : List (List Bx)} (hg : grt ⟨H, Z, ls⟩ = false) (hc : chkS ⟨H, Z, ls⟩ = 0) : Z * H ≤ 120 := by
  have h1 : (H : Int) * (Z : Int) ≤ 120 := grt_hz hg hc
  have h2 : (H : Int) * (Z : Int) = ((H * Z : Nat) : Int) := rfl
  rw [Nat.mul_comm]; omega
end
end Go.Proofs.Ythlolelbmhfdbaa
end

section
namespace Go.Proofs.Ythlolelbmhfdbaa
set_option maxRecDepth 20000
open Go.AE
section
variable {Z H a : Nat} {ls : List (List Bx)} {b : Bx}
theorem givP_eq {j z h : Nat} (hh : h < H) : givP H ls b a (Z * H) j z h = if z < Z ∧ inN b H z h = true then decide (j = a) else chP ls H j z h := by
  by_cases hz : z < Z
  · rw [givP_all hz]
    simp [hh, hz]
  · unfold givP
    have : ¬ z * H + h < Z * H := by
      have := Nat.mul_le_mul_right H (show Z ≤ z by omega); omega
    rw [if_neg fun h2 => this h2.2.1, if_neg fun h2 => hz h2.1]
theorem chP_at {j : Nat} (hj : j < ls.length) : chP ls H j = inL' ls[j] H := by
  unfold chP; simp [List.getD_eq_getElem?_getD, List.getElem?_eq_getElem, hj]
theorem chP_oob (hhi : ∀ l ∈ ls, ∀ b ∈ l, b.hi ≤ Z) {j : Nat} : (∀ z h, Z ≤ z → chP ls H j z h = false) ∧ ∀ z h, H ≤ h → chP ls H j z h = false := by
  by_cases hj : j < ls.length
  · rw [chP_at hj]; exact inL_out (hhi _ (List.getElem_mem hj))
  · have : ls.getD j [] = [] := by simp [List.getD_eq_getElem?_getD, List.getElem?_eq_none (show ls.length ≤ j by omega)]
    unfold chP; rw [this]
    exact inL_out (fun b hb => by cases hb)
theorem givP_out (hhi : ∀ l ∈ ls, ∀ b ∈ l, b.hi ≤ Z) {j : Nat} : (∀ z h, Z ≤ z → givP H ls b a (Z * H) j z h = false) ∧ ∀ z h, H ≤ h → givP H ls b a (Z * H) j z h = false := by
  have hc := chP_oob (H := H) hhi (j := j)
  constructor
  · intro z h hz
    by_cases hh : h < H
    · rw [givP_eq hh, if_neg fun h2 => by omega]; exact hc.1 z h hz
    · unfold givP; rw [if_neg fun h2 => hh h2.1]; exact hc.1 z h hz
  · intro z h hh
    unfold givP; rw [if_neg fun h2 => by omega]; exact hc.2 z h hh
theorem givQ_len : (givQ Z H ls b a).length = ls.length := by rw [givQ, givK_len]
theorem givQ_at {j : Nat} (hj : j < (givQ Z H ls b a).length) : (givQ Z H ls b a)[j] = rnsK H (givP H ls b a (Z * H) j) Z := by simp [givQ, givK]
theorem givQ_in (hhi : ∀ l ∈ ls, ∀ b ∈ l, b.hi ≤ Z) {j : Nat} (hj : j < (givQ Z H ls b a).length) : inL' (givQ Z H ls b a)[j] H = givP H ls b a (Z * H) j := by
  rw [givQ_at hj]; exact runs_eqv (givP_out hhi).1 (givP_out hhi).2
theorem givQ_vs (hv : VS ⟨H, Z, ls⟩ H Z) (hz : Z * H ≤ 600) : VS ⟨H, Z, givQ Z H ls b a⟩ H Z := by
  refine ⟨rfl, rfl, hv.h1, hv.z1, by show (givQ Z H ls b a).length ≤ 10; rw [givQ_len]; exact hv.ln, fun l hl => ?_, fun l hl x hx => ?_⟩
  · obtain ⟨m, hm, rfl⟩ := List.getElem_of_mem hl
    rw [givQ_at]
    exact Nat.le_trans (rnsK_len hv.h1.1) hz
  · obtain ⟨m, hm, rfl⟩ := List.getElem_of_mem hl
    rw [givQ_at] at hx
    exact isB_iff.1 (rnsK_is hv.h1.1 hx).1
theorem givQ_again (hhi : ∀ l ∈ ls, ∀ b ∈ l, b.hi ≤ Z) : givQ Z H (givQ Z H ls b a) b a = givQ Z H ls b a := by
  apply List.ext_getElem (by rw [givQ_len])
  intro j h1 h2
  rw [givQ_at h1, givQ_at h2]
  congr 1
  funext z h
  have e : chP (givQ Z H ls b a) H j z h = givP H ls b a (Z * H) j z h := by rw [chP_at h2, givQ_in hhi h2]
  unfold givP at e ⊢
  split
  · rename_i h3; rfl
  · rename_i h3
    rw [if_neg h3] at e; exact e
theorem giv_hit {j i : Nat} (hj : j < (givQ Z H ls b a).length) (hhi : ∀ l ∈ ls, ∀ b ∈ l, b.hi ≤ Z) (hi : i < Z * H) (hb : atB H b i = true) : atL H (givQ Z H ls b a)[j] i = decide (j = a) := by
  have hH : 0 < H := by rcases Nat.eq_zero_or_pos H with e | e; subst e; omega; exact e
  have hz : i / H < Z := Nat.div_lt_of_lt_mul (by rw [Nat.mul_comm]; exact hi)
  show inL' (givQ Z H ls b a)[j] H (i / H) (i % H) = _
  rw [givQ_in hhi hj, givP_eq (Nat.mod_lt _ hH), if_pos ⟨hz, hb⟩]
theorem giv_miss {j i : Nat} (hj : j < (givQ Z H ls b a).length) (hj2 : j < ls.length) (hhi : ∀ l ∈ ls, ∀ b ∈ l, b.hi ≤ Z) (hi : i < Z * H) (hb : ¬ atB H b i = true) : atL H (givQ Z H ls b a)[j] i = atL H ls[j] i := by
  have hH : 0 < H := by rcases Nat.eq_zero_or_pos H with e | e; subst e; omega; exact e
  show inL' (givQ Z H ls b a)[j] H (i / H) (i % H) = _
  rw [givQ_in hhi hj, givP_eq (Nat.mod_lt _ hH), if_neg fun h => hb h.2, chP_at hj2]
theorem siz_at {l : List Bx} : sizQ Z H l = ((List.range (Z * H)).map fun i => if atL H l i = true then 1 else 0).sum := rfl
theorem giv_size (hhi : ∀ l ∈ ls, ∀ b ∈ l, b.hi ≤ Z) {j : Nat} (hj : j < (givQ Z H ls b a).length) (hj2 : j < ls.length) : (j = a → sizQ Z H ls[j] ≤ sizQ Z H (givQ Z H ls b a)[j]) ∧ (j ≠ a → sizQ Z H (givQ Z H ls b a)[j] ≤ sizQ Z H ls[j]) := by
  constructor
  · intro e
    rw [siz_at, siz_at]
    refine sumS_le fun i hi => ?_
    rw [List.mem_range] at hi
    by_cases hb : atB H b i = true
    · rw [giv_hit hj hhi hi hb, decide_eq_true e, if_pos rfl]; split <;> omega
    · rw [giv_miss hj hj2 hhi hi hb]; exact Nat.le_refl _
  · intro e
    rw [siz_at, siz_at]
    refine sumS_le fun i hi => ?_
    rw [List.mem_range] at hi
    by_cases hb : atB H b i = true
    · rw [giv_hit hj hhi hi hb, decide_eq_false e, if_neg (by simp)]; exact Nat.zero_le _
    · rw [giv_miss hj hj2 hhi hi hb]; exact Nat.le_refl _
theorem giv_kind (hb : isB b H Z = true) (hhi : ∀ l ∈ ls, ∀ b ∈ l, b.hi ≤ Z) {j : Nat} (hj : j < (givQ Z H ls b a).length) : kinQ Z H (givQ Z H ls b a)[j] b = if j = a then 2 else 0 := by
  split
  · rename_i e
    exact (kin_2 (bx_some hb)).2 fun i hi h => by rw [giv_hit hj hhi hi h, decide_eq_true e]
  · rename_i e
    exact kin_0.2 fun i hi h => by rw [giv_hit hj hhi hi h, decide_eq_false e]
theorem giv_once (hhi : ∀ l ∈ ls, ∀ b ∈ l, b.hi ≤ Z) (ha : a < ls.length) (h : fltQ Z H ls = none) : fltQ Z H (givQ Z H ls b a) = none := by
  rw [fltQ, List.find?_eq_none]
  intro p hp
  have hpi := plcQ_in hp
  have h1 : cntQ ls H p = 1 := by have := List.find?_eq_none.1 h p hp; simpa using this
  have hlen : (givQ Z H ls b a).length = ls.length := givQ_len
  have hpn : p.1 * H + p.2 < Z * H := at_lt hpi.1 hpi.2
  have hpe : p = ((p.1 * H + p.2) / H, (p.1 * H + p.2) % H) := by rw [(div_at hpi.2).1, (div_at hpi.2).2]
  simp only [Bool.not_eq_true, Bool.not_eq_false', decide_eq_true_eq]
  by_cases hb : atB H b (p.1 * H + p.2) = true
  · rw [cntQ_sum]
    have e : ((givQ Z H ls b a).map fun l => bitQ l H p.1 p.2) = (List.range ls.length).map fun j => if j = a then 1 else 0 := by
      apply List.ext_getElem (by simp [hlen])
      intro j h2 h3
      simp only [List.getElem_map, List.getElem_range]
      have hj : j < (givQ Z H ls b a).length := by simpa using h2
      have := giv_hit hj hhi hpn hb
      unfold atL at this
      rw [(div_at hpi.2).1, (div_at hpi.2).2] at this
      unfold bitQ; rw [this]; simp
    rw [e]
    exact sumS_one (f := fun _ => 1) List.nodup_range (List.mem_range.2 ha)
  · rw [← h1, cntQ_sum, cntQ_sum]
    congr 1
    apply List.ext_getElem (by simp [hlen])
    intro j h2 h3
    simp only [List.getElem_map]
    have hj : j < (givQ Z H ls b a).length := by simpa using h2
    have hj2 : j < ls.length := by simpa using h3
    have := giv_miss hj hj2 hhi hpn hb
    unfold atL at this
    rw [(div_at hpi.2).1, (div_at hpi.2).2] at this
    unfold bitQ; rw [this]
theorem giv_same (hhi : ∀ l ∈ ls, ∀ b ∈ l, b.hi ≤ Z) (hb : isB b H Z = true) (ha : a < ls.length) (h1 : kinQ Z H ls[a] b = 2) (h2 : ∀ k (hk : k < ls.length), k ≠ a → kinQ Z H ls[k] b = 0) {j : Nat} (hj : j < (givQ Z H ls b a).length) (hj2 : j < ls.length) : (givQ Z H ls b a)[j] = rnsK H (inL' ls[j] H) Z := by
  rw [givQ_at hj]
  congr 1
  funext z h
  by_cases hh : h < H
  · rw [givP_eq hh]
    split
    · rename_i hc
      have hi := at_lt hc.1 hh
      have hbi : atB H b (z * H + h) = true := by unfold atB; rw [(div_at hh).1, (div_at hh).2]; exact hc.2
      by_cases e : j = a
      · subst e
        have := (kin_2 (bx_some hb)).1 h1 _ hi hbi
        unfold atL at this; rw [(div_at hh).1, (div_at hh).2] at this
        rw [this]; simp
      · have := kin_0.1 (h2 j hj2 e) _ hi hbi
        unfold atL at this; rw [(div_at hh).1, (div_at hh).2] at this
        rw [this, decide_eq_false e]
    · rw [chP_at hj2]
  · unfold givP; rw [if_neg fun h2 => hh h2.1, chP_at hj2]
def nonK (Z H : Nat) (ls : List (List Bx)) (b : Bx) (a k : Nat) : Bool := (List.range k).all fun j => decide (j = a) || decide (kinQ Z H (ls.getD j []) b = 0)
theorem nonK_succ {k : Nat} (hk : k < ls.length) : nonK Z H ls b a (k + 1) = (nonK Z H ls b a k && (decide (k = a) || decide (kinQ Z H ls[k] b = 0))) := by
  unfold nonK; rw [List.range_succ, List.all_append]; simp [List.getD_eq_getElem?_getD, List.getElem?_eq_getElem, hk]
theorem nonK_get (h : nonK Z H ls b a ls.length = true) : ∀ k (hk : k < ls.length), k ≠ a → kinQ Z H ls[k] b = 0 := by
  intro k hk hn
  have := List.all_eq_true.1 h k (List.mem_range.2 hk)
  simp [List.getD_eq_getElem?_getD, List.getElem?_eq_getElem, hk, hn] at this
  exact this
end
end Go.Proofs.Ythlolelbmhfdbaa
end

section
namespace Go.Proofs.Ythlolelbmhfdbaa
set_option maxRecDepth 20000
open Go.AE
theorem boxB_p (H Z : Nat) (ls : List (List Bx)) (c : Option Nat) (hv : VS ⟨H, Z, ls⟩ H Z) (x0 x1 x2 x3 : Nat) (hx0 : x0 < 256) (hx1 : x1 < 256) (hx2 : x2 < 256) (hx3 : x3 < 256) (bb : Bx) (hb : boxW Z H x0 x1 x2 x3 = bb) : Pure Try.prog 51 [.agg [i64 (H : Nat), i64 (Z : Nat), landsA ls c], .agg [.int .u8 (x0 : Nat), .int .u8 (x1 : Nat), .int .u8 (x2 : Nat), .int .u8 (x3 : Nat)]] (bxA bb) := by
  have := boxW_p H Z ls c hv x0 x1 x2 x3 hx0 hx1 hx2 hx3; rwa [hb] at this
theorem givX_p (H Z : Nat) (ls : List (List Bx)) (c : Option Nat) (a : Nat) (b : Bx) (hhi : ∀ l ∈ ls, ∀ x ∈ l, x.hi ≤ Z) (hc : chkS ⟨H, Z, givQ Z H ls b a⟩ = 0) (hv : VS ⟨H, Z, givQ Z H ls b a⟩ H Z) (ha : a < (givQ Z H ls b a).length) (hb : isB b H Z = true) : Pure Try.prog 43 [.agg [i64 (H : Nat), i64 (Z : Nat), landsA (givQ Z H ls b a) c], i64 (a : Nat), bxA b] (.tup [.agg [i64 (H : Nat), i64 (Z : Nat), landsA (givQ Z H ls b a) none], i64 0]) := by
  have := giv_g H Z (givQ Z H ls b a) c hc hv a ha b hb
  rwa [givQ_again hhi] at this
theorem kinX_p (H Z : Nat) (ls : List (List Bx)) (c : Option Nat) (a : Nat) (b : Bx) (hhi : ∀ l ∈ ls, ∀ x ∈ l, x.hi ≤ Z) (hc : chkS ⟨H, Z, givQ Z H ls b a⟩ = 0) (hv : VS ⟨H, Z, givQ Z H ls b a⟩ H Z) (k : Nat) (hk : k < (givQ Z H ls b a).length) (hb : isB b H Z = true) : Pure Try.prog 39 [.agg [i64 (H : Nat), i64 (Z : Nat), landsA (givQ Z H ls b a) c], i64 (k : Nat), bxA b] (.tup [i64 ((if k = a then 2 else 0 : Nat) : Int), i64 0]) := by
  have := kin_g H Z (givQ Z H ls b a) c hc hv k hk b hb
  rwa [giv_kind hb hhi hk] at this
theorem given_ok {k a m n : Nat} (h1 : k = a → m ≤ n) (h2 : k ≠ a → n ≤ m) : (bif decide ((k : Int) = (a : Int)) then decide ((n : Int) < (m : Int)) || (decide (((if k = a then 2 else 0 : Nat) : Int) ≠ 2) || decide ((k : Int) ≠ (a : Int)) && (decide ((m : Int) < (n : Int)) || decide (((if k = a then 2 else 0 : Nat) : Int) ≠ 0))) else decide ((k : Int) ≠ (a : Int)) && (decide ((m : Int) < (n : Int)) || decide (((if k = a then 2 else 0 : Nat) : Int) ≠ 0))) = false := by
  by_cases e : k = a
  · have := h1 e
    have h3 : ¬ (n : Int) < (m : Int) := by omega
    simp [e, h3]
  · have := h2 e
    have h3 : ¬ (m : Int) < (n : Int) := by omega
    have h4 : ¬ (k : Int) = (a : Int) := by omega
    simp [e, h3, h4]
theorem nonK_step {Z H k a : Nat} {ls : List (List Bx)} {b : Bx} {nb : Bool} (hk : k < ls.length) (h : nb = nonK Z H ls b a k) : (nb && (decide ((k : Int) = (a : Int)) || decide (((kinQ Z H ls[k] b : Nat) : Int) = 0))) = nonK Z H ls b a (k + 1) := by
  rw [nonK_succ hk, ← h]
  have e1 : decide ((k : Int) = (a : Int)) = decide (k = a) := decide_eq_decide.2 (by omega)
  have e2 : decide (((kinQ Z H ls[k] b : Nat) : Int) = 0) = decide (kinQ Z H ls[k] b = 0) := decide_eq_decide.2 (by omega)
  rw [e1, e2]
theorem fld_gf {Z H : Nat} {l : List Bx} : ∀ i (hi : i < (fldQ Z H l).length), (fldQ Z H l)[i] = if inL' l H (i / H) (i % H) = true then 1 else 0 := fun i hi => by simp [fldQ, bitQ]
theorem borderGivenF_p (s : Sk) (c : Option Nat) (hf : (!grt s && decide (chkS s = 0)) = false) (a : Nat) (ha : a < 256) (x0 x1 x2 x3 : Nat) (hx0 : x0 < 256) (hx1 : x1 < 256) (hx2 : x2 < 256) (hx3 : x3 < 256) : Pure Try.prog 10 [.agg [i64 s.h, i64 s.z, landsA s.ls c], .int .u8 (a : Nat), .agg [.int .u8 (x0 : Nat), .int .u8 (x1 : Nat), .int .u8 (x2 : Nat), .int .u8 (x3 : Nat)]] (.bool true) := by
  refine pure_of_body Try.func10 (c := body Try.f10) rfl (by simp [Try.ntmps10]) fun w0 Φ0 => ?_
  refine W_seq rfl ?_
  refine W_reg rfl ?_
  refine Rv rfl rfl rfl (U_boxF rfl rfl rfl) rfl rfl ?_
  refine Rv rfl rfl rfl (U_boxF rfl rfl rfl) rfl rfl ?_
  refine Rv rfl rfl rfl (U_assign rfl) rfl rfl ?_
  refine Re rfl ?_
  refine thenQ_n ?_
  refine W_seq rfl ?_
  refine W_seq rfl ?_
  refine W_reg rfl ?_
  refine Rv rfl rfl rfl (U_load3 rfl rfl rfl rfl rfl) rfl rfl ?_
  refine Rv rfl rfl rfl (U_call rfl rfl (fineF_p s c hf) rfl) rfl rfl ?_
  refine Rv rfl rfl rfl (U_not rfl) rfl rfl ?_
  refine Rv rfl rfl rfl (U_move rfl) rfl rfl ?_
  refine Rs rfl rfl rfl rfl rfl ?_
  refine Rs rfl rfl rfl rfl rfl ?_
  refine Rs rfl rfl rfl rfl rfl ?_
  refine Rs rfl rfl rfl rfl rfl ?_
  refine Rv rfl rfl rfl (U_pick_t rfl rfl) rfl rfl ?_
  refine Re rfl ?_
  refine thenQ_n ?_
  refine Wcond rfl rfl (fun _ => ?_) (fun h => nomatch h)
  refine W_seq rfl ?_
  refine W_reg rfl ?_
  refine Rv rfl rfl rfl (U_call rfl rfl (works_p) rfl) rfl rfl ?_
  refine Rv rfl rfl rfl (U_assign rfl) rfl rfl ?_
  refine Re rfl ?_
  refine thenQ_n ?_
  refine W_ret rfl ?_
  refine thenQ_r ?_
  exact retL (rlT rfl rl0) rfl rfl
theorem borderGiven0_p (H Z : Nat) (c : Option Nat) (hc : chkS ⟨H, Z, []⟩ = 0) (hg : grt ⟨H, Z, []⟩ = false) (a : Nat) (ha : a < 256) (x0 x1 x2 x3 : Nat) (hx0 : x0 < 256) (hx1 : x1 < 256) (hx2 : x2 < 256) (hx3 : x3 < 256) : Pure Try.prog 10 [.agg [i64 (H : Nat), i64 (Z : Nat), landsA ([] : List (List Bx)) c], .int .u8 (a : Nat), .agg [.int .u8 (x0 : Nat), .int .u8 (x1 : Nat), .int .u8 (x2 : Nat), .int .u8 (x3 : Nat)]] (.bool true) := by
  refine pure_of_body Try.func10 (c := body Try.f10) rfl (by simp [Try.ntmps10]) fun w0 Φ0 => ?_
  refine W_seq rfl ?_
  refine W_reg rfl ?_
  refine Rv rfl rfl rfl (U_boxF rfl rfl rfl) rfl rfl ?_
  refine Rv rfl rfl rfl (U_boxF rfl rfl rfl) rfl rfl ?_
  refine Rv rfl rfl rfl (U_assign rfl) rfl rfl ?_
  refine Re rfl ?_
  refine thenQ_n ?_
  refine W_seq rfl ?_
  refine W_seq rfl ?_
  refine W_reg rfl ?_
  refine Rv rfl rfl rfl (U_load3 rfl rfl rfl rfl rfl) rfl rfl ?_
  refine Rv rfl rfl rfl (U_call rfl rfl (fineT_p H Z ([] : List (List Bx)) c hg hc) rfl) rfl rfl ?_
  refine Rv rfl rfl rfl (U_not rfl) rfl rfl ?_
  refine Rv rfl rfl rfl (U_move rfl) rfl rfl ?_
  refine Rv rfl rfl rfl (U_fieldAddrR rfl) rfl rfl ?_
  refine Rv rfl rfl rfl (U_load1 rfl rfl rfl) rfl rfl ?_
  refine Rv rfl rfl rfl (U_lenOf rfl len_ros) rfl rfl ?_
  refine Rv rfl rfl rfl (U_eql rfl rfl) rfl rfl ?_
  refine Rv rfl rfl rfl (U_pick_f rfl rfl) rfl rfl ?_
  refine Re rfl ?_
  refine thenQ_n ?_
  refine WcondP rfl rfl (fun hc0 => ?_) (fun hc0 => absurd (by simp) hc0)
  refine W_seq rfl ?_
  refine W_reg rfl ?_
  refine Rv rfl rfl rfl (U_call rfl rfl (works_p) rfl) rfl rfl ?_
  refine Rv rfl rfl rfl (U_assign rfl) rfl rfl ?_
  refine Re rfl ?_
  refine thenQ_n ?_
  refine W_ret rfl ?_
  refine thenQ_r ?_
  exact retL (rlT rfl rl0) rfl rfl
theorem borderGiven1_p (H Z : Nat) (ls : List (List Bx)) (c : Option Nat) (hc : chkS ⟨H, Z, ls⟩ = 0) (hv : VS ⟨H, Z, ls⟩ H Z) (hg : grt ⟨H, Z, ls⟩ = false) (hn0 : 0 < ls.length) (a : Nat) (ha : a < 256) (x0 x1 x2 x3 : Nat) (hx0 : x0 < 256) (hx1 : x1 < 256) (hx2 : x2 < 256) (hx3 : x3 < 256) (bb : Bx) (hbw : boxW Z H x0 x1 x2 x3 = bb) (hb : isB bb H Z = true) (hn : fltQ Z H ls = none) : Pure Try.prog 10 [.agg [i64 (H : Nat), i64 (Z : Nat), landsA ls c], .int .u8 (a : Nat), .agg [.int .u8 (x0 : Nat), .int .u8 (x1 : Nat), .int .u8 (x2 : Nat), .int .u8 (x3 : Nat)]] (.bool true) := by
  have hv' := hv
  obtain ⟨_, _, hH, hZ1, hln, hlb, hbx⟩ := hv'
  simp only at hln hlb hbx
  have hZ := hZ1.2
  have hHZ : Z * H ≤ 1152 := Nat.mul_le_mul hZ hH.2
  have hHZc : H * Z = Z * H := Nat.mul_comm _ _
  have hia : a % ls.length < ls.length := Nat.mod_lt _ hn0
  have hzh := grt_zh hg hc
  have hhi := vs_hi hv
  have hv2 := givQ_vs (a := a % ls.length) (b := bb) hv (by omega)
  have hc2 := vs_chk hv2
  have hgl : (givQ Z H ls bb (a % ls.length)).length = ls.length := givQ_len
  have hnx := giv_once (b := bb) hhi hia hn
  refine pure_of_body Try.func10 (c := body Try.f10) rfl (by simp [Try.ntmps10]) fun w0 Φ0 => ?_
  refine W_seq rfl ?_
  refine W_reg rfl ?_
  refine Rv rfl rfl rfl (U_boxF rfl rfl rfl) rfl rfl ?_
  refine Rv rfl rfl rfl (U_boxF rfl rfl rfl) rfl rfl ?_
  refine Rv rfl rfl rfl (U_assign rfl) rfl rfl ?_
  refine Re rfl ?_
  refine thenQ_n ?_
  refine W_seq rfl ?_
  refine W_seq rfl ?_
  refine W_reg rfl ?_
  refine Rv rfl rfl rfl (U_load3 rfl rfl rfl rfl rfl) rfl rfl ?_
  refine Rv rfl rfl rfl (U_call rfl rfl (fineT_p H Z ls c hg hc) rfl) rfl rfl ?_
  refine Rv rfl rfl rfl (U_not rfl) rfl rfl ?_
  refine Rv rfl rfl rfl (U_move rfl) rfl rfl ?_
  refine Rv rfl rfl rfl (U_fieldAddrR rfl) rfl rfl ?_
  refine Rv rfl rfl rfl (U_load1 rfl rfl rfl) rfl rfl ?_
  refine Rv rfl rfl rfl (U_lenOf rfl len_ros) rfl rfl ?_
  refine Rv rfl rfl rfl (U_eql rfl rfl) rfl rfl ?_
  refine Rv rfl rfl rfl (U_pick_f rfl rfl) rfl rfl ?_
  refine Re rfl ?_
  refine thenQ_n ?_
  refine WcondP rfl rfl (fun hc0 => ?_) (fun hc0 => ?_)
  · refine W_seq rfl ?_
    refine W_reg rfl ?_
    refine Rv rfl rfl rfl (U_call rfl rfl (works_p) rfl) rfl rfl ?_
    refine Rv rfl rfl rfl (U_assign rfl) rfl rfl ?_
    refine Re rfl ?_
    refine thenQ_n ?_
    refine W_ret rfl ?_
    refine thenQ_r ?_
    exact retL (rlT rfl rl0) rfl rfl
  · refine W_skip rfl ?_
    refine thenQ_n ?_
    refine W_seq rfl ?_
    refine W_reg rfl ?_
    refine Rv rfl rfl rfl (U_move rfl) rfl rfl ?_
    refine Rv rfl rfl rfl (U_convInt (by rfl) rfl (wr_i64 (by omega) (by omega))) rfl rfl ?_
    refine Rv rfl rfl rfl (U_fieldAddrR rfl) rfl rfl ?_
    refine Rv rfl rfl rfl (U_load1 rfl rfl rfl) rfl rfl ?_
    refine Rv rfl rfl rfl (U_lenOf rfl len_ros) rfl rfl ?_
    refine Rv rfl rfl rfl (U_rem (c := ((a % ls.length : Nat) : Int)) rfl rfl (by omega) (tmodN _ _)) rfl rfl ?_
    refine Rv rfl rfl rfl (U_assign rfl) rfl rfl ?_
    refine Re rfl ?_
    refine thenQ_n ?_
    refine W_seq rfl ?_
    refine W_reg rfl ?_
    refine Rv rfl rfl rfl (U_load3 rfl rfl rfl rfl rfl) rfl rfl ?_
    refine Rv rfl rfl rfl (U_load4 rfl rfl rfl rfl rfl rfl) rfl rfl ?_
    refine Rv rfl rfl rfl (U_call rfl rfl (boxB_p H Z ls c hv x0 x1 x2 x3 hx0 hx1 hx2 hx3 bb hbw) rfl) rfl rfl ?_
    refine Ra rfl rfl rfl (U_alloc) rfl rfl rfl ?_
    refine Rn rfl rfl rfl (U_storeAll rfl rfl rfl rfl rfl rfl) rfl ?_
    refine Re rfl ?_
    refine thenQ_n ?_
    refine WfrN 0 rfl rfl (T' := [(3, .rop [i64 ((H : Nat) : Int), i64 ((Z : Nat) : Int), .ros (ls.map boxesL) ls.length c] 0), (7, i64 ((a % ls.length : Nat) : Int)), (8, .rop [i64 bb.fr, i64 bb.wd, i64 bb.lo, i64 bb.hi] 0)]) (H' := []) ⟨⟨_, rfl, rfl⟩, ⟨_, rfl, rfl⟩, ⟨_, rfl, rfl⟩, trivial⟩ trivial ?_
    refine W_seq rfl ?_
    refine W_reg rfl ?_
    refine Rv rfl rfl rfl (U_load3 rfl rfl rfl rfl rfl) rfl rfl ?_
    refine Rv rfl rfl rfl (U_move rfl) rfl rfl ?_
    refine Rv rfl rfl rfl (U_load4 rfl rfl rfl rfl rfl rfl) rfl rfl ?_
    refine Rv rfl rfl rfl (U_call rfl rfl (giv_g H Z ls c hc hv (a % ls.length) (by omega) bb (by assumption)) rfl) rfl rfl ?_
    refine Rv rfl rfl rfl (U_move rfl) rfl rfl ?_
    refine Rv rfl rfl rfl (U_extract rfl rfl) rfl rfl ?_
    refine Rv rfl rfl rfl (U_extract rfl rfl) rfl rfl ?_
    refine Ra rfl rfl rfl (U_alloc) rfl rfl rfl ?_
    refine Rn rfl rfl rfl (U_storeAll rfl rfl rfl rfl rfl rfl) rfl ?_
    refine Rv rfl rfl rfl (U_assign rfl) rfl rfl ?_
    refine Re rfl ?_
    refine thenQ_n ?_
    refine WfrN 1 rfl rfl (T' := [(3, .rop [i64 ((H : Nat) : Int), i64 ((Z : Nat) : Int), .ros (ls.map boxesL) ls.length c] 0), (7, i64 ((a % ls.length : Nat) : Int)), (8, .rop [i64 bb.fr, i64 bb.wd, i64 bb.lo, i64 bb.hi] 0), (9, .rop [i64 ((H : Nat) : Int), i64 ((Z : Nat) : Int), .ros ((givQ Z H ls bb (a % ls.length)).map boxesL) ((givQ Z H ls bb (a % ls.length)).length) none] 0), (10, i64 0)]) (H' := []) ⟨⟨_, rfl, rfl⟩, ⟨_, rfl, rfl⟩, ⟨_, rfl, rfl⟩, ⟨_, rfl, rfl⟩, ⟨_, rfl, rfl⟩, trivial⟩ trivial ?_
    refine W_seq rfl ?_
    refine W_seq rfl ?_
    refine Wjoin ⟨[(3, .rop [i64 ((H : Nat) : Int), i64 ((Z : Nat) : Int), .ros (ls.map boxesL) ls.length c] 0), (7, i64 ((a % ls.length : Nat) : Int)), (8, .rop [i64 bb.fr, i64 bb.wd, i64 bb.lo, i64 bb.hi] 0), (9, .rop [i64 ((H : Nat) : Int), i64 ((Z : Nat) : Int), .ros ((givQ Z H ls bb (a % ls.length)).map boxesL) ((givQ Z H ls bb (a % ls.length)).length) none] 0), (79, .bool (decide ((((givQ Z H ls bb (a % ls.length)).length : Nat) : Int) ≠ ((ls.length : Nat) : Int))))], [], 0, []⟩ ?_ ?_
    · refine W_reg rfl ?_
      refine Rv rfl rfl rfl (U_move rfl) rfl rfl ?_
      refine Rv rfl rfl rfl (U_neq rfl rfl) rfl rfl ?_
      refine Rv rfl rfl rfl (U_move rfl) rfl rfl ?_
      refine Rv rfl rfl rfl (U_load3 rfl rfl rfl rfl rfl) rfl rfl ?_
      refine Rv rfl rfl rfl (U_call rfl rfl (chkSRG_p H Z (givQ Z H ls bb (a % ls.length)) none hc2 hv2) rfl) rfl rfl ?_
      refine Rv rfl rfl rfl (U_neq rfl rfl) rfl rfl ?_
      refine Rv rfl rfl rfl (U_pick_f rfl rfl) rfl rfl ?_
      refine Rv rfl rfl rfl (U_move rfl) rfl rfl ?_
      refine Rv rfl rfl rfl (U_fieldAddrR rfl) rfl rfl ?_
      refine Rv rfl rfl rfl (U_load1 rfl rfl rfl) rfl rfl ?_
      refine Rv rfl rfl rfl (U_lenOf rfl len_ros) rfl rfl ?_
      refine Rv rfl rfl rfl (U_fieldAddrR rfl) rfl rfl ?_
      refine Rv rfl rfl rfl (U_load1 rfl rfl rfl) rfl rfl ?_
      refine Rv rfl rfl rfl (U_lenOf rfl len_ros) rfl rfl ?_
      refine Rv rfl rfl rfl (U_neq rfl rfl) rfl rfl ?_
      refine Rv rfl rfl rfl (U_pick_f rfl rfl) rfl rfl ?_
      refine Rv rfl rfl rfl (U_move rfl) rfl rfl ?_
      refine Rsplit (t := 66) rfl (fun hg1 => ?_) (fun hg1 => ?_)
      · rw [hg1]
        have hg1' : (((givQ Z H ls bb (a % ls.length)).length : Nat) : Int) ≠ ((ls.length : Nat) : Int) := of_decide_eq_true hg1
        refine Rs rfl rfl rfl rfl rfl ?_
        refine Rs rfl rfl rfl rfl rfl ?_
        refine Rs rfl rfl rfl rfl rfl ?_
        refine Rs rfl rfl rfl rfl rfl ?_
        refine Rs rfl rfl rfl rfl rfl ?_
        refine Rv rfl rfl rfl (U_pick_t rfl rfl) rfl rfl ?_
        refine Rv rfl rfl rfl (U_move rfl) rfl rfl ?_
        refine Rs rfl rfl rfl rfl rfl ?_
        refine Rs rfl rfl rfl rfl rfl ?_
        refine Rs rfl rfl rfl rfl rfl ?_
        refine Rs rfl rfl rfl rfl rfl ?_
        refine Rs rfl rfl rfl rfl rfl ?_
        refine Rv rfl rfl rfl (U_pick_t rfl rfl) rfl rfl ?_
        refine Re rfl ?_
        exact joinTo id ⟨eD rfl rfl, eD rfl rfl, eD rfl rfl, eD rfl rfl, eD rfl rfl, trivial⟩ trivial rfl rfl rfl rfl (fun _ _ => rfl)
      · rw [hg1]
        have hg1' : ¬ ((((givQ Z H ls bb (a % ls.length)).length : Nat) : Int) ≠ ((ls.length : Nat) : Int)) := of_decide_eq_false hg1
        refine Rv rfl rfl rfl (U_fieldAddrR rfl) rfl rfl ?_
        refine Rv rfl rfl rfl (U_load1 rfl rfl rfl) rfl rfl ?_
        refine Rv rfl rfl rfl (U_fieldAddrR rfl) rfl rfl ?_
        refine Rv rfl rfl rfl (U_load1 rfl rfl rfl) rfl rfl ?_
        refine Rv rfl rfl rfl (U_neqS rfl rfl) rfl rfl ?_
        refine Rv rfl rfl rfl (U_pick_f rfl rfl) rfl rfl ?_
        refine Rv rfl rfl rfl (U_move rfl) rfl rfl ?_
        refine Rv rfl rfl rfl (U_fieldAddrR rfl) rfl rfl ?_
        refine Rv rfl rfl rfl (U_load1 rfl rfl rfl) rfl rfl ?_
        refine Rv rfl rfl rfl (U_fieldAddrR rfl) rfl rfl ?_
        refine Rv rfl rfl rfl (U_load1 rfl rfl rfl) rfl rfl ?_
        refine Rv rfl rfl rfl (U_neqS rfl rfl) rfl rfl ?_
        refine Rv rfl rfl rfl (U_pick_f rfl rfl) rfl rfl ?_
        refine Re rfl ?_
        exact joinTo id ⟨eD rfl rfl, eD rfl rfl, eD rfl rfl, eD rfl rfl, eD rfl rfl, trivial⟩ trivial rfl rfl rfl rfl (fun _ _ => rfl)
    refine thenQ_n ?_
    refine WcondP rfl rfl (fun hc1 => absurd hc1 (by simp; omega)) (fun hc1 => ?_)
    refine W_skip rfl ?_
    refine thenQ_n ?_
    refine W_seq rfl ?_
    refine W_reg rfl ?_
    refine Rv rfl rfl rfl (U_load3 rfl rfl rfl rfl rfl) rfl rfl ?_
    refine Rv rfl rfl rfl (U_move rfl) rfl rfl ?_
    refine Rv rfl rfl rfl (U_load4 rfl rfl rfl rfl rfl rfl) rfl rfl ?_
    refine Rv rfl rfl rfl (U_call rfl rfl (givX_p H Z ls none (a % ls.length) bb hhi hc2 hv2 (by rw [givQ_len]; omega) hb) rfl) rfl rfl ?_
    refine Rv rfl rfl rfl (U_move rfl) rfl rfl ?_
    refine Rv rfl rfl rfl (U_extract rfl rfl) rfl rfl ?_
    refine Rv rfl rfl rfl (U_extract rfl rfl) rfl rfl ?_
    refine Ra rfl rfl rfl (U_alloc) rfl rfl rfl ?_
    refine Rn rfl rfl rfl (U_storeAll rfl rfl rfl rfl rfl rfl) rfl ?_
    refine Rv rfl rfl rfl (U_assign rfl) rfl rfl ?_
    refine Re rfl ?_
    refine thenQ_n ?_
    refine WfrN 0 rfl rfl (T' := [(3, .rop [i64 ((H : Nat) : Int), i64 ((Z : Nat) : Int), .ros (ls.map boxesL) ls.length c] 0), (7, i64 ((a % ls.length : Nat) : Int)), (8, .rop [i64 bb.fr, i64 bb.wd, i64 bb.lo, i64 bb.hi] 0), (9, .rop [i64 ((H : Nat) : Int), i64 ((Z : Nat) : Int), .ros ((givQ Z H ls bb (a % ls.length)).map boxesL) ((givQ Z H ls bb (a % ls.length)).length) none] 0), (10, i64 0), (11, .rop [i64 ((H : Nat) : Int), i64 ((Z : Nat) : Int), .ros ((givQ Z H ls bb (a % ls.length)).map boxesL) ((givQ Z H ls bb (a % ls.length)).length) none] 0)]) (H' := []) ⟨⟨_, rfl, rfl⟩, ⟨_, rfl, rfl⟩, ⟨_, rfl, rfl⟩, ⟨_, rfl, rfl⟩, ⟨_, rfl, rfl⟩, ⟨_, rfl, rfl⟩, trivial⟩ trivial ?_
    refine W_seq rfl ?_
    refine W_seq rfl ?_
    refine W_reg rfl ?_
    refine Rv rfl rfl rfl (U_move rfl) rfl rfl ?_
    refine Rv rfl rfl rfl (U_neq rfl rfl) rfl rfl ?_
    refine Rv rfl rfl rfl (U_move rfl) rfl rfl ?_
    refine Rv rfl rfl rfl (U_load3 rfl rfl rfl rfl rfl) rfl rfl ?_
    refine Rv rfl rfl rfl (U_load3 rfl rfl rfl rfl rfl) rfl rfl ?_
    refine Rv rfl rfl rfl (U_call rfl rfl (skiesS_p ⟨H, Z, (givQ Z H ls bb (a % ls.length))⟩ none none (vs_ln hv2) (vs_bl hv2)) rfl) rfl rfl ?_
    refine Rv rfl rfl rfl (U_not rfl) rfl rfl ?_
    refine Rv rfl rfl rfl (U_pick_f rfl rfl) rfl rfl ?_
    refine Rv rfl rfl rfl (U_move rfl) rfl rfl ?_
    refine Rv rfl rfl rfl (U_load3 rfl rfl rfl rfl rfl) rfl rfl ?_
    refine Rv rfl rfl rfl (U_call rfl rfl (onceN_p H Z ls c hc hv hn) rfl) rfl rfl ?_
    refine Rv rfl rfl rfl (U_eql rfl rfl) rfl rfl ?_
    refine Rv rfl rfl rfl (U_move rfl) rfl rfl ?_
    refine Rv rfl rfl rfl (U_load3 rfl rfl rfl rfl rfl) rfl rfl ?_
    refine Rv rfl rfl rfl (U_call rfl rfl (onceN_p H Z (givQ Z H ls bb (a % ls.length)) none hc2 hv2 hnx) rfl) rfl rfl ?_
    refine Rv rfl rfl rfl (U_neq rfl rfl) rfl rfl ?_
    refine Rv rfl rfl rfl (U_pick_t rfl rfl) rfl rfl ?_
    refine Rv rfl rfl rfl (U_pick_f rfl rfl) rfl rfl ?_
    refine Re rfl ?_
    refine thenQ_n ?_
    refine WcondP rfl rfl (fun h => absurd h (by decide)) (fun _ => ?_)
    refine W_skip rfl ?_
    refine thenQ_n ?_
    refine W_seq rfl ?_
    refine W_reg rfl ?_
    refine Rv rfl rfl rfl (U_load3 rfl rfl rfl rfl rfl) rfl rfl ?_
    refine Rv rfl rfl rfl (U_move rfl) rfl rfl ?_
    refine Rv rfl rfl rfl (U_load4 rfl rfl rfl rfl rfl rfl) rfl rfl ?_
    refine Rv rfl rfl rfl (U_call rfl rfl (kin_g H Z ls c hc hv (a % ls.length) (by omega) bb (by assumption)) rfl) rfl rfl ?_
    refine Rv rfl rfl rfl (U_move rfl) rfl rfl ?_
    refine Rv rfl rfl rfl (U_extract rfl rfl) rfl rfl ?_
    refine Rv rfl rfl rfl (U_extract rfl rfl) rfl rfl ?_
    refine Rv rfl rfl rfl (U_assign rfl) rfl rfl ?_
    refine Rv rfl rfl rfl (U_assign rfl) rfl rfl ?_
    refine Re rfl ?_
    refine thenQ_n ?_
    refine W_seq rfl ?_
    refine W_seq rfl ?_
    refine W_reg rfl ?_
    refine Rv rfl rfl rfl (U_move rfl) rfl rfl ?_
    refine Rv rfl rfl rfl (U_neq rfl rfl) rfl rfl ?_
    refine Re rfl ?_
    refine thenQ_n ?_
    refine WcondP rfl rfl (fun h => absurd h (by decide)) (fun _ => ?_)
    refine W_skip rfl ?_
    refine thenQ_n ?_
    refine W_seq rfl ?_
    refine W_reg rfl ?_
    refine Rv rfl rfl rfl (U_assign rfl) rfl rfl ?_
    refine Re rfl ?_
    refine thenQ_n ?_
    refine W_seq rfl ?_
    refine W_seq rfl ?_
    refine W_reg rfl ?_
    refine Rv rfl rfl rfl (U_assign rfl) rfl rfl ?_
    refine Re rfl ?_
    refine thenQ_n ?_
    refine W_block rfl ?_
    refine LoopTo (T' := [(3, .rop [i64 ((H : Nat) : Int), i64 ((Z : Nat) : Int), .ros (ls.map boxesL) ls.length c] 0), (7, i64 ((a % ls.length : Nat) : Int)), (8, .rop [i64 bb.fr, i64 bb.wd, i64 bb.lo, i64 bb.hi] 0), (9, .rop [i64 ((H : Nat) : Int), i64 ((Z : Nat) : Int), .ros ((givQ Z H ls bb (a % ls.length)).map boxesL) ((givQ Z H ls bb (a % ls.length)).length) none] 0), (12, i64 ((kinQ Z H ls[(a % ls.length)] bb : Nat) : Int)), (13, .bool true), (14, i64 ((0 : Nat) : Int))]) (H' := []) (n := 0) rfl (fun mz_ qz_ => ∃ (i : Nat) (nb : Bool), i ≤ ls.length ∧ nb = nonK Z H ls bb (a % ls.length) i ∧ mz_ = ls.length - i ∧ qz_ = ⟨[(3, .rop [i64 ((H : Nat) : Int), i64 ((Z : Nat) : Int), .ros (ls.map boxesL) ls.length c] 0), (7, i64 ((a % ls.length : Nat) : Int)), (8, .rop [i64 bb.fr, i64 bb.wd, i64 bb.lo, i64 bb.hi] 0), (9, .rop [i64 ((H : Nat) : Int), i64 ((Z : Nat) : Int), .ros ((givQ Z H ls bb (a % ls.length)).map boxesL) ((givQ Z H ls bb (a % ls.length)).length) none] 0), (12, i64 ((kinQ Z H ls[(a % ls.length)] bb : Nat) : Int)), (13, .bool nb), (14, i64 ((i : Nat) : Int))], [], 0, []⟩) ⟨0, true, (by omega), rfl, rfl, rfl⟩ id ⟨eD rfl rfl, eD rfl rfl, eD rfl rfl, eD rfl rfl, eD rfl rfl, eD rfl rfl, eD rfl rfl, trivial⟩ trivial rfl rfl rfl rfl (fun _ _ => rfl) ?_
    rintro _ _ ⟨i, nb, hi0_0, hi0_1, rfl, rfl⟩
    refine W_seq rfl ?_
    refine W_seq rfl ?_
    refine W_reg rfl ?_
    refine Rv rfl rfl rfl (U_move rfl) rfl rfl ?_
    refine Rv rfl rfl rfl (U_fieldAddrR rfl) rfl rfl ?_
    refine Rv rfl rfl rfl (U_load1 rfl rfl rfl) rfl rfl ?_
    refine Rv rfl rfl rfl (U_lenOf rfl len_ros) rfl rfl ?_
    refine Rv rfl rfl rfl (U_lss rfl rfl) rfl rfl ?_
    refine Re rfl ?_
    refine thenQ_n ?_
    refine WcondP rfl rfl (fun hc4 => ?_) (fun hc4 => ?_)
    · have hgs := giv_size (Z := Z) (H := H) (b := bb) (a := a % ls.length) hhi (j := i) (by rw [givQ_len]; omega) (by omega)
      refine W_skip rfl ?_
      refine thenQ_n ?_
      refine W_seq rfl ?_
      refine W_block rfl ?_
      refine W_seq rfl ?_
      refine W_reg rfl ?_
      refine Rv rfl rfl rfl (U_load3 rfl rfl rfl rfl rfl) rfl rfl ?_
      refine Rv rfl rfl rfl (U_move rfl) rfl rfl ?_
      refine Rv rfl rfl rfl (U_call rfl rfl (siz_g H Z ls c hc hv i (by omega)) rfl) rfl rfl ?_
      refine Rv rfl rfl rfl (U_move rfl) rfl rfl ?_
      refine Rv rfl rfl rfl (U_extract rfl rfl) rfl rfl ?_
      refine Rv rfl rfl rfl (U_extract rfl rfl) rfl rfl ?_
      refine Rv rfl rfl rfl (U_assign rfl) rfl rfl ?_
      refine Rv rfl rfl rfl (U_assign rfl) rfl rfl ?_
      refine Re rfl ?_
      refine thenQ_n ?_
      refine W_seq rfl ?_
      refine W_reg rfl ?_
      refine Rv rfl rfl rfl (U_load3 rfl rfl rfl rfl rfl) rfl rfl ?_
      refine Rv rfl rfl rfl (U_move rfl) rfl rfl ?_
      refine Rv rfl rfl rfl (U_call rfl rfl (siz_g H Z (givQ Z H ls bb (a % ls.length)) none hc2 hv2 i (by rw [givQ_len]; omega)) rfl) rfl rfl ?_
      refine Rv rfl rfl rfl (U_move rfl) rfl rfl ?_
      refine Rv rfl rfl rfl (U_extract rfl rfl) rfl rfl ?_
      refine Rv rfl rfl rfl (U_extract rfl rfl) rfl rfl ?_
      refine Rv rfl rfl rfl (U_assign rfl) rfl rfl ?_
      refine Rv rfl rfl rfl (U_assign rfl) rfl rfl ?_
      refine Re rfl ?_
      refine thenQ_n ?_
      refine W_seq rfl ?_
      refine W_reg rfl ?_
      refine Rv rfl rfl rfl (U_load3 rfl rfl rfl rfl rfl) rfl rfl ?_
      refine Rv rfl rfl rfl (U_move rfl) rfl rfl ?_
      refine Rv rfl rfl rfl (U_load4 rfl rfl rfl rfl rfl rfl) rfl rfl ?_
      refine Rv rfl rfl rfl (U_call rfl rfl (kinX_p H Z ls none (a % ls.length) bb hhi hc2 hv2 i (by rw [givQ_len]; omega) hb) rfl) rfl rfl ?_
      refine Rv rfl rfl rfl (U_move rfl) rfl rfl ?_
      refine Rv rfl rfl rfl (U_extract rfl rfl) rfl rfl ?_
      refine Rv rfl rfl rfl (U_extract rfl rfl) rfl rfl ?_
      refine Rv rfl rfl rfl (U_assign rfl) rfl rfl ?_
      refine Rv rfl rfl rfl (U_assign rfl) rfl rfl ?_
      refine Re rfl ?_
      refine thenQ_n ?_
      refine W_seq rfl ?_
      refine W_reg rfl ?_
      refine Rv rfl rfl rfl (U_load3 rfl rfl rfl rfl rfl) rfl rfl ?_
      refine Rv rfl rfl rfl (U_move rfl) rfl rfl ?_
      refine Rv rfl rfl rfl (U_load4 rfl rfl rfl rfl rfl rfl) rfl rfl ?_
      refine Rv rfl rfl rfl (U_call rfl rfl (kin_g H Z ls c hc hv i (by omega) bb (by assumption)) rfl) rfl rfl ?_
      refine Rv rfl rfl rfl (U_move rfl) rfl rfl ?_
      refine Rv rfl rfl rfl (U_extract rfl rfl) rfl rfl ?_
      refine Rv rfl rfl rfl (U_extract rfl rfl) rfl rfl ?_
      refine Rv rfl rfl rfl (U_assign rfl) rfl rfl ?_
      refine Rv rfl rfl rfl (U_assign rfl) rfl rfl ?_
      refine Re rfl ?_
      refine thenQ_n ?_
      refine W_seq rfl ?_
      refine W_seq rfl ?_
      refine Wjoin ⟨[(3, .rop [i64 ((H : Nat) : Int), i64 ((Z : Nat) : Int), .ros (ls.map boxesL) ls.length c] 0), (7, i64 ((a % ls.length : Nat) : Int)), (8, .rop [i64 bb.fr, i64 bb.wd, i64 bb.lo, i64 bb.hi] 0), (9, .rop [i64 ((H : Nat) : Int), i64 ((Z : Nat) : Int), .ros ((givQ Z H ls bb (a % ls.length)).map boxesL) ((givQ Z H ls bb (a % ls.length)).length) none] 0), (12, i64 ((kinQ Z H ls[(a % ls.length)] bb : Nat) : Int)), (13, .bool nb), (14, i64 ((i : Nat) : Int)), (21, i64 ((kinQ Z H ls[i] bb : Nat) : Int)), (188, .bool (bif (decide (((i : Nat) : Int) = ((a % ls.length : Nat) : Int))) then ((decide (((sizQ Z H (givQ Z H ls bb (a % ls.length))[i] : Nat) : Int) < ((sizQ Z H ls[i] : Nat) : Int))) || ((decide (((if i = (a % ls.length) then 2 else 0 : Nat) : Int) ≠ 2)) || ((decide (((i : Nat) : Int) ≠ ((a % ls.length : Nat) : Int))) && ((decide (((sizQ Z H ls[i] : Nat) : Int) < ((sizQ Z H (givQ Z H ls bb (a % ls.length))[i] : Nat) : Int))) || (decide (((if i = (a % ls.length) then 2 else 0 : Nat) : Int) ≠ 0)))))) else ((decide (((i : Nat) : Int) ≠ ((a % ls.length : Nat) : Int))) && ((decide (((sizQ Z H ls[i] : Nat) : Int) < ((sizQ Z H (givQ Z H ls bb (a % ls.length))[i] : Nat) : Int))) || (decide (((if i = (a % ls.length) then 2 else 0 : Nat) : Int) ≠ 0))))))], [], 0, []⟩ ?_ ?_
      · refine W_reg rfl ?_
        refine Rv rfl rfl rfl (U_move rfl) rfl rfl ?_
        refine Rv rfl rfl rfl (U_neq rfl rfl) rfl rfl ?_
        refine Rv rfl rfl rfl (U_move rfl) rfl rfl ?_
        refine Rv rfl rfl rfl (U_move rfl) rfl rfl ?_
        refine Rv rfl rfl rfl (U_neq rfl rfl) rfl rfl ?_
        refine Rv rfl rfl rfl (U_pick_f rfl rfl) rfl rfl ?_
        refine Rv rfl rfl rfl (U_move rfl) rfl rfl ?_
        refine Rv rfl rfl rfl (U_move rfl) rfl rfl ?_
        refine Rv rfl rfl rfl (U_neq rfl rfl) rfl rfl ?_
        refine Rv rfl rfl rfl (U_pick_f rfl rfl) rfl rfl ?_
        refine Rv rfl rfl rfl (U_move rfl) rfl rfl ?_
        refine Rv rfl rfl rfl (U_move rfl) rfl rfl ?_
        refine Rv rfl rfl rfl (U_neq rfl rfl) rfl rfl ?_
        refine Rv rfl rfl rfl (U_pick_f rfl rfl) rfl rfl ?_
        refine Rv rfl rfl rfl (U_move rfl) rfl rfl ?_
        refine Rv rfl rfl rfl (U_move rfl) rfl rfl ?_
        refine Rv rfl rfl rfl (U_move rfl) rfl rfl ?_
        refine Rv rfl rfl rfl (U_eql rfl rfl) rfl rfl ?_
        refine Rv rfl rfl rfl (U_move rfl) rfl rfl ?_
        refine Rsplit (t := 165) rfl (fun hg2 => ?_) (fun hg2 => ?_)
        · rw [hg2]
          have hg2' : ((i : Nat) : Int) = ((a % ls.length : Nat) : Int) := of_decide_eq_true hg2
          refine Rv rfl rfl rfl (U_move rfl) rfl rfl ?_
          refine Rv rfl rfl rfl (U_move rfl) rfl rfl ?_
          refine Rv rfl rfl rfl (U_lss rfl rfl) rfl rfl ?_
          refine Rv rfl rfl rfl (U_move rfl) rfl rfl ?_
          refine Rsplit (t := 169) rfl (fun hg3 => ?_) (fun hg3 => ?_)
          · rw [hg3]
            have hg3' : ((sizQ Z H (givQ Z H ls bb (a % ls.length))[i] : Nat) : Int) < ((sizQ Z H ls[i] : Nat) : Int) := of_decide_eq_true hg3
            refine Rs rfl rfl rfl rfl rfl ?_
            refine Rs rfl rfl rfl rfl rfl ?_
            refine Rv rfl rfl rfl (U_pick_t rfl rfl) rfl rfl ?_
            refine Rv rfl rfl rfl (U_pick_t rfl rfl) rfl rfl ?_
            refine Rv rfl rfl rfl (U_pick_f rfl rfl) rfl rfl ?_
            refine Rv rfl rfl rfl (U_move rfl) rfl rfl ?_
            refine Rs rfl rfl rfl rfl rfl ?_
            refine Rs rfl rfl rfl rfl rfl ?_
            refine Rs rfl rfl rfl rfl rfl ?_
            refine Rs rfl rfl rfl rfl rfl ?_
            refine Rs rfl rfl rfl rfl rfl ?_
            refine Rs rfl rfl rfl rfl rfl ?_
            refine Rs rfl rfl rfl rfl rfl ?_
            refine Rs rfl rfl rfl rfl rfl ?_
            refine Rs rfl rfl rfl rfl rfl ?_
            refine Rs rfl rfl rfl rfl rfl ?_
            refine Rs rfl rfl rfl rfl rfl ?_
            refine Rs rfl rfl rfl rfl rfl ?_
            refine Rv rfl rfl rfl (U_pick_t rfl rfl) rfl rfl ?_
            refine Re rfl ?_
            exact joinTo id ⟨eD rfl rfl, eD rfl rfl, eD rfl rfl, eD rfl rfl, eD rfl rfl, eD rfl rfl, eD rfl rfl, eD rfl rfl, eD rfl rfl, trivial⟩ trivial rfl rfl rfl rfl (fun _ _ => rfl)
          · rw [hg3]
            have hg3' : ¬ (((sizQ Z H (givQ Z H ls bb (a % ls.length))[i] : Nat) : Int) < ((sizQ Z H ls[i] : Nat) : Int)) := of_decide_eq_false hg3
            refine Rv rfl rfl rfl (U_move rfl) rfl rfl ?_
            refine Rv rfl rfl rfl (U_neq rfl rfl) rfl rfl ?_
            refine Rv rfl rfl rfl (U_pick_f rfl rfl) rfl rfl ?_
            refine Rv rfl rfl rfl (U_pick_t rfl rfl) rfl rfl ?_
            refine Rv rfl rfl rfl (U_pick_f rfl rfl) rfl rfl ?_
            refine Rv rfl rfl rfl (U_move rfl) rfl rfl ?_
            refine Rsplit (t := 175) rfl (fun hg4 => ?_) (fun hg4 => ?_)
            · rw [hg4]
              have hg4' : ((if i = (a % ls.length) then 2 else 0 : Nat) : Int) ≠ 2 := of_decide_eq_true hg4
              refine Rs rfl rfl rfl rfl rfl ?_
              refine Rs rfl rfl rfl rfl rfl ?_
              refine Rs rfl rfl rfl rfl rfl ?_
              refine Rs rfl rfl rfl rfl rfl ?_
              refine Rs rfl rfl rfl rfl rfl ?_
              refine Rs rfl rfl rfl rfl rfl ?_
              refine Rs rfl rfl rfl rfl rfl ?_
              refine Rs rfl rfl rfl rfl rfl ?_
              refine Rs rfl rfl rfl rfl rfl ?_
              refine Rs rfl rfl rfl rfl rfl ?_
              refine Rs rfl rfl rfl rfl rfl ?_
              refine Rs rfl rfl rfl rfl rfl ?_
              refine Rv rfl rfl rfl (U_pick_t rfl rfl) rfl rfl ?_
              refine Re rfl ?_
              exact joinTo id ⟨eD rfl rfl, eD rfl rfl, eD rfl rfl, eD rfl rfl, eD rfl rfl, eD rfl rfl, eD rfl rfl, eD rfl rfl, eD rfl rfl, trivial⟩ trivial rfl rfl rfl rfl (fun _ _ => rfl)
            · rw [hg4]
              have hg4' : ¬ (((if i = (a % ls.length) then 2 else 0 : Nat) : Int) ≠ 2) := of_decide_eq_false hg4
              refine Rv rfl rfl rfl (U_move rfl) rfl rfl ?_
              refine Rv rfl rfl rfl (U_move rfl) rfl rfl ?_
              refine Rv rfl rfl rfl (U_neq rfl rfl) rfl rfl ?_
              refine Rv rfl rfl rfl (U_move rfl) rfl rfl ?_
              refine Rsplit (t := 179) rfl (fun hg5 => ?_) (fun hg5 => ?_)
              · rw [hg5]
                have hg5' : ((i : Nat) : Int) ≠ ((a % ls.length : Nat) : Int) := of_decide_eq_true hg5
                refine Rv rfl rfl rfl (U_move rfl) rfl rfl ?_
                refine Rv rfl rfl rfl (U_move rfl) rfl rfl ?_
                refine Rv rfl rfl rfl (U_gtr rfl rfl) rfl rfl ?_
                refine Rv rfl rfl rfl (U_move rfl) rfl rfl ?_
                refine Rsplit (t := 183) rfl (fun hg6 => ?_) (fun hg6 => ?_)
                · rw [hg6]
                  have hg6' : ((sizQ Z H ls[i] : Nat) : Int) < ((sizQ Z H (givQ Z H ls bb (a % ls.length))[i] : Nat) : Int) := of_decide_eq_true hg6
                  refine Rs rfl rfl rfl rfl rfl ?_
                  refine Rs rfl rfl rfl rfl rfl ?_
                  refine Rv rfl rfl rfl (U_pick_t rfl rfl) rfl rfl ?_
                  refine Rv rfl rfl rfl (U_pick_t rfl rfl) rfl rfl ?_
                  refine Rv rfl rfl rfl (U_pick_f rfl rfl) rfl rfl ?_
                  refine Re rfl ?_
                  exact joinTo id ⟨eD rfl rfl, eD rfl rfl, eD rfl rfl, eD rfl rfl, eD rfl rfl, eD rfl rfl, eD rfl rfl, eD rfl rfl, eD rfl rfl, trivial⟩ trivial rfl rfl rfl rfl (fun _ _ => rfl)
                · rw [hg6]
                  have hg6' : ¬ (((sizQ Z H ls[i] : Nat) : Int) < ((sizQ Z H (givQ Z H ls bb (a % ls.length))[i] : Nat) : Int)) := of_decide_eq_false hg6
                  refine Rv rfl rfl rfl (U_move rfl) rfl rfl ?_
                  refine Rv rfl rfl rfl (U_neq rfl rfl) rfl rfl ?_
                  refine Rv rfl rfl rfl (U_pick_f rfl rfl) rfl rfl ?_
                  refine Rv rfl rfl rfl (U_pick_t rfl rfl) rfl rfl ?_
                  refine Rv rfl rfl rfl (U_pick_f rfl rfl) rfl rfl ?_
                  refine Re rfl ?_
                  exact joinTo id ⟨eD rfl rfl, eD rfl rfl, eD rfl rfl, eD rfl rfl, eD rfl rfl, eD rfl rfl, eD rfl rfl, eD rfl rfl, eD rfl rfl, trivial⟩ trivial rfl rfl rfl rfl (fun _ _ => rfl)
              · rw [hg5]
                have hg5' : ¬ (((i : Nat) : Int) ≠ ((a % ls.length : Nat) : Int)) := of_decide_eq_false hg5
                refine Rs rfl rfl rfl rfl rfl ?_
                refine Rs rfl rfl rfl rfl rfl ?_
                refine Rs rfl rfl rfl rfl rfl ?_
                refine Rs rfl rfl rfl rfl rfl ?_
                refine Rs rfl rfl rfl rfl rfl ?_
                refine Rs rfl rfl rfl rfl rfl ?_
                refine Rs rfl rfl rfl rfl rfl ?_
                refine Rv rfl rfl rfl (U_pick_f rfl rfl) rfl rfl ?_
                refine Rv rfl rfl rfl (U_pick_f rfl rfl) rfl rfl ?_
                refine Re rfl ?_
                exact joinTo id ⟨eD rfl rfl, eD rfl rfl, eD rfl rfl, eD rfl rfl, eD rfl rfl, eD rfl rfl, eD rfl rfl, eD rfl rfl, eD rfl rfl, trivial⟩ trivial rfl rfl rfl rfl (fun _ _ => rfl)
        · rw [hg2]
          have hg2' : ¬ (((i : Nat) : Int) = ((a % ls.length : Nat) : Int)) := of_decide_eq_false hg2
          refine Rs rfl rfl rfl rfl rfl ?_
          refine Rs rfl rfl rfl rfl rfl ?_
          refine Rs rfl rfl rfl rfl rfl ?_
          refine Rs rfl rfl rfl rfl rfl ?_
          refine Rs rfl rfl rfl rfl rfl ?_
          refine Rs rfl rfl rfl rfl rfl ?_
          refine Rs rfl rfl rfl rfl rfl ?_
          refine Rv rfl rfl rfl (U_pick_f rfl rfl) rfl rfl ?_
          refine Rv rfl rfl rfl (U_pick_f rfl rfl) rfl rfl ?_
          refine Rv rfl rfl rfl (U_move rfl) rfl rfl ?_
          refine Rv rfl rfl rfl (U_move rfl) rfl rfl ?_
          refine Rv rfl rfl rfl (U_move rfl) rfl rfl ?_
          refine Rv rfl rfl rfl (U_neq rfl rfl) rfl rfl ?_
          refine Rv rfl rfl rfl (U_move rfl) rfl rfl ?_
          refine Rsplit (t := 179) rfl (fun hg7 => ?_) (fun hg7 => ?_)
          · rw [hg7]
            have hg7' : ((i : Nat) : Int) ≠ ((a % ls.length : Nat) : Int) := of_decide_eq_true hg7
            refine Rv rfl rfl rfl (U_move rfl) rfl rfl ?_
            refine Rv rfl rfl rfl (U_move rfl) rfl rfl ?_
            refine Rv rfl rfl rfl (U_gtr rfl rfl) rfl rfl ?_
            refine Rv rfl rfl rfl (U_move rfl) rfl rfl ?_
            refine Rsplit (t := 183) rfl (fun hg8 => ?_) (fun hg8 => ?_)
            · rw [hg8]
              have hg8' : ((sizQ Z H ls[i] : Nat) : Int) < ((sizQ Z H (givQ Z H ls bb (a % ls.length))[i] : Nat) : Int) := of_decide_eq_true hg8
              refine Rs rfl rfl rfl rfl rfl ?_
              refine Rs rfl rfl rfl rfl rfl ?_
              refine Rv rfl rfl rfl (U_pick_t rfl rfl) rfl rfl ?_
              refine Rv rfl rfl rfl (U_pick_t rfl rfl) rfl rfl ?_
              refine Rv rfl rfl rfl (U_pick_f rfl rfl) rfl rfl ?_
              refine Re rfl ?_
              exact joinTo id ⟨eD rfl rfl, eD rfl rfl, eD rfl rfl, eD rfl rfl, eD rfl rfl, eD rfl rfl, eD rfl rfl, eD rfl rfl, eD rfl rfl, trivial⟩ trivial rfl rfl rfl rfl (fun _ _ => rfl)
            · rw [hg8]
              have hg8' : ¬ (((sizQ Z H ls[i] : Nat) : Int) < ((sizQ Z H (givQ Z H ls bb (a % ls.length))[i] : Nat) : Int)) := of_decide_eq_false hg8
              refine Rv rfl rfl rfl (U_move rfl) rfl rfl ?_
              refine Rv rfl rfl rfl (U_neq rfl rfl) rfl rfl ?_
              refine Rv rfl rfl rfl (U_pick_f rfl rfl) rfl rfl ?_
              refine Rv rfl rfl rfl (U_pick_t rfl rfl) rfl rfl ?_
              refine Rv rfl rfl rfl (U_pick_f rfl rfl) rfl rfl ?_
              refine Re rfl ?_
              exact joinTo id ⟨eD rfl rfl, eD rfl rfl, eD rfl rfl, eD rfl rfl, eD rfl rfl, eD rfl rfl, eD rfl rfl, eD rfl rfl, eD rfl rfl, trivial⟩ trivial rfl rfl rfl rfl (fun _ _ => rfl)
          · rw [hg7]
            have hg7' : ¬ (((i : Nat) : Int) ≠ ((a % ls.length : Nat) : Int)) := of_decide_eq_false hg7
            refine Rs rfl rfl rfl rfl rfl ?_
            refine Rs rfl rfl rfl rfl rfl ?_
            refine Rs rfl rfl rfl rfl rfl ?_
            refine Rs rfl rfl rfl rfl rfl ?_
            refine Rs rfl rfl rfl rfl rfl ?_
            refine Rs rfl rfl rfl rfl rfl ?_
            refine Rs rfl rfl rfl rfl rfl ?_
            refine Rv rfl rfl rfl (U_pick_f rfl rfl) rfl rfl ?_
            refine Rv rfl rfl rfl (U_pick_f rfl rfl) rfl rfl ?_
            refine Re rfl ?_
            exact joinTo id ⟨eD rfl rfl, eD rfl rfl, eD rfl rfl, eD rfl rfl, eD rfl rfl, eD rfl rfl, eD rfl rfl, eD rfl rfl, eD rfl rfl, trivial⟩ trivial rfl rfl rfl rfl (fun _ _ => rfl)
      refine thenQ_n ?_
      refine Wcond rfl rfl (fun hc5 => absurd hc5 (by rw [given_ok hgs.1 hgs.2]; simp)) (fun hc5 => ?_)
      refine W_skip rfl ?_
      refine thenQ_n ?_
      refine Wjoin ⟨[(3, .rop [i64 ((H : Nat) : Int), i64 ((Z : Nat) : Int), .ros (ls.map boxesL) ls.length c] 0), (7, i64 ((a % ls.length : Nat) : Int)), (8, .rop [i64 bb.fr, i64 bb.wd, i64 bb.lo, i64 bb.hi] 0), (9, .rop [i64 ((H : Nat) : Int), i64 ((Z : Nat) : Int), .ros ((givQ Z H ls bb (a % ls.length)).map boxesL) ((givQ Z H ls bb (a % ls.length)).length) none] 0), (12, i64 ((kinQ Z H ls[(a % ls.length)] bb : Nat) : Int)), (13, .bool (nb && ((decide (((i : Nat) : Int) = ((a % ls.length : Nat) : Int))) || (decide (((kinQ Z H ls[i] bb : Nat) : Int) = 0))))), (14, i64 ((i : Nat) : Int))], [], 0, []⟩ ?_ ?_
      · refine W_reg rfl ?_
        refine Rv rfl rfl rfl (U_move rfl) rfl rfl ?_
        refine Rv rfl rfl rfl (U_move rfl) rfl rfl ?_
        refine Rsplit (t := 190) rfl (fun hg9 => ?_) (fun hg9 => ?_)
        · rw [hg9]
          refine Rv rfl rfl rfl (U_move rfl) rfl rfl ?_
          refine Rv rfl rfl rfl (U_move rfl) rfl rfl ?_
          refine Rv rfl rfl rfl (U_eql rfl rfl) rfl rfl ?_
          refine Rv rfl rfl rfl (U_move rfl) rfl rfl ?_
          refine Rsplit (t := 194) rfl (fun hg10 => ?_) (fun hg10 => ?_)
          · rw [hg10]
            have hg10' : ((i : Nat) : Int) = ((a % ls.length : Nat) : Int) := of_decide_eq_true hg10
            refine Rs rfl rfl rfl rfl rfl ?_
            refine Rs rfl rfl rfl rfl rfl ?_
            refine Rv rfl rfl rfl (U_pick_t rfl rfl) rfl rfl ?_
            refine Rv rfl rfl rfl (U_pick_t rfl rfl) rfl rfl ?_
            refine Rv rfl rfl rfl (U_assign rfl) rfl rfl ?_
            refine Re rfl ?_
            exact joinTo id ⟨eD rfl rfl, eD rfl rfl, eD rfl rfl, eD rfl rfl, eD rfl rfl, eD rfl rfl, eD rfl rfl, trivial⟩ trivial rfl rfl rfl rfl (fun _ _ => rfl)
          · rw [hg10]
            have hg10' : ¬ (((i : Nat) : Int) = ((a % ls.length : Nat) : Int)) := of_decide_eq_false hg10
            refine Rv rfl rfl rfl (U_move rfl) rfl rfl ?_
            refine Rv rfl rfl rfl (U_eql rfl rfl) rfl rfl ?_
            refine Rv rfl rfl rfl (U_pick_f rfl rfl) rfl rfl ?_
            refine Rv rfl rfl rfl (U_pick_t rfl rfl) rfl rfl ?_
            refine Rv rfl rfl rfl (U_assign rfl) rfl rfl ?_
            refine Re rfl ?_
            exact joinTo id ⟨eD rfl rfl, eD rfl rfl, eD rfl rfl, eD rfl rfl, eD rfl rfl, eD rfl rfl, eD rfl rfl, trivial⟩ trivial rfl rfl rfl rfl (fun _ _ => rfl)
        · rw [hg9]
          refine Rs rfl rfl rfl rfl rfl ?_
          refine Rs rfl rfl rfl rfl rfl ?_
          refine Rs rfl rfl rfl rfl rfl ?_
          refine Rs rfl rfl rfl rfl rfl ?_
          refine Rs rfl rfl rfl rfl rfl ?_
          refine Rs rfl rfl rfl rfl rfl ?_
          refine Rs rfl rfl rfl rfl rfl ?_
          refine Rv rfl rfl rfl (U_pick_f rfl rfl) rfl rfl ?_
          refine Rv rfl rfl rfl (U_assign rfl) rfl rfl ?_
          refine Re rfl ?_
          exact joinTo id ⟨eD rfl rfl, eD rfl rfl, eD rfl rfl, eD rfl rfl, eD rfl rfl, eD rfl rfl, eD rfl rfl, trivial⟩ trivial rfl rfl rfl rfl (fun _ _ => rfl)
      refine blkQ_n ?_
      refine thenQ_n ?_
      refine W_reg rfl ?_
      refine Rv rfl rfl rfl (U_move rfl) rfl rfl ?_
      refine Rv rfl rfl rfl (U_add rfl rfl (w64e (m := ((i + 1 : Nat) : Int)) (by omega) (by omega) (by omega))) rfl rfl ?_
      refine Rv rfl rfl rfl (U_assign rfl) rfl rfl ?_
      refine Re rfl ?_
      refine thenQ_n ?_
      exact againTo (T' := [(3, .rop [i64 ((H : Nat) : Int), i64 ((Z : Nat) : Int), .ros (ls.map boxesL) ls.length c] 0), (7, i64 ((a % ls.length : Nat) : Int)), (8, .rop [i64 bb.fr, i64 bb.wd, i64 bb.lo, i64 bb.hi] 0), (9, .rop [i64 ((H : Nat) : Int), i64 ((Z : Nat) : Int), .ros ((givQ Z H ls bb (a % ls.length)).map boxesL) ((givQ Z H ls bb (a % ls.length)).length) none] 0), (12, i64 ((kinQ Z H ls[(a % ls.length)] bb : Nat) : Int)), (13, .bool (nb && ((decide (((i : Nat) : Int) = ((a % ls.length : Nat) : Int))) || (decide (((kinQ Z H ls[i] bb : Nat) : Int) = 0))))), (14, i64 (((i + 1) : Nat) : Int))]) (H' := []) (n := 0) (ls.length - (i + 1)) ⟨i + 1, nb && ((decide (((i : Nat) : Int) = ((a % ls.length : Nat) : Int))) || (decide (((kinQ Z H ls[i] bb : Nat) : Int) = 0))), (by omega), (nonK_step (by omega) hi0_1), rfl, rfl⟩ (by omega) id ⟨eD rfl rfl, eD rfl rfl, eD rfl rfl, eD rfl rfl, eD rfl rfl, eD rfl rfl, eD rfl rfl, trivial⟩ trivial rfl rfl rfl rfl (fun _ _ => rfl)
    · have hil : i = ls.length := by omega
      rw [hil] at hi0_1
      refine W_exit rfl ?_
      refine thenQ_x ?_
      refine thenQ_x ?_
      refine blkQ_x rfl ?_
      refine thenQ_n ?_
      refine W_seq rfl ?_
      refine W_seq rfl ?_
      refine Wjoin ⟨[(3, .rop [i64 ((H : Nat) : Int), i64 ((Z : Nat) : Int), .ros (ls.map boxesL) ls.length c] 0), (9, .rop [i64 ((H : Nat) : Int), i64 ((Z : Nat) : Int), .ros ((givQ Z H ls bb (a % ls.length)).map boxesL) ((givQ Z H ls bb (a % ls.length)).length) none] 0), (203, .bool ((decide (((kinQ Z H ls[(a % ls.length)] bb : Nat) : Int) = 2)) && nb))], [], 0, []⟩ ?_ ?_
      · refine W_reg rfl ?_
        refine Rv rfl rfl rfl (U_move rfl) rfl rfl ?_
        refine Rv rfl rfl rfl (U_eql rfl rfl) rfl rfl ?_
        refine Rv rfl rfl rfl (U_move rfl) rfl rfl ?_
        refine Rsplit (t := 201) rfl (fun hg11 => ?_) (fun hg11 => ?_)
        · rw [hg11]
          have hg11' : ((kinQ Z H ls[(a % ls.length)] bb : Nat) : Int) = 2 := of_decide_eq_true hg11
          refine Rv rfl rfl rfl (U_move rfl) rfl rfl ?_
          refine Rv rfl rfl rfl (U_pick_t rfl rfl) rfl rfl ?_
          refine Re rfl ?_
          exact joinTo id ⟨eD rfl rfl, eD rfl rfl, eD rfl rfl, trivial⟩ trivial rfl rfl rfl rfl (fun _ _ => rfl)
        · rw [hg11]
          have hg11' : ¬ (((kinQ Z H ls[(a % ls.length)] bb : Nat) : Int) = 2) := of_decide_eq_false hg11
          refine Rs rfl rfl rfl rfl rfl ?_
          refine Rv rfl rfl rfl (U_pick_f rfl rfl) rfl rfl ?_
          refine Re rfl ?_
          exact joinTo id ⟨eD rfl rfl, eD rfl rfl, eD rfl rfl, trivial⟩ trivial rfl rfl rfl rfl (fun _ _ => rfl)
      refine thenQ_n ?_
      refine Wcond rfl rfl (fun hc6 => ?_) (fun hc6 => ?_)
      · simp only [Bool.and_eq_true, decide_eq_true_eq] at hc6
        have hk2 : kinQ Z H ls[a % ls.length] bb = 2 := by omega
        have hnk : nonK Z H ls bb (a % ls.length) ls.length = true := by rw [← hi0_1]; exact hc6.2
        refine W_seq rfl ?_
        refine W_reg rfl ?_
        refine Rv rfl rfl rfl (U_assign rfl) rfl rfl ?_
        refine Re rfl ?_
        refine thenQ_n ?_
        refine W_block rfl ?_
        refine LoopTo (T' := [(3, .rop [i64 ((H : Nat) : Int), i64 ((Z : Nat) : Int), .ros (ls.map boxesL) ls.length c] 0), (9, .rop [i64 ((H : Nat) : Int), i64 ((Z : Nat) : Int), .ros ((givQ Z H ls bb (a % ls.length)).map boxesL) ((givQ Z H ls bb (a % ls.length)).length) none] 0), (23, i64 ((0 : Nat) : Int))]) (H' := []) (n := 0) rfl (fun mz_ qz_ => ∃ (k : Nat), k ≤ ls.length ∧ mz_ = ls.length - k ∧ qz_ = ⟨[(3, .rop [i64 ((H : Nat) : Int), i64 ((Z : Nat) : Int), .ros (ls.map boxesL) ls.length c] 0), (9, .rop [i64 ((H : Nat) : Int), i64 ((Z : Nat) : Int), .ros ((givQ Z H ls bb (a % ls.length)).map boxesL) ((givQ Z H ls bb (a % ls.length)).length) none] 0), (23, i64 ((k : Nat) : Int))], [], 0, []⟩) ⟨0, (by omega), rfl, rfl⟩ id ⟨eD rfl rfl, eD rfl rfl, eD rfl rfl, trivial⟩ trivial rfl rfl rfl rfl (fun _ _ => rfl) ?_
        rintro _ _ ⟨k, hi1_0, rfl, rfl⟩
        refine W_seq rfl ?_
        refine W_seq rfl ?_
        refine W_reg rfl ?_
        refine Rv rfl rfl rfl (U_move rfl) rfl rfl ?_
        refine Rv rfl rfl rfl (U_fieldAddrR rfl) rfl rfl ?_
        refine Rv rfl rfl rfl (U_load1 rfl rfl rfl) rfl rfl ?_
        refine Rv rfl rfl rfl (U_lenOf rfl len_ros) rfl rfl ?_
        refine Rv rfl rfl rfl (U_lss rfl rfl) rfl rfl ?_
        refine Re rfl ?_
        refine thenQ_n ?_
        refine WcondP rfl rfl (fun hc7 => ?_) (fun hc7 => ?_)
        · refine W_skip rfl ?_
          refine thenQ_n ?_
          refine W_seq rfl ?_
          refine W_block rfl ?_
          refine W_seq rfl ?_
          refine Wdraw rfl (by kernel_rfl) (by kernel_rfl) ?_
          refine Dv rfl rfl rfl (U_fieldAddrR rfl) rfl rfl ?_
          refine Dv rfl rfl rfl (U_load1 rfl rfl rfl) rfl rfl ?_
          refine Dv rfl rfl rfl (U_move rfl) rfl rfl ?_
          have hx12 : k < (givQ Z H ls bb (a % ls.length)).length := by omega
          refine Dv rfl rfl rfl (U_indexR (j := k) rfl rfl rfl hx12) rfl rfl ?_
          refine Dv rfl rfl rfl (U_load1 rfl rfl (getM hx12)) rfl rfl ?_
          refine Dv rfl rfl rfl (U_load3 rfl rfl rfl rfl rfl) rfl rfl ?_
          refine Dv rfl rfl rfl (U_move rfl) rfl rfl ?_
          refine Dv rfl rfl rfl (U_call rfl rfl (field_p H Z ls c hv k (by omega)) rfl) rfl rfl ?_
          refine Dv rfl rfl rfl (U_fieldAddrR rfl) rfl rfl ?_
          refine Dv rfl rfl rfl (U_load1 rfl rfl rfl) rfl rfl ?_
          refine Dv rfl rfl rfl (U_fieldAddrR rfl) rfl rfl ?_
          refine Dv rfl rfl rfl (U_load1 rfl rfl rfl) rfl rfl ?_
          refine Dv rfl rfl rfl (U_call rfl rfl (runsOf_p H Z (fldQ Z H ls[k]) (by rw [fldQ_len]) (inL' ls[k] H) fld_gf (by omega) (by omega)) rfl) rfl rfl ?_
          refine Dv rfl rfl rfl (U_call rfl rfl (samBT_p ((givQ Z H ls bb (a % ls.length))[k]) (rnsK H (inL' ls[k] H) Z) none none (vs_bl hv2 _ (List.getElem_mem _)) (Nat.le_trans (rnsK_len hH.1) (by omega)) (giv_same hhi hb (by omega) hk2 (nonK_get hnk) (by rw [givQ_len]; omega) (by omega))) rfl) rfl rfl ?_
          refine Dv rfl rfl rfl (U_not rfl) rfl rfl ?_
          refine Dr.nil rfl ?_
          refine thenQ_n ?_
          refine Wcond rfl rfl (fun h => nomatch h) (fun _ => ?_)
          refine W_skip rfl ?_
          refine blkQ_n ?_
          refine thenQ_n ?_
          refine W_reg rfl ?_
          refine Rv rfl rfl rfl (U_move rfl) rfl rfl ?_
          refine Rv rfl rfl rfl (U_add rfl rfl (w64e (m := ((k + 1 : Nat) : Int)) (by omega) (by omega) (by omega))) rfl rfl ?_
          refine Rv rfl rfl rfl (U_assign rfl) rfl rfl ?_
          refine Re rfl ?_
          refine thenQ_n ?_
          exact againTo (T' := [(3, .rop [i64 ((H : Nat) : Int), i64 ((Z : Nat) : Int), .ros (ls.map boxesL) ls.length c] 0), (9, .rop [i64 ((H : Nat) : Int), i64 ((Z : Nat) : Int), .ros ((givQ Z H ls bb (a % ls.length)).map boxesL) ((givQ Z H ls bb (a % ls.length)).length) none] 0), (23, i64 (((k + 1) : Nat) : Int))]) (H' := []) (n := 0) (ls.length - (k + 1)) ⟨k + 1, (by omega), rfl, rfl⟩ (by omega) id ⟨eD rfl rfl, eD rfl rfl, eD rfl rfl, trivial⟩ trivial rfl rfl rfl rfl (fun _ _ => rfl)
        · refine W_exit rfl ?_
          refine thenQ_x ?_
          refine thenQ_x ?_
          refine blkQ_x rfl ?_
          refine thenQ_n ?_
          refine W_seq rfl ?_
          refine W_reg rfl ?_
          refine Rv rfl rfl rfl (U_call rfl rfl (works_p) rfl) rfl rfl ?_
          refine Rv rfl rfl rfl (U_assign rfl) rfl rfl ?_
          refine Re rfl ?_
          refine thenQ_n ?_
          refine W_ret rfl ?_
          exact retL (rlT rfl rl0) rfl rfl
      · have hc6' := Bool.eq_false_iff.1 hc6
        refine W_skip rfl ?_
        refine thenQ_n ?_
        refine W_seq rfl ?_
        refine W_reg rfl ?_
        refine Rv rfl rfl rfl (U_call rfl rfl (works_p) rfl) rfl rfl ?_
        refine Rv rfl rfl rfl (U_assign rfl) rfl rfl ?_
        refine Re rfl ?_
        refine thenQ_n ?_
        refine W_ret rfl ?_
        exact retL (rlT rfl rl0) rfl rfl
theorem borderGiven2_p (H Z : Nat) (ls : List (List Bx)) (c : Option Nat) (hc : chkS ⟨H, Z, ls⟩ = 0) (hv : VS ⟨H, Z, ls⟩ H Z) (hg : grt ⟨H, Z, ls⟩ = false) (hn0 : 0 < ls.length) (a : Nat) (ha : a < 256) (x0 x1 x2 x3 : Nat) (hx0 : x0 < 256) (hx1 : x1 < 256) (hx2 : x2 < 256) (hx3 : x3 < 256) (bb : Bx) (hbw : boxW Z H x0 x1 x2 x3 = bb) (hb : isB bb H Z = true) (p : Nat × Nat) (hn : fltQ Z H ls = some p) : Pure Try.prog 10 [.agg [i64 (H : Nat), i64 (Z : Nat), landsA ls c], .int .u8 (a : Nat), .agg [.int .u8 (x0 : Nat), .int .u8 (x1 : Nat), .int .u8 (x2 : Nat), .int .u8 (x3 : Nat)]] (.bool true) := by
  have hv' := hv
  obtain ⟨_, _, hH, hZ1, hln, hlb, hbx⟩ := hv'
  simp only at hln hlb hbx
  have hZ := hZ1.2
  have hHZ : Z * H ≤ 1152 := Nat.mul_le_mul hZ hH.2
  have hHZc : H * Z = Z * H := Nat.mul_comm _ _
  have hia : a % ls.length < ls.length := Nat.mod_lt _ hn0
  have hzh := grt_zh hg hc
  have hhi := vs_hi hv
  have hv2 := givQ_vs (a := a % ls.length) (b := bb) hv (by omega)
  have hc2 := vs_chk hv2
  have hgl : (givQ Z H ls bb (a % ls.length)).length = ls.length := givQ_len
  refine pure_of_body Try.func10 (c := body Try.f10) rfl (by simp [Try.ntmps10]) fun w0 Φ0 => ?_
  refine W_seq rfl ?_
  refine W_reg rfl ?_
  refine Rv rfl rfl rfl (U_boxF rfl rfl rfl) rfl rfl ?_
  refine Rv rfl rfl rfl (U_boxF rfl rfl rfl) rfl rfl ?_
  refine Rv rfl rfl rfl (U_assign rfl) rfl rfl ?_
  refine Re rfl ?_
  refine thenQ_n ?_
  refine W_seq rfl ?_
  refine W_seq rfl ?_
  refine W_reg rfl ?_
  refine Rv rfl rfl rfl (U_load3 rfl rfl rfl rfl rfl) rfl rfl ?_
  refine Rv rfl rfl rfl (U_call rfl rfl (fineT_p H Z ls c hg hc) rfl) rfl rfl ?_
  refine Rv rfl rfl rfl (U_not rfl) rfl rfl ?_
  refine Rv rfl rfl rfl (U_move rfl) rfl rfl ?_
  refine Rv rfl rfl rfl (U_fieldAddrR rfl) rfl rfl ?_
  refine Rv rfl rfl rfl (U_load1 rfl rfl rfl) rfl rfl ?_
  refine Rv rfl rfl rfl (U_lenOf rfl len_ros) rfl rfl ?_
  refine Rv rfl rfl rfl (U_eql rfl rfl) rfl rfl ?_
  refine Rv rfl rfl rfl (U_pick_f rfl rfl) rfl rfl ?_
  refine Re rfl ?_
  refine thenQ_n ?_
  refine WcondP rfl rfl (fun hc0 => ?_) (fun hc0 => ?_)
  · refine W_seq rfl ?_
    refine W_reg rfl ?_
    refine Rv rfl rfl rfl (U_call rfl rfl (works_p) rfl) rfl rfl ?_
    refine Rv rfl rfl rfl (U_assign rfl) rfl rfl ?_
    refine Re rfl ?_
    refine thenQ_n ?_
    refine W_ret rfl ?_
    refine thenQ_r ?_
    exact retL (rlT rfl rl0) rfl rfl
  · refine W_skip rfl ?_
    refine thenQ_n ?_
    refine W_seq rfl ?_
    refine W_reg rfl ?_
    refine Rv rfl rfl rfl (U_move rfl) rfl rfl ?_
    refine Rv rfl rfl rfl (U_convInt (by rfl) rfl (wr_i64 (by omega) (by omega))) rfl rfl ?_
    refine Rv rfl rfl rfl (U_fieldAddrR rfl) rfl rfl ?_
    refine Rv rfl rfl rfl (U_load1 rfl rfl rfl) rfl rfl ?_
    refine Rv rfl rfl rfl (U_lenOf rfl len_ros) rfl rfl ?_
    refine Rv rfl rfl rfl (U_rem (c := ((a % ls.length : Nat) : Int)) rfl rfl (by omega) (tmodN _ _)) rfl rfl ?_
    refine Rv rfl rfl rfl (U_assign rfl) rfl rfl ?_
    refine Re rfl ?_
    refine thenQ_n ?_
    refine W_seq rfl ?_
    refine W_reg rfl ?_
    refine Rv rfl rfl rfl (U_load3 rfl rfl rfl rfl rfl) rfl rfl ?_
    refine Rv rfl rfl rfl (U_load4 rfl rfl rfl rfl rfl rfl) rfl rfl ?_
    refine Rv rfl rfl rfl (U_call rfl rfl (boxB_p H Z ls c hv x0 x1 x2 x3 hx0 hx1 hx2 hx3 bb hbw) rfl) rfl rfl ?_
    refine Ra rfl rfl rfl (U_alloc) rfl rfl rfl ?_
    refine Rn rfl rfl rfl (U_storeAll rfl rfl rfl rfl rfl rfl) rfl ?_
    refine Re rfl ?_
    refine thenQ_n ?_
    refine WfrN 0 rfl rfl (T' := [(3, .rop [i64 ((H : Nat) : Int), i64 ((Z : Nat) : Int), .ros (ls.map boxesL) ls.length c] 0), (7, i64 ((a % ls.length : Nat) : Int)), (8, .rop [i64 bb.fr, i64 bb.wd, i64 bb.lo, i64 bb.hi] 0)]) (H' := []) ⟨⟨_, rfl, rfl⟩, ⟨_, rfl, rfl⟩, ⟨_, rfl, rfl⟩, trivial⟩ trivial ?_
    refine W_seq rfl ?_
    refine W_reg rfl ?_
    refine Rv rfl rfl rfl (U_load3 rfl rfl rfl rfl rfl) rfl rfl ?_
    refine Rv rfl rfl rfl (U_move rfl) rfl rfl ?_
    refine Rv rfl rfl rfl (U_load4 rfl rfl rfl rfl rfl rfl) rfl rfl ?_
    refine Rv rfl rfl rfl (U_call rfl rfl (giv_g H Z ls c hc hv (a % ls.length) (by omega) bb (by assumption)) rfl) rfl rfl ?_
    refine Rv rfl rfl rfl (U_move rfl) rfl rfl ?_
    refine Rv rfl rfl rfl (U_extract rfl rfl) rfl rfl ?_
    refine Rv rfl rfl rfl (U_extract rfl rfl) rfl rfl ?_
    refine Ra rfl rfl rfl (U_alloc) rfl rfl rfl ?_
    refine Rn rfl rfl rfl (U_storeAll rfl rfl rfl rfl rfl rfl) rfl ?_
    refine Rv rfl rfl rfl (U_assign rfl) rfl rfl ?_
    refine Re rfl ?_
    refine thenQ_n ?_
    refine WfrN 1 rfl rfl (T' := [(3, .rop [i64 ((H : Nat) : Int), i64 ((Z : Nat) : Int), .ros (ls.map boxesL) ls.length c] 0), (7, i64 ((a % ls.length : Nat) : Int)), (8, .rop [i64 bb.fr, i64 bb.wd, i64 bb.lo, i64 bb.hi] 0), (9, .rop [i64 ((H : Nat) : Int), i64 ((Z : Nat) : Int), .ros ((givQ Z H ls bb (a % ls.length)).map boxesL) ((givQ Z H ls bb (a % ls.length)).length) none] 0), (10, i64 0)]) (H' := []) ⟨⟨_, rfl, rfl⟩, ⟨_, rfl, rfl⟩, ⟨_, rfl, rfl⟩, ⟨_, rfl, rfl⟩, ⟨_, rfl, rfl⟩, trivial⟩ trivial ?_
    refine W_seq rfl ?_
    refine W_seq rfl ?_
    refine Wjoin ⟨[(3, .rop [i64 ((H : Nat) : Int), i64 ((Z : Nat) : Int), .ros (ls.map boxesL) ls.length c] 0), (7, i64 ((a % ls.length : Nat) : Int)), (8, .rop [i64 bb.fr, i64 bb.wd, i64 bb.lo, i64 bb.hi] 0), (9, .rop [i64 ((H : Nat) : Int), i64 ((Z : Nat) : Int), .ros ((givQ Z H ls bb (a % ls.length)).map boxesL) ((givQ Z H ls bb (a % ls.length)).length) none] 0), (79, .bool (decide ((((givQ Z H ls bb (a % ls.length)).length : Nat) : Int) ≠ ((ls.length : Nat) : Int))))], [], 0, []⟩ ?_ ?_
    · refine W_reg rfl ?_
      refine Rv rfl rfl rfl (U_move rfl) rfl rfl ?_
      refine Rv rfl rfl rfl (U_neq rfl rfl) rfl rfl ?_
      refine Rv rfl rfl rfl (U_move rfl) rfl rfl ?_
      refine Rv rfl rfl rfl (U_load3 rfl rfl rfl rfl rfl) rfl rfl ?_
      refine Rv rfl rfl rfl (U_call rfl rfl (chkSRG_p H Z (givQ Z H ls bb (a % ls.length)) none hc2 hv2) rfl) rfl rfl ?_
      refine Rv rfl rfl rfl (U_neq rfl rfl) rfl rfl ?_
      refine Rv rfl rfl rfl (U_pick_f rfl rfl) rfl rfl ?_
      refine Rv rfl rfl rfl (U_move rfl) rfl rfl ?_
      refine Rv rfl rfl rfl (U_fieldAddrR rfl) rfl rfl ?_
      refine Rv rfl rfl rfl (U_load1 rfl rfl rfl) rfl rfl ?_
      refine Rv rfl rfl rfl (U_lenOf rfl len_ros) rfl rfl ?_
      refine Rv rfl rfl rfl (U_fieldAddrR rfl) rfl rfl ?_
      refine Rv rfl rfl rfl (U_load1 rfl rfl rfl) rfl rfl ?_
      refine Rv rfl rfl rfl (U_lenOf rfl len_ros) rfl rfl ?_
      refine Rv rfl rfl rfl (U_neq rfl rfl) rfl rfl ?_
      refine Rv rfl rfl rfl (U_pick_f rfl rfl) rfl rfl ?_
      refine Rv rfl rfl rfl (U_move rfl) rfl rfl ?_
      refine Rsplit (t := 66) rfl (fun hg1 => ?_) (fun hg1 => ?_)
      · rw [hg1]
        have hg1' : (((givQ Z H ls bb (a % ls.length)).length : Nat) : Int) ≠ ((ls.length : Nat) : Int) := of_decide_eq_true hg1
        refine Rs rfl rfl rfl rfl rfl ?_
        refine Rs rfl rfl rfl rfl rfl ?_
        refine Rs rfl rfl rfl rfl rfl ?_
        refine Rs rfl rfl rfl rfl rfl ?_
        refine Rs rfl rfl rfl rfl rfl ?_
        refine Rv rfl rfl rfl (U_pick_t rfl rfl) rfl rfl ?_
        refine Rv rfl rfl rfl (U_move rfl) rfl rfl ?_
        refine Rs rfl rfl rfl rfl rfl ?_
        refine Rs rfl rfl rfl rfl rfl ?_
        refine Rs rfl rfl rfl rfl rfl ?_
        refine Rs rfl rfl rfl rfl rfl ?_
        refine Rs rfl rfl rfl rfl rfl ?_
        refine Rv rfl rfl rfl (U_pick_t rfl rfl) rfl rfl ?_
        refine Re rfl ?_
        exact joinTo id ⟨eD rfl rfl, eD rfl rfl, eD rfl rfl, eD rfl rfl, eD rfl rfl, trivial⟩ trivial rfl rfl rfl rfl (fun _ _ => rfl)
      · rw [hg1]
        have hg1' : ¬ ((((givQ Z H ls bb (a % ls.length)).length : Nat) : Int) ≠ ((ls.length : Nat) : Int)) := of_decide_eq_false hg1
        refine Rv rfl rfl rfl (U_fieldAddrR rfl) rfl rfl ?_
        refine Rv rfl rfl rfl (U_load1 rfl rfl rfl) rfl rfl ?_
        refine Rv rfl rfl rfl (U_fieldAddrR rfl) rfl rfl ?_
        refine Rv rfl rfl rfl (U_load1 rfl rfl rfl) rfl rfl ?_
        refine Rv rfl rfl rfl (U_neqS rfl rfl) rfl rfl ?_
        refine Rv rfl rfl rfl (U_pick_f rfl rfl) rfl rfl ?_
        refine Rv rfl rfl rfl (U_move rfl) rfl rfl ?_
        refine Rv rfl rfl rfl (U_fieldAddrR rfl) rfl rfl ?_
        refine Rv rfl rfl rfl (U_load1 rfl rfl rfl) rfl rfl ?_
        refine Rv rfl rfl rfl (U_fieldAddrR rfl) rfl rfl ?_
        refine Rv rfl rfl rfl (U_load1 rfl rfl rfl) rfl rfl ?_
        refine Rv rfl rfl rfl (U_neqS rfl rfl) rfl rfl ?_
        refine Rv rfl rfl rfl (U_pick_f rfl rfl) rfl rfl ?_
        refine Re rfl ?_
        exact joinTo id ⟨eD rfl rfl, eD rfl rfl, eD rfl rfl, eD rfl rfl, eD rfl rfl, trivial⟩ trivial rfl rfl rfl rfl (fun _ _ => rfl)
    refine thenQ_n ?_
    refine WcondP rfl rfl (fun hc1 => absurd hc1 (by simp; omega)) (fun hc1 => ?_)
    refine W_skip rfl ?_
    refine thenQ_n ?_
    refine W_seq rfl ?_
    refine W_reg rfl ?_
    refine Rv rfl rfl rfl (U_load3 rfl rfl rfl rfl rfl) rfl rfl ?_
    refine Rv rfl rfl rfl (U_move rfl) rfl rfl ?_
    refine Rv rfl rfl rfl (U_load4 rfl rfl rfl rfl rfl rfl) rfl rfl ?_
    refine Rv rfl rfl rfl (U_call rfl rfl (givX_p H Z ls none (a % ls.length) bb hhi hc2 hv2 (by rw [givQ_len]; omega) hb) rfl) rfl rfl ?_
    refine Rv rfl rfl rfl (U_move rfl) rfl rfl ?_
    refine Rv rfl rfl rfl (U_extract rfl rfl) rfl rfl ?_
    refine Rv rfl rfl rfl (U_extract rfl rfl) rfl rfl ?_
    refine Ra rfl rfl rfl (U_alloc) rfl rfl rfl ?_
    refine Rn rfl rfl rfl (U_storeAll rfl rfl rfl rfl rfl rfl) rfl ?_
    refine Rv rfl rfl rfl (U_assign rfl) rfl rfl ?_
    refine Re rfl ?_
    refine thenQ_n ?_
    refine WfrN 0 rfl rfl (T' := [(3, .rop [i64 ((H : Nat) : Int), i64 ((Z : Nat) : Int), .ros (ls.map boxesL) ls.length c] 0), (7, i64 ((a % ls.length : Nat) : Int)), (8, .rop [i64 bb.fr, i64 bb.wd, i64 bb.lo, i64 bb.hi] 0), (9, .rop [i64 ((H : Nat) : Int), i64 ((Z : Nat) : Int), .ros ((givQ Z H ls bb (a % ls.length)).map boxesL) ((givQ Z H ls bb (a % ls.length)).length) none] 0), (10, i64 0), (11, .rop [i64 ((H : Nat) : Int), i64 ((Z : Nat) : Int), .ros ((givQ Z H ls bb (a % ls.length)).map boxesL) ((givQ Z H ls bb (a % ls.length)).length) none] 0)]) (H' := []) ⟨⟨_, rfl, rfl⟩, ⟨_, rfl, rfl⟩, ⟨_, rfl, rfl⟩, ⟨_, rfl, rfl⟩, ⟨_, rfl, rfl⟩, ⟨_, rfl, rfl⟩, trivial⟩ trivial ?_
    refine W_seq rfl ?_
    refine W_seq rfl ?_
    refine W_reg rfl ?_
    refine Rv rfl rfl rfl (U_move rfl) rfl rfl ?_
    refine Rv rfl rfl rfl (U_neq rfl rfl) rfl rfl ?_
    refine Rv rfl rfl rfl (U_move rfl) rfl rfl ?_
    refine Rv rfl rfl rfl (U_load3 rfl rfl rfl rfl rfl) rfl rfl ?_
    refine Rv rfl rfl rfl (U_load3 rfl rfl rfl rfl rfl) rfl rfl ?_
    refine Rv rfl rfl rfl (U_call rfl rfl (skiesS_p ⟨H, Z, (givQ Z H ls bb (a % ls.length))⟩ none none (vs_ln hv2) (vs_bl hv2)) rfl) rfl rfl ?_
    refine Rv rfl rfl rfl (U_not rfl) rfl rfl ?_
    refine Rv rfl rfl rfl (U_pick_f rfl rfl) rfl rfl ?_
    refine Rv rfl rfl rfl (U_move rfl) rfl rfl ?_
    refine Rv rfl rfl rfl (U_load3 rfl rfl rfl rfl rfl) rfl rfl ?_
    refine Rv rfl rfl rfl (U_call rfl rfl (onceS_p H Z ls c hc hv hn) rfl) rfl rfl ?_
    refine Rv rfl rfl rfl (U_eql rfl rfl) rfl rfl ?_
    refine Rv rfl rfl rfl (U_move rfl) rfl rfl ?_
    refine Rs rfl rfl rfl rfl rfl ?_
    refine Rs rfl rfl rfl rfl rfl ?_
    refine Rs rfl rfl rfl rfl rfl ?_
    refine Rv rfl rfl rfl (U_pick_f rfl rfl) rfl rfl ?_
    refine Rv rfl rfl rfl (U_pick_f rfl rfl) rfl rfl ?_
    refine Re rfl ?_
    refine thenQ_n ?_
    refine Wcond rfl rfl (fun h => nomatch h) (fun _ => ?_)
    refine W_skip rfl ?_
    refine thenQ_n ?_
    refine W_seq rfl ?_
    refine W_reg rfl ?_
    refine Rv rfl rfl rfl (U_load3 rfl rfl rfl rfl rfl) rfl rfl ?_
    refine Rv rfl rfl rfl (U_move rfl) rfl rfl ?_
    refine Rv rfl rfl rfl (U_load4 rfl rfl rfl rfl rfl rfl) rfl rfl ?_
    refine Rv rfl rfl rfl (U_call rfl rfl (kin_g H Z ls c hc hv (a % ls.length) (by omega) bb (by assumption)) rfl) rfl rfl ?_
    refine Rv rfl rfl rfl (U_move rfl) rfl rfl ?_
    refine Rv rfl rfl rfl (U_extract rfl rfl) rfl rfl ?_
    refine Rv rfl rfl rfl (U_extract rfl rfl) rfl rfl ?_
    refine Rv rfl rfl rfl (U_assign rfl) rfl rfl ?_
    refine Rv rfl rfl rfl (U_assign rfl) rfl rfl ?_
    refine Re rfl ?_
    refine thenQ_n ?_
    refine W_seq rfl ?_
    refine W_seq rfl ?_
    refine W_reg rfl ?_
    refine Rv rfl rfl rfl (U_move rfl) rfl rfl ?_
    refine Rv rfl rfl rfl (U_neq rfl rfl) rfl rfl ?_
    refine Re rfl ?_
    refine thenQ_n ?_
    refine WcondP rfl rfl (fun h => absurd h (by decide)) (fun _ => ?_)
    refine W_skip rfl ?_
    refine thenQ_n ?_
    refine W_seq rfl ?_
    refine W_reg rfl ?_
    refine Rv rfl rfl rfl (U_assign rfl) rfl rfl ?_
    refine Re rfl ?_
    refine thenQ_n ?_
    refine W_seq rfl ?_
    refine W_seq rfl ?_
    refine W_reg rfl ?_
    refine Rv rfl rfl rfl (U_assign rfl) rfl rfl ?_
    refine Re rfl ?_
    refine thenQ_n ?_
    refine W_block rfl ?_
    refine LoopTo (T' := [(3, .rop [i64 ((H : Nat) : Int), i64 ((Z : Nat) : Int), .ros (ls.map boxesL) ls.length c] 0), (7, i64 ((a % ls.length : Nat) : Int)), (8, .rop [i64 bb.fr, i64 bb.wd, i64 bb.lo, i64 bb.hi] 0), (9, .rop [i64 ((H : Nat) : Int), i64 ((Z : Nat) : Int), .ros ((givQ Z H ls bb (a % ls.length)).map boxesL) ((givQ Z H ls bb (a % ls.length)).length) none] 0), (12, i64 ((kinQ Z H ls[(a % ls.length)] bb : Nat) : Int)), (13, .bool true), (14, i64 ((0 : Nat) : Int))]) (H' := []) (n := 0) rfl (fun mz_ qz_ => ∃ (i : Nat) (nb : Bool), i ≤ ls.length ∧ nb = nonK Z H ls bb (a % ls.length) i ∧ mz_ = ls.length - i ∧ qz_ = ⟨[(3, .rop [i64 ((H : Nat) : Int), i64 ((Z : Nat) : Int), .ros (ls.map boxesL) ls.length c] 0), (7, i64 ((a % ls.length : Nat) : Int)), (8, .rop [i64 bb.fr, i64 bb.wd, i64 bb.lo, i64 bb.hi] 0), (9, .rop [i64 ((H : Nat) : Int), i64 ((Z : Nat) : Int), .ros ((givQ Z H ls bb (a % ls.length)).map boxesL) ((givQ Z H ls bb (a % ls.length)).length) none] 0), (12, i64 ((kinQ Z H ls[(a % ls.length)] bb : Nat) : Int)), (13, .bool nb), (14, i64 ((i : Nat) : Int))], [], 0, []⟩) ⟨0, true, (by omega), rfl, rfl, rfl⟩ id ⟨eD rfl rfl, eD rfl rfl, eD rfl rfl, eD rfl rfl, eD rfl rfl, eD rfl rfl, eD rfl rfl, trivial⟩ trivial rfl rfl rfl rfl (fun _ _ => rfl) ?_
    rintro _ _ ⟨i, nb, hi0_0, hi0_1, rfl, rfl⟩
    refine W_seq rfl ?_
    refine W_seq rfl ?_
    refine W_reg rfl ?_
    refine Rv rfl rfl rfl (U_move rfl) rfl rfl ?_
    refine Rv rfl rfl rfl (U_fieldAddrR rfl) rfl rfl ?_
    refine Rv rfl rfl rfl (U_load1 rfl rfl rfl) rfl rfl ?_
    refine Rv rfl rfl rfl (U_lenOf rfl len_ros) rfl rfl ?_
    refine Rv rfl rfl rfl (U_lss rfl rfl) rfl rfl ?_
    refine Re rfl ?_
    refine thenQ_n ?_
    refine WcondP rfl rfl (fun hc4 => ?_) (fun hc4 => ?_)
    · have hgs := giv_size (Z := Z) (H := H) (b := bb) (a := a % ls.length) hhi (j := i) (by rw [givQ_len]; omega) (by omega)
      refine W_skip rfl ?_
      refine thenQ_n ?_
      refine W_seq rfl ?_
      refine W_block rfl ?_
      refine W_seq rfl ?_
      refine W_reg rfl ?_
      refine Rv rfl rfl rfl (U_load3 rfl rfl rfl rfl rfl) rfl rfl ?_
      refine Rv rfl rfl rfl (U_move rfl) rfl rfl ?_
      refine Rv rfl rfl rfl (U_call rfl rfl (siz_g H Z ls c hc hv i (by omega)) rfl) rfl rfl ?_
      refine Rv rfl rfl rfl (U_move rfl) rfl rfl ?_
      refine Rv rfl rfl rfl (U_extract rfl rfl) rfl rfl ?_
      refine Rv rfl rfl rfl (U_extract rfl rfl) rfl rfl ?_
      refine Rv rfl rfl rfl (U_assign rfl) rfl rfl ?_
      refine Rv rfl rfl rfl (U_assign rfl) rfl rfl ?_
      refine Re rfl ?_
      refine thenQ_n ?_
      refine W_seq rfl ?_
      refine W_reg rfl ?_
      refine Rv rfl rfl rfl (U_load3 rfl rfl rfl rfl rfl) rfl rfl ?_
      refine Rv rfl rfl rfl (U_move rfl) rfl rfl ?_
      refine Rv rfl rfl rfl (U_call rfl rfl (siz_g H Z (givQ Z H ls bb (a % ls.length)) none hc2 hv2 i (by rw [givQ_len]; omega)) rfl) rfl rfl ?_
      refine Rv rfl rfl rfl (U_move rfl) rfl rfl ?_
      refine Rv rfl rfl rfl (U_extract rfl rfl) rfl rfl ?_
      refine Rv rfl rfl rfl (U_extract rfl rfl) rfl rfl ?_
      refine Rv rfl rfl rfl (U_assign rfl) rfl rfl ?_
      refine Rv rfl rfl rfl (U_assign rfl) rfl rfl ?_
      refine Re rfl ?_
      refine thenQ_n ?_
      refine W_seq rfl ?_
      refine W_reg rfl ?_
      refine Rv rfl rfl rfl (U_load3 rfl rfl rfl rfl rfl) rfl rfl ?_
      refine Rv rfl rfl rfl (U_move rfl) rfl rfl ?_
      refine Rv rfl rfl rfl (U_load4 rfl rfl rfl rfl rfl rfl) rfl rfl ?_
      refine Rv rfl rfl rfl (U_call rfl rfl (kinX_p H Z ls none (a % ls.length) bb hhi hc2 hv2 i (by rw [givQ_len]; omega) hb) rfl) rfl rfl ?_
      refine Rv rfl rfl rfl (U_move rfl) rfl rfl ?_
      refine Rv rfl rfl rfl (U_extract rfl rfl) rfl rfl ?_
      refine Rv rfl rfl rfl (U_extract rfl rfl) rfl rfl ?_
      refine Rv rfl rfl rfl (U_assign rfl) rfl rfl ?_
      refine Rv rfl rfl rfl (U_assign rfl) rfl rfl ?_
      refine Re rfl ?_
      refine thenQ_n ?_
      refine W_seq rfl ?_
      refine W_reg rfl ?_
      refine Rv rfl rfl rfl (U_load3 rfl rfl rfl rfl rfl) rfl rfl ?_
      refine Rv rfl rfl rfl (U_move rfl) rfl rfl ?_
      refine Rv rfl rfl rfl (U_load4 rfl rfl rfl rfl rfl rfl) rfl rfl ?_
      refine Rv rfl rfl rfl (U_call rfl rfl (kin_g H Z ls c hc hv i (by omega) bb (by assumption)) rfl) rfl rfl ?_
      refine Rv rfl rfl rfl (U_move rfl) rfl rfl ?_
      refine Rv rfl rfl rfl (U_extract rfl rfl) rfl rfl ?_
      refine Rv rfl rfl rfl (U_extract rfl rfl) rfl rfl ?_
      refine Rv rfl rfl rfl (U_assign rfl) rfl rfl ?_
      refine Rv rfl rfl rfl (U_assign rfl) rfl rfl ?_
      refine Re rfl ?_
      refine thenQ_n ?_
      refine W_seq rfl ?_
      refine W_seq rfl ?_
      refine Wjoin ⟨[(3, .rop [i64 ((H : Nat) : Int), i64 ((Z : Nat) : Int), .ros (ls.map boxesL) ls.length c] 0), (7, i64 ((a % ls.length : Nat) : Int)), (8, .rop [i64 bb.fr, i64 bb.wd, i64 bb.lo, i64 bb.hi] 0), (9, .rop [i64 ((H : Nat) : Int), i64 ((Z : Nat) : Int), .ros ((givQ Z H ls bb (a % ls.length)).map boxesL) ((givQ Z H ls bb (a % ls.length)).length) none] 0), (12, i64 ((kinQ Z H ls[(a % ls.length)] bb : Nat) : Int)), (13, .bool nb), (14, i64 ((i : Nat) : Int)), (21, i64 ((kinQ Z H ls[i] bb : Nat) : Int)), (188, .bool (bif (decide (((i : Nat) : Int) = ((a % ls.length : Nat) : Int))) then ((decide (((sizQ Z H (givQ Z H ls bb (a % ls.length))[i] : Nat) : Int) < ((sizQ Z H ls[i] : Nat) : Int))) || ((decide (((if i = (a % ls.length) then 2 else 0 : Nat) : Int) ≠ 2)) || ((decide (((i : Nat) : Int) ≠ ((a % ls.length : Nat) : Int))) && ((decide (((sizQ Z H ls[i] : Nat) : Int) < ((sizQ Z H (givQ Z H ls bb (a % ls.length))[i] : Nat) : Int))) || (decide (((if i = (a % ls.length) then 2 else 0 : Nat) : Int) ≠ 0)))))) else ((decide (((i : Nat) : Int) ≠ ((a % ls.length : Nat) : Int))) && ((decide (((sizQ Z H ls[i] : Nat) : Int) < ((sizQ Z H (givQ Z H ls bb (a % ls.length))[i] : Nat) : Int))) || (decide (((if i = (a % ls.length) then 2 else 0 : Nat) : Int) ≠ 0))))))], [], 0, []⟩ ?_ ?_
      · refine W_reg rfl ?_
        refine Rv rfl rfl rfl (U_move rfl) rfl rfl ?_
        refine Rv rfl rfl rfl (U_neq rfl rfl) rfl rfl ?_
        refine Rv rfl rfl rfl (U_move rfl) rfl rfl ?_
        refine Rv rfl rfl rfl (U_move rfl) rfl rfl ?_
        refine Rv rfl rfl rfl (U_neq rfl rfl) rfl rfl ?_
        refine Rv rfl rfl rfl (U_pick_f rfl rfl) rfl rfl ?_
        refine Rv rfl rfl rfl (U_move rfl) rfl rfl ?_
        refine Rv rfl rfl rfl (U_move rfl) rfl rfl ?_
        refine Rv rfl rfl rfl (U_neq rfl rfl) rfl rfl ?_
        refine Rv rfl rfl rfl (U_pick_f rfl rfl) rfl rfl ?_
        refine Rv rfl rfl rfl (U_move rfl) rfl rfl ?_
        refine Rv rfl rfl rfl (U_move rfl) rfl rfl ?_
        refine Rv rfl rfl rfl (U_neq rfl rfl) rfl rfl ?_
        refine Rv rfl rfl rfl (U_pick_f rfl rfl) rfl rfl ?_
        refine Rv rfl rfl rfl (U_move rfl) rfl rfl ?_
        refine Rv rfl rfl rfl (U_move rfl) rfl rfl ?_
        refine Rv rfl rfl rfl (U_move rfl) rfl rfl ?_
        refine Rv rfl rfl rfl (U_eql rfl rfl) rfl rfl ?_
        refine Rv rfl rfl rfl (U_move rfl) rfl rfl ?_
        refine Rsplit (t := 165) rfl (fun hg2 => ?_) (fun hg2 => ?_)
        · rw [hg2]
          have hg2' : ((i : Nat) : Int) = ((a % ls.length : Nat) : Int) := of_decide_eq_true hg2
          refine Rv rfl rfl rfl (U_move rfl) rfl rfl ?_
          refine Rv rfl rfl rfl (U_move rfl) rfl rfl ?_
          refine Rv rfl rfl rfl (U_lss rfl rfl) rfl rfl ?_
          refine Rv rfl rfl rfl (U_move rfl) rfl rfl ?_
          refine Rsplit (t := 169) rfl (fun hg3 => ?_) (fun hg3 => ?_)
          · rw [hg3]
            have hg3' : ((sizQ Z H (givQ Z H ls bb (a % ls.length))[i] : Nat) : Int) < ((sizQ Z H ls[i] : Nat) : Int) := of_decide_eq_true hg3
            refine Rs rfl rfl rfl rfl rfl ?_
            refine Rs rfl rfl rfl rfl rfl ?_
            refine Rv rfl rfl rfl (U_pick_t rfl rfl) rfl rfl ?_
            refine Rv rfl rfl rfl (U_pick_t rfl rfl) rfl rfl ?_
            refine Rv rfl rfl rfl (U_pick_f rfl rfl) rfl rfl ?_
            refine Rv rfl rfl rfl (U_move rfl) rfl rfl ?_
            refine Rs rfl rfl rfl rfl rfl ?_
            refine Rs rfl rfl rfl rfl rfl ?_
            refine Rs rfl rfl rfl rfl rfl ?_
            refine Rs rfl rfl rfl rfl rfl ?_
            refine Rs rfl rfl rfl rfl rfl ?_
            refine Rs rfl rfl rfl rfl rfl ?_
            refine Rs rfl rfl rfl rfl rfl ?_
            refine Rs rfl rfl rfl rfl rfl ?_
            refine Rs rfl rfl rfl rfl rfl ?_
            refine Rs rfl rfl rfl rfl rfl ?_
            refine Rs rfl rfl rfl rfl rfl ?_
            refine Rs rfl rfl rfl rfl rfl ?_
            refine Rv rfl rfl rfl (U_pick_t rfl rfl) rfl rfl ?_
            refine Re rfl ?_
            exact joinTo id ⟨eD rfl rfl, eD rfl rfl, eD rfl rfl, eD rfl rfl, eD rfl rfl, eD rfl rfl, eD rfl rfl, eD rfl rfl, eD rfl rfl, trivial⟩ trivial rfl rfl rfl rfl (fun _ _ => rfl)
          · rw [hg3]
            have hg3' : ¬ (((sizQ Z H (givQ Z H ls bb (a % ls.length))[i] : Nat) : Int) < ((sizQ Z H ls[i] : Nat) : Int)) := of_decide_eq_false hg3
            refine Rv rfl rfl rfl (U_move rfl) rfl rfl ?_
            refine Rv rfl rfl rfl (U_neq rfl rfl) rfl rfl ?_
            refine Rv rfl rfl rfl (U_pick_f rfl rfl) rfl rfl ?_
            refine Rv rfl rfl rfl (U_pick_t rfl rfl) rfl rfl ?_
            refine Rv rfl rfl rfl (U_pick_f rfl rfl) rfl rfl ?_
            refine Rv rfl rfl rfl (U_move rfl) rfl rfl ?_
            refine Rsplit (t := 175) rfl (fun hg4 => ?_) (fun hg4 => ?_)
            · rw [hg4]
              have hg4' : ((if i = (a % ls.length) then 2 else 0 : Nat) : Int) ≠ 2 := of_decide_eq_true hg4
              refine Rs rfl rfl rfl rfl rfl ?_
              refine Rs rfl rfl rfl rfl rfl ?_
              refine Rs rfl rfl rfl rfl rfl ?_
              refine Rs rfl rfl rfl rfl rfl ?_
              refine Rs rfl rfl rfl rfl rfl ?_
              refine Rs rfl rfl rfl rfl rfl ?_
              refine Rs rfl rfl rfl rfl rfl ?_
              refine Rs rfl rfl rfl rfl rfl ?_
              refine Rs rfl rfl rfl rfl rfl ?_
              refine Rs rfl rfl rfl rfl rfl ?_
              refine Rs rfl rfl rfl rfl rfl ?_
              refine Rs rfl rfl rfl rfl rfl ?_
              refine Rv rfl rfl rfl (U_pick_t rfl rfl) rfl rfl ?_
              refine Re rfl ?_
              exact joinTo id ⟨eD rfl rfl, eD rfl rfl, eD rfl rfl, eD rfl rfl, eD rfl rfl, eD rfl rfl, eD rfl rfl, eD rfl rfl, eD rfl rfl, trivial⟩ trivial rfl rfl rfl rfl (fun _ _ => rfl)
            · rw [hg4]
              have hg4' : ¬ (((if i = (a % ls.length) then 2 else 0 : Nat) : Int) ≠ 2) := of_decide_eq_false hg4
              refine Rv rfl rfl rfl (U_move rfl) rfl rfl ?_
              refine Rv rfl rfl rfl (U_move rfl) rfl rfl ?_
              refine Rv rfl rfl rfl (U_neq rfl rfl) rfl rfl ?_
              refine Rv rfl rfl rfl (U_move rfl) rfl rfl ?_
              refine Rsplit (t := 179) rfl (fun hg5 => ?_) (fun hg5 => ?_)
              · rw [hg5]
                have hg5' : ((i : Nat) : Int) ≠ ((a % ls.length : Nat) : Int) := of_decide_eq_true hg5
                refine Rv rfl rfl rfl (U_move rfl) rfl rfl ?_
                refine Rv rfl rfl rfl (U_move rfl) rfl rfl ?_
                refine Rv rfl rfl rfl (U_gtr rfl rfl) rfl rfl ?_
                refine Rv rfl rfl rfl (U_move rfl) rfl rfl ?_
                refine Rsplit (t := 183) rfl (fun hg6 => ?_) (fun hg6 => ?_)
                · rw [hg6]
                  have hg6' : ((sizQ Z H ls[i] : Nat) : Int) < ((sizQ Z H (givQ Z H ls bb (a % ls.length))[i] : Nat) : Int) := of_decide_eq_true hg6
                  refine Rs rfl rfl rfl rfl rfl ?_
                  refine Rs rfl rfl rfl rfl rfl ?_
                  refine Rv rfl rfl rfl (U_pick_t rfl rfl) rfl rfl ?_
                  refine Rv rfl rfl rfl (U_pick_t rfl rfl) rfl rfl ?_
                  refine Rv rfl rfl rfl (U_pick_f rfl rfl) rfl rfl ?_
                  refine Re rfl ?_
                  exact joinTo id ⟨eD rfl rfl, eD rfl rfl, eD rfl rfl, eD rfl rfl, eD rfl rfl, eD rfl rfl, eD rfl rfl, eD rfl rfl, eD rfl rfl, trivial⟩ trivial rfl rfl rfl rfl (fun _ _ => rfl)
                · rw [hg6]
                  have hg6' : ¬ (((sizQ Z H ls[i] : Nat) : Int) < ((sizQ Z H (givQ Z H ls bb (a % ls.length))[i] : Nat) : Int)) := of_decide_eq_false hg6
                  refine Rv rfl rfl rfl (U_move rfl) rfl rfl ?_
                  refine Rv rfl rfl rfl (U_neq rfl rfl) rfl rfl ?_
                  refine Rv rfl rfl rfl (U_pick_f rfl rfl) rfl rfl ?_
                  refine Rv rfl rfl rfl (U_pick_t rfl rfl) rfl rfl ?_
                  refine Rv rfl rfl rfl (U_pick_f rfl rfl) rfl rfl ?_
                  refine Re rfl ?_
                  exact joinTo id ⟨eD rfl rfl, eD rfl rfl, eD rfl rfl, eD rfl rfl, eD rfl rfl, eD rfl rfl, eD rfl rfl, eD rfl rfl, eD rfl rfl, trivial⟩ trivial rfl rfl rfl rfl (fun _ _ => rfl)
              · rw [hg5]
                have hg5' : ¬ (((i : Nat) : Int) ≠ ((a % ls.length : Nat) : Int)) := of_decide_eq_false hg5
                refine Rs rfl rfl rfl rfl rfl ?_
                refine Rs rfl rfl rfl rfl rfl ?_
                refine Rs rfl rfl rfl rfl rfl ?_
                refine Rs rfl rfl rfl rfl rfl ?_
                refine Rs rfl rfl rfl rfl rfl ?_
                refine Rs rfl rfl rfl rfl rfl ?_
                refine Rs rfl rfl rfl rfl rfl ?_
                refine Rv rfl rfl rfl (U_pick_f rfl rfl) rfl rfl ?_
                refine Rv rfl rfl rfl (U_pick_f rfl rfl) rfl rfl ?_
                refine Re rfl ?_
                exact joinTo id ⟨eD rfl rfl, eD rfl rfl, eD rfl rfl, eD rfl rfl, eD rfl rfl, eD rfl rfl, eD rfl rfl, eD rfl rfl, eD rfl rfl, trivial⟩ trivial rfl rfl rfl rfl (fun _ _ => rfl)
        · rw [hg2]
          have hg2' : ¬ (((i : Nat) : Int) = ((a % ls.length : Nat) : Int)) := of_decide_eq_false hg2
          refine Rs rfl rfl rfl rfl rfl ?_
          refine Rs rfl rfl rfl rfl rfl ?_
          refine Rs rfl rfl rfl rfl rfl ?_
          refine Rs rfl rfl rfl rfl rfl ?_
          refine Rs rfl rfl rfl rfl rfl ?_
          refine Rs rfl rfl rfl rfl rfl ?_
          refine Rs rfl rfl rfl rfl rfl ?_
          refine Rv rfl rfl rfl (U_pick_f rfl rfl) rfl rfl ?_
          refine Rv rfl rfl rfl (U_pick_f rfl rfl) rfl rfl ?_
          refine Rv rfl rfl rfl (U_move rfl) rfl rfl ?_
          refine Rv rfl rfl rfl (U_move rfl) rfl rfl ?_
          refine Rv rfl rfl rfl (U_move rfl) rfl rfl ?_
          refine Rv rfl rfl rfl (U_neq rfl rfl) rfl rfl ?_
          refine Rv rfl rfl rfl (U_move rfl) rfl rfl ?_
          refine Rsplit (t := 179) rfl (fun hg7 => ?_) (fun hg7 => ?_)
          · rw [hg7]
            have hg7' : ((i : Nat) : Int) ≠ ((a % ls.length : Nat) : Int) := of_decide_eq_true hg7
            refine Rv rfl rfl rfl (U_move rfl) rfl rfl ?_
            refine Rv rfl rfl rfl (U_move rfl) rfl rfl ?_
            refine Rv rfl rfl rfl (U_gtr rfl rfl) rfl rfl ?_
            refine Rv rfl rfl rfl (U_move rfl) rfl rfl ?_
            refine Rsplit (t := 183) rfl (fun hg8 => ?_) (fun hg8 => ?_)
            · rw [hg8]
              have hg8' : ((sizQ Z H ls[i] : Nat) : Int) < ((sizQ Z H (givQ Z H ls bb (a % ls.length))[i] : Nat) : Int) := of_decide_eq_true hg8
              refine Rs rfl rfl rfl rfl rfl ?_
              refine Rs rfl rfl rfl rfl rfl ?_
              refine Rv rfl rfl rfl (U_pick_t rfl rfl) rfl rfl ?_
              refine Rv rfl rfl rfl (U_pick_t rfl rfl) rfl rfl ?_
              refine Rv rfl rfl rfl (U_pick_f rfl rfl) rfl rfl ?_
              refine Re rfl ?_
              exact joinTo id ⟨eD rfl rfl, eD rfl rfl, eD rfl rfl, eD rfl rfl, eD rfl rfl, eD rfl rfl, eD rfl rfl, eD rfl rfl, eD rfl rfl, trivial⟩ trivial rfl rfl rfl rfl (fun _ _ => rfl)
            · rw [hg8]
              have hg8' : ¬ (((sizQ Z H ls[i] : Nat) : Int) < ((sizQ Z H (givQ Z H ls bb (a % ls.length))[i] : Nat) : Int)) := of_decide_eq_false hg8
              refine Rv rfl rfl rfl (U_move rfl) rfl rfl ?_
              refine Rv rfl rfl rfl (U_neq rfl rfl) rfl rfl ?_
              refine Rv rfl rfl rfl (U_pick_f rfl rfl) rfl rfl ?_
              refine Rv rfl rfl rfl (U_pick_t rfl rfl) rfl rfl ?_
              refine Rv rfl rfl rfl (U_pick_f rfl rfl) rfl rfl ?_
              refine Re rfl ?_
              exact joinTo id ⟨eD rfl rfl, eD rfl rfl, eD rfl rfl, eD rfl rfl, eD rfl rfl, eD rfl rfl, eD rfl rfl, eD rfl rfl, eD rfl rfl, trivial⟩ trivial rfl rfl rfl rfl (fun _ _ => rfl)
          · rw [hg7]
            have hg7' : ¬ (((i : Nat) : Int) ≠ ((a % ls.length : Nat) : Int)) := of_decide_eq_false hg7
            refine Rs rfl rfl rfl rfl rfl ?_
            refine Rs rfl rfl rfl rfl rfl ?_
            refine Rs rfl rfl rfl rfl rfl ?_
            refine Rs rfl rfl rfl rfl rfl ?_
            refine Rs rfl rfl rfl rfl rfl ?_
            refine Rs rfl rfl rfl rfl rfl ?_
            refine Rs rfl rfl rfl rfl rfl ?_
            refine Rv rfl rfl rfl (U_pick_f rfl rfl) rfl rfl ?_
            refine Rv rfl rfl rfl (U_pick_f rfl rfl) rfl rfl ?_
            refine Re rfl ?_
            exact joinTo id ⟨eD rfl rfl, eD rfl rfl, eD rfl rfl, eD rfl rfl, eD rfl rfl, eD rfl rfl, eD rfl rfl, eD rfl rfl, eD rfl rfl, trivial⟩ trivial rfl rfl rfl rfl (fun _ _ => rfl)
      refine thenQ_n ?_
      refine Wcond rfl rfl (fun hc5 => absurd hc5 (by rw [given_ok hgs.1 hgs.2]; simp)) (fun hc5 => ?_)
      refine W_skip rfl ?_
      refine thenQ_n ?_
      refine Wjoin ⟨[(3, .rop [i64 ((H : Nat) : Int), i64 ((Z : Nat) : Int), .ros (ls.map boxesL) ls.length c] 0), (7, i64 ((a % ls.length : Nat) : Int)), (8, .rop [i64 bb.fr, i64 bb.wd, i64 bb.lo, i64 bb.hi] 0), (9, .rop [i64 ((H : Nat) : Int), i64 ((Z : Nat) : Int), .ros ((givQ Z H ls bb (a % ls.length)).map boxesL) ((givQ Z H ls bb (a % ls.length)).length) none] 0), (12, i64 ((kinQ Z H ls[(a % ls.length)] bb : Nat) : Int)), (13, .bool (nb && ((decide (((i : Nat) : Int) = ((a % ls.length : Nat) : Int))) || (decide (((kinQ Z H ls[i] bb : Nat) : Int) = 0))))), (14, i64 ((i : Nat) : Int))], [], 0, []⟩ ?_ ?_
      · refine W_reg rfl ?_
        refine Rv rfl rfl rfl (U_move rfl) rfl rfl ?_
        refine Rv rfl rfl rfl (U_move rfl) rfl rfl ?_
        refine Rsplit (t := 190) rfl (fun hg9 => ?_) (fun hg9 => ?_)
        · rw [hg9]
          refine Rv rfl rfl rfl (U_move rfl) rfl rfl ?_
          refine Rv rfl rfl rfl (U_move rfl) rfl rfl ?_
          refine Rv rfl rfl rfl (U_eql rfl rfl) rfl rfl ?_
          refine Rv rfl rfl rfl (U_move rfl) rfl rfl ?_
          refine Rsplit (t := 194) rfl (fun hg10 => ?_) (fun hg10 => ?_)
          · rw [hg10]
            have hg10' : ((i : Nat) : Int) = ((a % ls.length : Nat) : Int) := of_decide_eq_true hg10
            refine Rs rfl rfl rfl rfl rfl ?_
            refine Rs rfl rfl rfl rfl rfl ?_
            refine Rv rfl rfl rfl (U_pick_t rfl rfl) rfl rfl ?_
            refine Rv rfl rfl rfl (U_pick_t rfl rfl) rfl rfl ?_
            refine Rv rfl rfl rfl (U_assign rfl) rfl rfl ?_
            refine Re rfl ?_
            exact joinTo id ⟨eD rfl rfl, eD rfl rfl, eD rfl rfl, eD rfl rfl, eD rfl rfl, eD rfl rfl, eD rfl rfl, trivial⟩ trivial rfl rfl rfl rfl (fun _ _ => rfl)
          · rw [hg10]
            have hg10' : ¬ (((i : Nat) : Int) = ((a % ls.length : Nat) : Int)) := of_decide_eq_false hg10
            refine Rv rfl rfl rfl (U_move rfl) rfl rfl ?_
            refine Rv rfl rfl rfl (U_eql rfl rfl) rfl rfl ?_
            refine Rv rfl rfl rfl (U_pick_f rfl rfl) rfl rfl ?_
            refine Rv rfl rfl rfl (U_pick_t rfl rfl) rfl rfl ?_
            refine Rv rfl rfl rfl (U_assign rfl) rfl rfl ?_
            refine Re rfl ?_
            exact joinTo id ⟨eD rfl rfl, eD rfl rfl, eD rfl rfl, eD rfl rfl, eD rfl rfl, eD rfl rfl, eD rfl rfl, trivial⟩ trivial rfl rfl rfl rfl (fun _ _ => rfl)
        · rw [hg9]
          refine Rs rfl rfl rfl rfl rfl ?_
          refine Rs rfl rfl rfl rfl rfl ?_
          refine Rs rfl rfl rfl rfl rfl ?_
          refine Rs rfl rfl rfl rfl rfl ?_
          refine Rs rfl rfl rfl rfl rfl ?_
          refine Rs rfl rfl rfl rfl rfl ?_
          refine Rs rfl rfl rfl rfl rfl ?_
          refine Rv rfl rfl rfl (U_pick_f rfl rfl) rfl rfl ?_
          refine Rv rfl rfl rfl (U_assign rfl) rfl rfl ?_
          refine Re rfl ?_
          exact joinTo id ⟨eD rfl rfl, eD rfl rfl, eD rfl rfl, eD rfl rfl, eD rfl rfl, eD rfl rfl, eD rfl rfl, trivial⟩ trivial rfl rfl rfl rfl (fun _ _ => rfl)
      refine blkQ_n ?_
      refine thenQ_n ?_
      refine W_reg rfl ?_
      refine Rv rfl rfl rfl (U_move rfl) rfl rfl ?_
      refine Rv rfl rfl rfl (U_add rfl rfl (w64e (m := ((i + 1 : Nat) : Int)) (by omega) (by omega) (by omega))) rfl rfl ?_
      refine Rv rfl rfl rfl (U_assign rfl) rfl rfl ?_
      refine Re rfl ?_
      refine thenQ_n ?_
      exact againTo (T' := [(3, .rop [i64 ((H : Nat) : Int), i64 ((Z : Nat) : Int), .ros (ls.map boxesL) ls.length c] 0), (7, i64 ((a % ls.length : Nat) : Int)), (8, .rop [i64 bb.fr, i64 bb.wd, i64 bb.lo, i64 bb.hi] 0), (9, .rop [i64 ((H : Nat) : Int), i64 ((Z : Nat) : Int), .ros ((givQ Z H ls bb (a % ls.length)).map boxesL) ((givQ Z H ls bb (a % ls.length)).length) none] 0), (12, i64 ((kinQ Z H ls[(a % ls.length)] bb : Nat) : Int)), (13, .bool (nb && ((decide (((i : Nat) : Int) = ((a % ls.length : Nat) : Int))) || (decide (((kinQ Z H ls[i] bb : Nat) : Int) = 0))))), (14, i64 (((i + 1) : Nat) : Int))]) (H' := []) (n := 0) (ls.length - (i + 1)) ⟨i + 1, nb && ((decide (((i : Nat) : Int) = ((a % ls.length : Nat) : Int))) || (decide (((kinQ Z H ls[i] bb : Nat) : Int) = 0))), (by omega), (nonK_step (by omega) hi0_1), rfl, rfl⟩ (by omega) id ⟨eD rfl rfl, eD rfl rfl, eD rfl rfl, eD rfl rfl, eD rfl rfl, eD rfl rfl, eD rfl rfl, trivial⟩ trivial rfl rfl rfl rfl (fun _ _ => rfl)
    · have hil : i = ls.length := by omega
      rw [hil] at hi0_1
      refine W_exit rfl ?_
      refine thenQ_x ?_
      refine thenQ_x ?_
      refine blkQ_x rfl ?_
      refine thenQ_n ?_
      refine W_seq rfl ?_
      refine W_seq rfl ?_
      refine Wjoin ⟨[(3, .rop [i64 ((H : Nat) : Int), i64 ((Z : Nat) : Int), .ros (ls.map boxesL) ls.length c] 0), (9, .rop [i64 ((H : Nat) : Int), i64 ((Z : Nat) : Int), .ros ((givQ Z H ls bb (a % ls.length)).map boxesL) ((givQ Z H ls bb (a % ls.length)).length) none] 0), (203, .bool ((decide (((kinQ Z H ls[(a % ls.length)] bb : Nat) : Int) = 2)) && nb))], [], 0, []⟩ ?_ ?_
      · refine W_reg rfl ?_
        refine Rv rfl rfl rfl (U_move rfl) rfl rfl ?_
        refine Rv rfl rfl rfl (U_eql rfl rfl) rfl rfl ?_
        refine Rv rfl rfl rfl (U_move rfl) rfl rfl ?_
        refine Rsplit (t := 201) rfl (fun hg11 => ?_) (fun hg11 => ?_)
        · rw [hg11]
          have hg11' : ((kinQ Z H ls[(a % ls.length)] bb : Nat) : Int) = 2 := of_decide_eq_true hg11
          refine Rv rfl rfl rfl (U_move rfl) rfl rfl ?_
          refine Rv rfl rfl rfl (U_pick_t rfl rfl) rfl rfl ?_
          refine Re rfl ?_
          exact joinTo id ⟨eD rfl rfl, eD rfl rfl, eD rfl rfl, trivial⟩ trivial rfl rfl rfl rfl (fun _ _ => rfl)
        · rw [hg11]
          have hg11' : ¬ (((kinQ Z H ls[(a % ls.length)] bb : Nat) : Int) = 2) := of_decide_eq_false hg11
          refine Rs rfl rfl rfl rfl rfl ?_
          refine Rv rfl rfl rfl (U_pick_f rfl rfl) rfl rfl ?_
          refine Re rfl ?_
          exact joinTo id ⟨eD rfl rfl, eD rfl rfl, eD rfl rfl, trivial⟩ trivial rfl rfl rfl rfl (fun _ _ => rfl)
      refine thenQ_n ?_
      refine Wcond rfl rfl (fun hc6 => ?_) (fun hc6 => ?_)
      · simp only [Bool.and_eq_true, decide_eq_true_eq] at hc6
        have hk2 : kinQ Z H ls[a % ls.length] bb = 2 := by omega
        have hnk : nonK Z H ls bb (a % ls.length) ls.length = true := by rw [← hi0_1]; exact hc6.2
        refine W_seq rfl ?_
        refine W_reg rfl ?_
        refine Rv rfl rfl rfl (U_assign rfl) rfl rfl ?_
        refine Re rfl ?_
        refine thenQ_n ?_
        refine W_block rfl ?_
        refine LoopTo (T' := [(3, .rop [i64 ((H : Nat) : Int), i64 ((Z : Nat) : Int), .ros (ls.map boxesL) ls.length c] 0), (9, .rop [i64 ((H : Nat) : Int), i64 ((Z : Nat) : Int), .ros ((givQ Z H ls bb (a % ls.length)).map boxesL) ((givQ Z H ls bb (a % ls.length)).length) none] 0), (23, i64 ((0 : Nat) : Int))]) (H' := []) (n := 0) rfl (fun mz_ qz_ => ∃ (k : Nat), k ≤ ls.length ∧ mz_ = ls.length - k ∧ qz_ = ⟨[(3, .rop [i64 ((H : Nat) : Int), i64 ((Z : Nat) : Int), .ros (ls.map boxesL) ls.length c] 0), (9, .rop [i64 ((H : Nat) : Int), i64 ((Z : Nat) : Int), .ros ((givQ Z H ls bb (a % ls.length)).map boxesL) ((givQ Z H ls bb (a % ls.length)).length) none] 0), (23, i64 ((k : Nat) : Int))], [], 0, []⟩) ⟨0, (by omega), rfl, rfl⟩ id ⟨eD rfl rfl, eD rfl rfl, eD rfl rfl, trivial⟩ trivial rfl rfl rfl rfl (fun _ _ => rfl) ?_
        rintro _ _ ⟨k, hi1_0, rfl, rfl⟩
        refine W_seq rfl ?_
        refine W_seq rfl ?_
        refine W_reg rfl ?_
        refine Rv rfl rfl rfl (U_move rfl) rfl rfl ?_
        refine Rv rfl rfl rfl (U_fieldAddrR rfl) rfl rfl ?_
        refine Rv rfl rfl rfl (U_load1 rfl rfl rfl) rfl rfl ?_
        refine Rv rfl rfl rfl (U_lenOf rfl len_ros) rfl rfl ?_
        refine Rv rfl rfl rfl (U_lss rfl rfl) rfl rfl ?_
        refine Re rfl ?_
        refine thenQ_n ?_
        refine WcondP rfl rfl (fun hc7 => ?_) (fun hc7 => ?_)
        · refine W_skip rfl ?_
          refine thenQ_n ?_
          refine W_seq rfl ?_
          refine W_block rfl ?_
          refine W_seq rfl ?_
          refine Wdraw rfl (by kernel_rfl) (by kernel_rfl) ?_
          refine Dv rfl rfl rfl (U_fieldAddrR rfl) rfl rfl ?_
          refine Dv rfl rfl rfl (U_load1 rfl rfl rfl) rfl rfl ?_
          refine Dv rfl rfl rfl (U_move rfl) rfl rfl ?_
          have hx12 : k < (givQ Z H ls bb (a % ls.length)).length := by omega
          refine Dv rfl rfl rfl (U_indexR (j := k) rfl rfl rfl hx12) rfl rfl ?_
          refine Dv rfl rfl rfl (U_load1 rfl rfl (getM hx12)) rfl rfl ?_
          refine Dv rfl rfl rfl (U_load3 rfl rfl rfl rfl rfl) rfl rfl ?_
          refine Dv rfl rfl rfl (U_move rfl) rfl rfl ?_
          refine Dv rfl rfl rfl (U_call rfl rfl (field_p H Z ls c hv k (by omega)) rfl) rfl rfl ?_
          refine Dv rfl rfl rfl (U_fieldAddrR rfl) rfl rfl ?_
          refine Dv rfl rfl rfl (U_load1 rfl rfl rfl) rfl rfl ?_
          refine Dv rfl rfl rfl (U_fieldAddrR rfl) rfl rfl ?_
          refine Dv rfl rfl rfl (U_load1 rfl rfl rfl) rfl rfl ?_
          refine Dv rfl rfl rfl (U_call rfl rfl (runsOf_p H Z (fldQ Z H ls[k]) (by rw [fldQ_len]) (inL' ls[k] H) fld_gf (by omega) (by omega)) rfl) rfl rfl ?_
          refine Dv rfl rfl rfl (U_call rfl rfl (samBT_p ((givQ Z H ls bb (a % ls.length))[k]) (rnsK H (inL' ls[k] H) Z) none none (vs_bl hv2 _ (List.getElem_mem _)) (Nat.le_trans (rnsK_len hH.1) (by omega)) (giv_same hhi hb (by omega) hk2 (nonK_get hnk) (by rw [givQ_len]; omega) (by omega))) rfl) rfl rfl ?_
          refine Dv rfl rfl rfl (U_not rfl) rfl rfl ?_
          refine Dr.nil rfl ?_
          refine thenQ_n ?_
          refine Wcond rfl rfl (fun h => nomatch h) (fun _ => ?_)
          refine W_skip rfl ?_
          refine blkQ_n ?_
          refine thenQ_n ?_
          refine W_reg rfl ?_
          refine Rv rfl rfl rfl (U_move rfl) rfl rfl ?_
          refine Rv rfl rfl rfl (U_add rfl rfl (w64e (m := ((k + 1 : Nat) : Int)) (by omega) (by omega) (by omega))) rfl rfl ?_
          refine Rv rfl rfl rfl (U_assign rfl) rfl rfl ?_
          refine Re rfl ?_
          refine thenQ_n ?_
          exact againTo (T' := [(3, .rop [i64 ((H : Nat) : Int), i64 ((Z : Nat) : Int), .ros (ls.map boxesL) ls.length c] 0), (9, .rop [i64 ((H : Nat) : Int), i64 ((Z : Nat) : Int), .ros ((givQ Z H ls bb (a % ls.length)).map boxesL) ((givQ Z H ls bb (a % ls.length)).length) none] 0), (23, i64 (((k + 1) : Nat) : Int))]) (H' := []) (n := 0) (ls.length - (k + 1)) ⟨k + 1, (by omega), rfl, rfl⟩ (by omega) id ⟨eD rfl rfl, eD rfl rfl, eD rfl rfl, trivial⟩ trivial rfl rfl rfl rfl (fun _ _ => rfl)
        · refine W_exit rfl ?_
          refine thenQ_x ?_
          refine thenQ_x ?_
          refine blkQ_x rfl ?_
          refine thenQ_n ?_
          refine W_seq rfl ?_
          refine W_reg rfl ?_
          refine Rv rfl rfl rfl (U_call rfl rfl (works_p) rfl) rfl rfl ?_
          refine Rv rfl rfl rfl (U_assign rfl) rfl rfl ?_
          refine Re rfl ?_
          refine thenQ_n ?_
          refine W_ret rfl ?_
          exact retL (rlT rfl rl0) rfl rfl
      · have hc6' := Bool.eq_false_iff.1 hc6
        refine W_skip rfl ?_
        refine thenQ_n ?_
        refine W_seq rfl ?_
        refine W_reg rfl ?_
        refine Rv rfl rfl rfl (U_call rfl rfl (works_p) rfl) rfl rfl ?_
        refine Rv rfl rfl rfl (U_assign rfl) rfl rfl ?_
        refine Re rfl ?_
        refine thenQ_n ?_
        refine W_ret rfl ?_
        exact retL (rlT rfl rl0) rfl rfl
theorem borderGiven_p (s : Sk) (c : Option Nat) (a : Nat) (ha : a < 256) (x0 x1 x2 x3 : Nat) (hx0 : x0 < 256) (hx1 : x1 < 256) (hx2 : x2 < 256) (hx3 : x3 < 256) : Pure Try.prog 10 [.agg [i64 s.h, i64 s.z, landsA s.ls c], .int .u8 (a : Nat), .agg [.int .u8 (x0 : Nat), .int .u8 (x1 : Nat), .int .u8 (x2 : Nat), .int .u8 (x3 : Nat)]] (.bool true) := by
  cases hf : (!grt s && decide (chkS s = 0)) with
  | false => exact borderGivenF_p s c hf a ha x0 x1 x2 x3 hx0 hx1 hx2 hx3
  | true =>
    simp only [Bool.and_eq_true, Bool.not_eq_true', decide_eq_true_eq] at hf
    obtain ⟨H, Z, ls, rfl, hv⟩ := sk_ok hf.2
    have hc := hf.2
    have hg := hf.1
    by_cases hn0 : ls = []
    · subst hn0; exact borderGiven0_p H Z c hc hg a ha x0 x1 x2 x3 hx0 hx1 hx2 hx3
    · have hn1 : 0 < ls.length := List.length_pos_iff.2 hn0
      have hi := boxW_is (x0 := x0) (x1 := x1) (x2 := x2) (x3 := x3) hv.h1.1 hv.z1.1
      cases hn : fltQ Z H ls with
      | none => exact borderGiven1_p H Z ls c hc hv hg hn1 a ha x0 x1 x2 x3 hx0 hx1 hx2 hx3 _ rfl hi hn
      | some p => exact borderGiven2_p H Z ls c hc hv hg hn1 a ha x0 x1 x2 x3 hx0 hx1 hx2 hx3 _ rfl hi p hn
end Go.Proofs.Ythlolelbmhfdbaa
end
