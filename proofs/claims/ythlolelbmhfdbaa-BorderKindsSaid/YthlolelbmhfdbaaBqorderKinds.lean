import Derived.IntWalk
import Derived.Test.YthlolelbmhfdbaaM5
set_option linter.all false
section
namespace Go.AE
open Go.RowKit
section
variable {ρ : Env} {Φ : Fz} {w : World}
end
section
variable {C : Ctx} {o : Oper} {T : AT} {H : AH} {nx nx' : Nat} {v : AV} {ups : AH}
end
section ops
variable {C : Ctx} {T : AT} {H : AH} {nx : Nat} {d : Option Tmp} {ty : TypeId} {pos : String} {after : Array Edge} {g : Option (Nat × Bool)}
section num
variable {x y : Operand} {k : IntKind} {a b c : Int} {t t' : TypeId}
theorem U_mul (hx : ev T x = some (.int k a)) (hy : ev T y = some (.int k b)) (hc : k.wrap (a * b) = c) : OpU C ⟨d, .binOp .mul t x y t', ty, pos, after, g⟩ T H nx (.int k c) [] nx :=
  binInt hx hy rfl (by simp) fun w => ⟨.int k c, by simp [binOp, Op.intArith, hc], fun _ _ => mk_int⟩
theorem U_quo (hx : ev T x = some (.int k a)) (hy : ev T y = some (.int k b)) (h0 : b ≠ 0) (hc : k.wrap (a.tdiv b) = c) : OpU C ⟨d, .binOp .quo t x y t', ty, pos, after, g⟩ T H nx (.int k c) [] nx :=
  binInt hx hy rfl (by simp) fun w => ⟨.int k c, by simp [binOp, Op.intDiv, h0, hc], fun _ _ => mk_int⟩
end num
end ops
end Go.AE
end

section
namespace Go.AE
open Go.RowKit
section
variable {C : Ctx} {ρ : Env} {Φ : Fz} {H : AH} {w : World}
end
section ops
variable {C : Ctx} {T : AT} {H : AH} {nx : Nat} {d : Option Tmp} {ty : TypeId} {pos : String} {after : Array Edge} {g : Option (Nat × Bool)}
theorem len_slice {b o n c : Nat} : ∀ (ρ : Env) Φ w y, Con ρ Φ w (.slice b o n c) y → ∃ a k, y = .slice a n k := fun _ _ _ _ h => by simp only [Con] at h; obtain ⟨_, _, h⟩ := h; exact ⟨_, _, h⟩
end ops
end Go.AE
end

section
namespace Go.AE
open Go.RowKit
section ops
variable {C : Ctx} {T : AT} {H : AH} {nx : Nat} {d : Option Tmp} {ty : TypeId} {pos : String} {after : Array Edge} {g : Option (Nat × Bool)}
theorem U_min {x y : Operand} {k : IntKind} {a b m : Int} {ts : Array TypeId} (hx : ev T x = some (.int k a)) (hy : ev T y = some (.int k b)) (hm : min a b = m) : OpU C ⟨d, .call ⟨.builtin .min, #[x, y], ts⟩, ty, pos, after, g⟩ T H nx (.int k m) [] nx :=
  OpU.of_value (by intro c; simp) fun ρ Φ ac w h2 _ => by
    refine ⟨.int k m, ?_, mk_int⟩
    have : (if b < a then b else a) = m := by rw [← hm]; split <;> omega
    simp [execOp, resolve, invoke, builtin, Builtin.min_, con_int (ev_con h2 hx), con_int (ev_con h2 hy), Builtin.min2, this]
end ops
section steps
variable {C : Ctx} {T : AT} {H : AH} {nx : Nat} {df : List Nat} {ops : Array Oper} {i : Nat} {K : St → Prop} {o : Oper} {v : AV} {ups : AH} {nx' t : Nat} {c : Bool}
end steps
section dsteps
variable {C : Ctx} {kl : Oper → Nat} {ops : List Oper} {ms : List Nat} {H0 : AH} {K : AT → AH → Nat → Prop} {i : Nat} {T : AT} {D : List (Nat × AH)} {nx nx' t : Nat} {o : Oper} {v : AV} {ups : AH} {c : Bool}
end dsteps
section codes
variable {C : Ctx} {c : Code} {Q : Exit → St → Prop} {T : AT} {H : AH} {nx : Nat} {df : List Nat}
end codes
section ops
variable {C : Ctx} {T : AT} {H : AH} {nx : Nat} {d : Option Tmp} {ty : TypeId} {pos : String} {after : Array Edge} {g : Option (Nat × Bool)}
theorem U_sliceR {t e z n l h : Nat} {c : Option Nat} {x : Operand} {lo hi : Option Operand} {cs : List AV} [hT : TySl C.P t e z] (hx : ev T x = some (.ros cs n c)) (hlo : BndIs T lo 0 l) (hhi : BndIs T hi n h) (h1 : l < h) (h2 : h ≤ n) :
    OpU C ⟨d, .slice t x lo hi none, ty, pos, after, g⟩ T H nx (.ros (cs.drop (l * z)) (h - l) (c.map (· - l))) [] nx :=
  OpU.of_value (by intro c; simp) fun ρ Φ a w h3 _ => by
    have hp := ev_con h3 hx
    simp only [Con] at hp
    obtain ⟨r, base, xs, k, e1, e2, e3, e4, e5, e6, e7⟩ := hp.resolve_left fun h => by omega
    refine ⟨.slice (some ⟨r, base + l * z, none⟩) (h - l) (k - l), ?_, ?_⟩
    · have := run_sliceAt (P := C.P) (w := w) (t := t) (ad := some ⟨r, base, none⟩) (n := n) (k := k) (l := l) (h := h) (m := k) (bndIs_con h3 hlo) (bndIs_con h3 hhi) (mx := none) rfl (by omega) (by omega) (Nat.le_refl _)
      rw [if_neg (by omega)] at this
      simp only [execOp, e2, Sem.run_bind, Option.map_none, this, Result.andThen_ok, Sem.run_pure, Option.map_some, add_at]
    · simp only [Con]
      refine .inr ⟨r, base + l * z, xs.drop (l * z), k - l, e1, rfl, by omega, fun m hm => ?_, conL_drop _ e5, fun i v hi => ?_, dataL_drop e7 _⟩
      · cases c with
        | none => cases hm
        | some c => cases hm; rw [e4 c rfl]
      · rw [List.getElem?_drop] at hi
        rw [Nat.add_assoc]; exact e6 _ _ hi
end ops
end Go.AE
end

section
namespace Go.AE
open Go.RowKit
section
variable {C : Ctx} {c : Code} {Q : Exit → St → Prop} {T T' : AT} {H H' : AH} {nx : Nat} {df : List Nat} {cs : List AV} {t : TypeId}
end
section ops
variable {C : Ctx} {T : AT} {H : AH} {nx : Nat} {d : Option Tmp} {ty : TypeId} {pos : String} {after : Array Edge} {g : Option (Nat × Bool)}
end ops
theorem setM {α : Type} {g : α → AV} {l : List α} {k : Nat} {x : α} : setC (l.map g) (0 + k * 1) [g x] = (l.set k x).map g := by simp [setC, List.map_set]
end Go.AE
end

section
namespace Go.AE
open Go.RowKit
theorem tdivN (a b : Nat) : (a : Int).tdiv b = ((a / b : Nat) : Int) := by rw [Int.tdiv_eq_ediv_of_nonneg (by omega)]; rfl
theorem wquoN {a b : Nat} (h : a ≤ 9223372036854775807) : IntKind.i64.wrap ((a : Int).tdiv b) = ((a / b : Nat) : Int) := by
  rw [tdivN]; have := Nat.div_le_self a b; generalize a / b = q at *; exact w64 (by omega) (by omega)
section
variable {P : Program} {T : AT} {H : AH} {nx : Nat}
end
section ops
variable {C : Ctx} {T : AT} {H : AH} {nx : Nat} {d : Option Tmp} {ty : TypeId} {pos : String} {after : Array Edge} {g : Option (Nat × Bool)}
end ops
end Go.AE
end

section
namespace Go.AE
open Go.RowKit
section ops
variable {C : Ctx} {T : AT} {H : AH} {nx : Nat} {d : Option Tmp} {ty : TypeId} {pos : String} {after : Array Edge} {g : Option (Nat × Bool)}
end ops
theorem rMD {σ σ' : Nat → Nat} {n b : Nat} {cs : List AV} {t : TypeId} {H : AH} (hd : dataL cs) (h : gt H (σ b) = (some (.cells cs t) : Option ABlk).map (ABlk.ren σ')) (hb : b.blt n = true) : rowTo σ n b (some (.cells cs t)) H :=
  rD hd (by rw [h]; simp only [Option.map_some, ABlk.ren, renL_data cs hd]) hb
end Go.AE
end

section
namespace Go.AE
open Go.RowKit
section
variable {C : Ctx} {T : AT} {H : AH} {nx : Nat} {d : Option Tmp} {ty : TypeId} {pos : String} {after : Array Edge} {g : Option (Nat × Bool)}
theorem U_eqlS {t t' : TypeId} {x y : Operand} {k : IntKind} {a : Int} (hx : ev T x = some (.int k a)) (hy : ev T y = some (.int k a)) : OpU C ⟨d, .binOp .eql t x y t', ty, pos, after, g⟩ T H nx (.bool true) [] nx := by
  have h := U_eql (C := C) (t := t) (t' := t') (d := d) (ty := ty) (pos := pos) (after := after) (g := g) (H := H) (nx := nx) hx hy
  rwa [decide_eq_true rfl] at h
theorem U_neqS {t t' : TypeId} {x y : Operand} {k : IntKind} {a : Int} (hx : ev T x = some (.int k a)) (hy : ev T y = some (.int k a)) : OpU C ⟨d, .binOp .neq t x y t', ty, pos, after, g⟩ T H nx (.bool false) [] nx := by
  have h := U_neq (C := C) (t := t) (t' := t') (d := d) (ty := ty) (pos := pos) (after := after) (g := g) (H := H) (nx := nx) hx hy
  rwa [decide_eq_false (fun k => k rfl)] at h
theorem U_sliceRL {t e z n l h : Nat} {c : Option Nat} {x : Operand} {lo hi : Option Operand} {cs cs' : List AV} [hT : TySl C.P t e z] (hx : ev T x = some (.ros cs n c)) (hlo : BndIs T lo 0 l) (hhi : BndIs T hi n h) (h1 : l < h) (h2 : h ≤ n) (hc : cs.drop (l * z) = cs') :
    OpU C ⟨d, .slice t x lo hi none, ty, pos, after, g⟩ T H nx (.ros cs' (h - l) (c.map (· - l))) [] nx := by
  subst hc; exact U_sliceR hx hlo hhi h1 h2
end
end Go.AE
end

section
namespace Go.AE
open Go.RowKit
section
variable {C : Ctx} {T : AT} {H : AH} {nx : Nat} {d : Option Tmp} {ty : TypeId} {pos : String} {after : Array Edge} {g : Option (Nat × Bool)}
theorem stLt {α : Type} {f : α → AV} {l : List α} {j : Nat} (h : j < l.length) : 0 + j * 1 + 1 ≤ (l.map f).length := by simp; omega
end
end Go.AE
end

section
namespace Go.Proofs.Ythlolelbmhfdbaa
set_option maxRecDepth 20000
open Go.AE
theorem any_false {α : Type} {p : α → Bool} {l : List α} (h : ∀ j (hj : j < l.length), p l[j] = false) : l.any p = false := by
  rw [List.any_eq_false]; intro x hx; obtain ⟨j, hj, rfl⟩ := List.getElem_of_mem hx; rw [h j hj]; simp
end Go.Proofs.Ythlolelbmhfdbaa
end

section
namespace Go.Proofs.Ythlolelbmhfdbaa
set_option maxRecDepth 20000
open Go.AE
theorem any_f {α : Type} {p : α → Bool} {l : List α} (h : ∀ j (hj : j < l.length), p l[j] = false) : l.any p = false := any_false h
theorem bef_succ {α : Type} {p : α → Bool} {l : List α} {k : Nat} (h : ∀ j (hj : j < l.length), j < k → p l[j] = false) (hk : k < l.length) (hp : p l[k] = false) : ∀ j (hj : j < l.length), j < k + 1 → p l[j] = false := fun j hj h2 => by
  rcases Nat.lt_succ_iff_lt_or_eq.1 h2 with h2 | rfl
  · exact h j hj h2
  · exact hp
theorem isBR_p (b : Bx) (H Z : Int) (hH : 1 ≤ H ∧ H ≤ 48) (hZ : 1 ≤ Z ∧ Z ≤ 24) : Pure Try.prog 74 [bxA b, i64 H, i64 Z] (.bool (isB b H Z)) := by
  refine pure_of_body Try.func74 (c := body Try.f74) rfl (by simp [Try.ntmps74]) fun w0 Φ0 => ?_
  refine W_seq rfl ?_
  refine W_reg rfl ?_
  refine Rv rfl rfl rfl (U_boxF rfl rfl rfl) rfl rfl ?_
  refine Rv rfl rfl rfl (U_assign rfl) rfl rfl ?_
  refine Re rfl ?_
  refine thenQ_n ?_
  refine W_seq rfl ?_
  refine W_seq rfl ?_
  refine Wjoin ⟨[(2, i64 Z), (3, .rop [i64 b.fr, i64 b.wd, i64 b.lo, i64 b.hi] 0), (26, .bool ((decide (b.fr < 0)) || ((decide (H ≤ b.fr)) || ((decide (b.wd < 1)) || (decide (H < b.wd))))))], [], 0, []⟩ ?_ ?_
  · refine W_reg rfl ?_
    refine Rv rfl rfl rfl (U_fieldAddrR rfl) rfl rfl ?_
    refine Rv rfl rfl rfl (U_load1 rfl rfl rfl) rfl rfl ?_
    refine Rv rfl rfl rfl (U_lss rfl rfl) rfl rfl ?_
    refine Rv rfl rfl rfl (U_move rfl) rfl rfl ?_
    refine Rsplit (t := 10) rfl (fun hg1 => ?_) (fun hg1 => ?_)
    · rw [hg1]
      have hg1' : b.fr < 0 := of_decide_eq_true hg1
      refine Rs rfl rfl rfl rfl rfl ?_
      refine Rs rfl rfl rfl rfl rfl ?_
      refine Rs rfl rfl rfl rfl rfl ?_
      refine Rs rfl rfl rfl rfl rfl ?_
      refine Rv rfl rfl rfl (U_pick_t rfl rfl) rfl rfl ?_
      refine Rv rfl rfl rfl (U_move rfl) rfl rfl ?_
      refine Rs rfl rfl rfl rfl rfl ?_
      refine Rs rfl rfl rfl rfl rfl ?_
      refine Rs rfl rfl rfl rfl rfl ?_
      refine Rv rfl rfl rfl (U_pick_t rfl rfl) rfl rfl ?_
      refine Rv rfl rfl rfl (U_move rfl) rfl rfl ?_
      refine Rs rfl rfl rfl rfl rfl ?_
      refine Rs rfl rfl rfl rfl rfl ?_
      refine Rs rfl rfl rfl rfl rfl ?_
      refine Rs rfl rfl rfl rfl rfl ?_
      refine Rv rfl rfl rfl (U_pick_t rfl rfl) rfl rfl ?_
      refine Re rfl ?_
      exact joinTo id ⟨eD rfl rfl, eD rfl rfl, eD rfl rfl, trivial⟩ trivial rfl rfl rfl rfl (fun _ _ => rfl)
    · rw [hg1]
      have hg1' : ¬ (b.fr < 0) := of_decide_eq_false hg1
      refine Rv rfl rfl rfl (U_fieldAddrR rfl) rfl rfl ?_
      refine Rv rfl rfl rfl (U_load1 rfl rfl rfl) rfl rfl ?_
      refine Rv rfl rfl rfl (U_move rfl) rfl rfl ?_
      refine Rv rfl rfl rfl (U_geq rfl rfl) rfl rfl ?_
      refine Rv rfl rfl rfl (U_pick_f rfl rfl) rfl rfl ?_
      refine Rv rfl rfl rfl (U_move rfl) rfl rfl ?_
      refine Rsplit (t := 16) rfl (fun hg2 => ?_) (fun hg2 => ?_)
      · rw [hg2]
        have hg2' : H ≤ b.fr := of_decide_eq_true hg2
        refine Rs rfl rfl rfl rfl rfl ?_
        refine Rs rfl rfl rfl rfl rfl ?_
        refine Rs rfl rfl rfl rfl rfl ?_
        refine Rv rfl rfl rfl (U_pick_t rfl rfl) rfl rfl ?_
        refine Rv rfl rfl rfl (U_move rfl) rfl rfl ?_
        refine Rs rfl rfl rfl rfl rfl ?_
        refine Rs rfl rfl rfl rfl rfl ?_
        refine Rs rfl rfl rfl rfl rfl ?_
        refine Rs rfl rfl rfl rfl rfl ?_
        refine Rv rfl rfl rfl (U_pick_t rfl rfl) rfl rfl ?_
        refine Re rfl ?_
        exact joinTo id ⟨eD rfl rfl, eD rfl rfl, eD rfl rfl, trivial⟩ trivial rfl rfl rfl rfl (fun _ _ => rfl)
      · rw [hg2]
        have hg2' : ¬ (H ≤ b.fr) := of_decide_eq_false hg2
        refine Rv rfl rfl rfl (U_fieldAddrR rfl) rfl rfl ?_
        refine Rv rfl rfl rfl (U_load1 rfl rfl rfl) rfl rfl ?_
        refine Rv rfl rfl rfl (U_lss rfl rfl) rfl rfl ?_
        refine Rv rfl rfl rfl (U_pick_f rfl rfl) rfl rfl ?_
        refine Rv rfl rfl rfl (U_move rfl) rfl rfl ?_
        refine Rsplit (t := 21) rfl (fun hg3 => ?_) (fun hg3 => ?_)
        · rw [hg3]
          have hg3' : b.wd < 1 := of_decide_eq_true hg3
          refine Rs rfl rfl rfl rfl rfl ?_
          refine Rs rfl rfl rfl rfl rfl ?_
          refine Rs rfl rfl rfl rfl rfl ?_
          refine Rs rfl rfl rfl rfl rfl ?_
          refine Rv rfl rfl rfl (U_pick_t rfl rfl) rfl rfl ?_
          refine Re rfl ?_
          exact joinTo id ⟨eD rfl rfl, eD rfl rfl, eD rfl rfl, trivial⟩ trivial rfl rfl rfl rfl (fun _ _ => rfl)
        · rw [hg3]
          have hg3' : ¬ (b.wd < 1) := of_decide_eq_false hg3
          refine Rv rfl rfl rfl (U_fieldAddrR rfl) rfl rfl ?_
          refine Rv rfl rfl rfl (U_load1 rfl rfl rfl) rfl rfl ?_
          refine Rv rfl rfl rfl (U_move rfl) rfl rfl ?_
          refine Rv rfl rfl rfl (U_gtr rfl rfl) rfl rfl ?_
          refine Rv rfl rfl rfl (U_pick_f rfl rfl) rfl rfl ?_
          refine Re rfl ?_
          exact joinTo id ⟨eD rfl rfl, eD rfl rfl, eD rfl rfl, trivial⟩ trivial rfl rfl rfl rfl (fun _ _ => rfl)
  refine thenQ_n ?_
  refine Wcond rfl rfl (fun hc0 => ?_) (fun hc0 => ?_)
  · refine W_seq rfl ?_
    refine W_reg rfl ?_
    refine Rv rfl rfl rfl (U_assign rfl) rfl rfl ?_
    refine Re rfl ?_
    refine thenQ_n ?_
    refine W_ret rfl ?_
    refine thenQ_r ?_
    exact retL (rlT rfl rl0) (by first | rfl | (simp only [packA]; congr 1; symm; unfold isB; rw [inL1, inL1, inL1, inL1, Bool.eq_false_iff]; intro h; simp at h hc0; omega; first | done | rfl) | (simp only [packA]; congr 1; unfold isB; rw [inL1, inL1, inL1, inL1, Bool.eq_iff_iff]; simp at hc0 ⊢; omega; first | done | rfl)) rfl
  · have hc0' := Bool.eq_false_iff.1 hc0
    refine W_skip rfl ?_
    refine thenQ_n ?_
    refine W_seq rfl ?_
    refine Wjoin ⟨[(6, .bool ((decide (0 ≤ b.lo)) && ((decide (b.lo < b.hi)) && (decide (b.hi ≤ Z)))))], [], 0, []⟩ ?_ ?_
    · refine W_reg rfl ?_
      refine Rv rfl rfl rfl (U_fieldAddrR rfl) rfl rfl ?_
      refine Rv rfl rfl rfl (U_load1 rfl rfl rfl) rfl rfl ?_
      refine Rv rfl rfl rfl (U_geq rfl rfl) rfl rfl ?_
      refine Rv rfl rfl rfl (U_move rfl) rfl rfl ?_
      refine Rsplit (t := 30) rfl (fun hg4 => ?_) (fun hg4 => ?_)
      · rw [hg4]
        have hg4' : 0 ≤ b.lo := of_decide_eq_true hg4
        refine Rv rfl rfl rfl (U_fieldAddrR rfl) rfl rfl ?_
        refine Rv rfl rfl rfl (U_load1 rfl rfl rfl) rfl rfl ?_
        refine Rv rfl rfl rfl (U_fieldAddrR rfl) rfl rfl ?_
        refine Rv rfl rfl rfl (U_load1 rfl rfl rfl) rfl rfl ?_
        refine Rv rfl rfl rfl (U_lss rfl rfl) rfl rfl ?_
        refine Rv rfl rfl rfl (U_pick_t rfl rfl) rfl rfl ?_
        refine Rv rfl rfl rfl (U_move rfl) rfl rfl ?_
        refine Rsplit (t := 37) rfl (fun hg5 => ?_) (fun hg5 => ?_)
        · rw [hg5]
          have hg5' : b.lo < b.hi := of_decide_eq_true hg5
          refine Rv rfl rfl rfl (U_fieldAddrR rfl) rfl rfl ?_
          refine Rv rfl rfl rfl (U_load1 rfl rfl rfl) rfl rfl ?_
          refine Rv rfl rfl rfl (U_move rfl) rfl rfl ?_
          refine Rv rfl rfl rfl (U_leq rfl rfl) rfl rfl ?_
          refine Rv rfl rfl rfl (U_pick_t rfl rfl) rfl rfl ?_
          refine Rv rfl rfl rfl (U_assign rfl) rfl rfl ?_
          refine Re rfl ?_
          exact joinTo id ⟨eD rfl rfl, trivial⟩ trivial rfl rfl rfl rfl (fun _ _ => rfl)
        · rw [hg5]
          have hg5' : ¬ (b.lo < b.hi) := of_decide_eq_false hg5
          refine Rs rfl rfl rfl rfl rfl ?_
          refine Rs rfl rfl rfl rfl rfl ?_
          refine Rs rfl rfl rfl rfl rfl ?_
          refine Rs rfl rfl rfl rfl rfl ?_
          refine Rv rfl rfl rfl (U_pick_f rfl rfl) rfl rfl ?_
          refine Rv rfl rfl rfl (U_assign rfl) rfl rfl ?_
          refine Re rfl ?_
          exact joinTo id ⟨eD rfl rfl, trivial⟩ trivial rfl rfl rfl rfl (fun _ _ => rfl)
      · rw [hg4]
        have hg4' : ¬ (0 ≤ b.lo) := of_decide_eq_false hg4
        refine Rs rfl rfl rfl rfl rfl ?_
        refine Rs rfl rfl rfl rfl rfl ?_
        refine Rs rfl rfl rfl rfl rfl ?_
        refine Rs rfl rfl rfl rfl rfl ?_
        refine Rs rfl rfl rfl rfl rfl ?_
        refine Rv rfl rfl rfl (U_pick_f rfl rfl) rfl rfl ?_
        refine Rv rfl rfl rfl (U_move rfl) rfl rfl ?_
        refine Rs rfl rfl rfl rfl rfl ?_
        refine Rs rfl rfl rfl rfl rfl ?_
        refine Rs rfl rfl rfl rfl rfl ?_
        refine Rs rfl rfl rfl rfl rfl ?_
        refine Rv rfl rfl rfl (U_pick_f rfl rfl) rfl rfl ?_
        refine Rv rfl rfl rfl (U_assign rfl) rfl rfl ?_
        refine Re rfl ?_
        exact joinTo id ⟨eD rfl rfl, trivial⟩ trivial rfl rfl rfl rfl (fun _ _ => rfl)
    refine thenQ_n ?_
    refine W_ret rfl ?_
    exact retL (rlT rfl rl0) (by first | rfl | (simp only [packA]; congr 1; symm; unfold isB; rw [inL1, inL1, inL1, inL1, Bool.eq_false_iff]; intro h; simp at h hc0; omega; first | done | rfl) | (simp only [packA]; congr 1; unfold isB; rw [inL1, inL1, inL1, inL1, Bool.eq_iff_iff]; simp at hc0 ⊢; omega; first | done | rfl)) rfl
theorem chkSR_p (s : Sk) (c : Option Nat) (hl : s.ls.length ≤ 1000000) (hbl : ∀ l ∈ s.ls, l.length ≤ 1000000) : Pure Try.prog 23 [.agg [i64 s.h, i64 s.z, landsA s.ls c]] (i64 (chkS s)) := by
  refine pure_of_body Try.func23 (c := body Try.f23) rfl (by simp [Try.ntmps23]) fun w0 Φ0 => ?_
  refine W_seq rfl ?_
  refine W_reg rfl ?_
  refine Rv rfl rfl rfl (U_boxF rfl rfl rfl) rfl rfl ?_
  refine Rv rfl rfl rfl (U_assign rfl) rfl rfl ?_
  refine Re rfl ?_
  refine thenQ_n ?_
  refine W_seq rfl ?_
  refine W_seq rfl ?_
  refine Wjoin ⟨[(1, .rop [i64 s.h, i64 s.z, .ros (s.ls.map boxesL) s.ls.length c] 0), (23, .bool ((decide (s.h < 1)) || ((decide (48 < s.h)) || ((decide (s.z < 1)) || (decide (24 < s.z))))))], [], 0, []⟩ ?_ ?_
  · refine W_reg rfl ?_
    refine Rv rfl rfl rfl (U_fieldAddrR rfl) rfl rfl ?_
    refine Rv rfl rfl rfl (U_load1 rfl rfl rfl) rfl rfl ?_
    refine Rv rfl rfl rfl (U_lss rfl rfl) rfl rfl ?_
    refine Rv rfl rfl rfl (U_move rfl) rfl rfl ?_
    refine Rsplit (t := 9) rfl (fun hg1 => ?_) (fun hg1 => ?_)
    · rw [hg1]
      have hg1' : s.h < 1 := of_decide_eq_true hg1
      refine Rs rfl rfl rfl rfl rfl ?_
      refine Rs rfl rfl rfl rfl rfl ?_
      refine Rs rfl rfl rfl rfl rfl ?_
      refine Rv rfl rfl rfl (U_pick_t rfl rfl) rfl rfl ?_
      refine Rv rfl rfl rfl (U_move rfl) rfl rfl ?_
      refine Rs rfl rfl rfl rfl rfl ?_
      refine Rs rfl rfl rfl rfl rfl ?_
      refine Rs rfl rfl rfl rfl rfl ?_
      refine Rv rfl rfl rfl (U_pick_t rfl rfl) rfl rfl ?_
      refine Rv rfl rfl rfl (U_move rfl) rfl rfl ?_
      refine Rs rfl rfl rfl rfl rfl ?_
      refine Rs rfl rfl rfl rfl rfl ?_
      refine Rs rfl rfl rfl rfl rfl ?_
      refine Rv rfl rfl rfl (U_pick_t rfl rfl) rfl rfl ?_
      refine Re rfl ?_
      exact joinTo id ⟨eD rfl rfl, eD rfl rfl, trivial⟩ trivial rfl rfl rfl rfl (fun _ _ => rfl)
    · rw [hg1]
      have hg1' : ¬ (s.h < 1) := of_decide_eq_false hg1
      refine Rv rfl rfl rfl (U_fieldAddrR rfl) rfl rfl ?_
      refine Rv rfl rfl rfl (U_load1 rfl rfl rfl) rfl rfl ?_
      refine Rv rfl rfl rfl (U_gtr rfl rfl) rfl rfl ?_
      refine Rv rfl rfl rfl (U_pick_f rfl rfl) rfl rfl ?_
      refine Rv rfl rfl rfl (U_move rfl) rfl rfl ?_
      refine Rsplit (t := 14) rfl (fun hg2 => ?_) (fun hg2 => ?_)
      · rw [hg2]
        have hg2' : 48 < s.h := of_decide_eq_true hg2
        refine Rs rfl rfl rfl rfl rfl ?_
        refine Rs rfl rfl rfl rfl rfl ?_
        refine Rs rfl rfl rfl rfl rfl ?_
        refine Rv rfl rfl rfl (U_pick_t rfl rfl) rfl rfl ?_
        refine Rv rfl rfl rfl (U_move rfl) rfl rfl ?_
        refine Rs rfl rfl rfl rfl rfl ?_
        refine Rs rfl rfl rfl rfl rfl ?_
        refine Rs rfl rfl rfl rfl rfl ?_
        refine Rv rfl rfl rfl (U_pick_t rfl rfl) rfl rfl ?_
        refine Re rfl ?_
        exact joinTo id ⟨eD rfl rfl, eD rfl rfl, trivial⟩ trivial rfl rfl rfl rfl (fun _ _ => rfl)
      · rw [hg2]
        have hg2' : ¬ (48 < s.h) := of_decide_eq_false hg2
        refine Rv rfl rfl rfl (U_fieldAddrR rfl) rfl rfl ?_
        refine Rv rfl rfl rfl (U_load1 rfl rfl rfl) rfl rfl ?_
        refine Rv rfl rfl rfl (U_lss rfl rfl) rfl rfl ?_
        refine Rv rfl rfl rfl (U_pick_f rfl rfl) rfl rfl ?_
        refine Rv rfl rfl rfl (U_move rfl) rfl rfl ?_
        refine Rsplit (t := 19) rfl (fun hg3 => ?_) (fun hg3 => ?_)
        · rw [hg3]
          have hg3' : s.z < 1 := of_decide_eq_true hg3
          refine Rs rfl rfl rfl rfl rfl ?_
          refine Rs rfl rfl rfl rfl rfl ?_
          refine Rs rfl rfl rfl rfl rfl ?_
          refine Rv rfl rfl rfl (U_pick_t rfl rfl) rfl rfl ?_
          refine Re rfl ?_
          exact joinTo id ⟨eD rfl rfl, eD rfl rfl, trivial⟩ trivial rfl rfl rfl rfl (fun _ _ => rfl)
        · rw [hg3]
          have hg3' : ¬ (s.z < 1) := of_decide_eq_false hg3
          refine Rv rfl rfl rfl (U_fieldAddrR rfl) rfl rfl ?_
          refine Rv rfl rfl rfl (U_load1 rfl rfl rfl) rfl rfl ?_
          refine Rv rfl rfl rfl (U_gtr rfl rfl) rfl rfl ?_
          refine Rv rfl rfl rfl (U_pick_f rfl rfl) rfl rfl ?_
          refine Re rfl ?_
          exact joinTo id ⟨eD rfl rfl, eD rfl rfl, trivial⟩ trivial rfl rfl rfl rfl (fun _ _ => rfl)
  refine thenQ_n ?_
  refine Wcond rfl rfl (fun hc0 => ?_) (fun hc0 => ?_)
  · have hce : chkS s = 3 := by rw [chkS, if_pos (by rw [inL1, inL1]; simp at hc0 ⊢; omega)]
    refine W_seq rfl ?_
    refine W_reg rfl ?_
    refine Rv rfl rfl rfl (U_assign rfl) rfl rfl ?_
    refine Re rfl ?_
    refine thenQ_n ?_
    refine W_ret rfl ?_
    refine thenQ_r ?_
    exact retL (rlT rfl rl0) (by first | rfl | (simp only [packA]; rw [hce]; first | done | rfl)) rfl
  · have hc0' := Bool.eq_false_iff.1 hc0
    have hr : (1 ≤ s.h ∧ s.h ≤ 48) ∧ 1 ≤ s.z ∧ s.z ≤ 24 := by simp at hc0; omega
    obtain ⟨hh, hz⟩ := hr
    refine W_skip rfl ?_
    refine thenQ_n ?_
    refine W_seq rfl ?_
    refine W_seq rfl ?_
    refine W_reg rfl ?_
    refine Rv rfl rfl rfl (U_fieldAddrR rfl) rfl rfl ?_
    refine Rv rfl rfl rfl (U_load1 rfl rfl rfl) rfl rfl ?_
    refine Rv rfl rfl rfl (U_lenOf rfl len_ros) rfl rfl ?_
    refine Rv rfl rfl rfl (U_gtr rfl rfl) rfl rfl ?_
    refine Re rfl ?_
    refine thenQ_n ?_
    refine WcondP rfl rfl (fun hc1 => ?_) (fun hc1 => ?_)
    · have hce : chkS s = 6 := by rw [chkS, if_neg (by rw [inL1, inL1]; simp; omega), if_pos (by simp; omega)]
      refine W_seq rfl ?_
      refine W_reg rfl ?_
      refine Rv rfl rfl rfl (U_assign rfl) rfl rfl ?_
      refine Re rfl ?_
      refine thenQ_n ?_
      refine W_ret rfl ?_
      refine thenQ_r ?_
      exact retL (rlT rfl rl0) (by first | rfl | (simp only [packA]; rw [hce]; first | done | rfl)) rfl
    · refine W_skip rfl ?_
      refine thenQ_n ?_
      refine W_seq rfl ?_
      refine W_seq rfl ?_
      refine W_reg rfl ?_
      refine Rv rfl rfl rfl (U_assign rfl) rfl rfl ?_
      refine Re rfl ?_
      refine thenQ_n ?_
      refine W_block rfl ?_
      refine LoopTo (T' := [(1, .rop [i64 s.h, i64 s.z, .ros (s.ls.map boxesL) s.ls.length c] 0), (3, i64 ((0 : Nat) : Int))]) (H' := []) (n := 0) rfl (fun mz_ qz_ => ∃ (k : Nat), k ≤ s.ls.length ∧ (∀ j (hj : j < s.ls.length), j < k → decide ((600 : Int) < ((s.ls[j].length : Nat) : Int)) = false) ∧ mz_ = s.ls.length - k ∧ qz_ = ⟨[(1, .rop [i64 s.h, i64 s.z, .ros (s.ls.map boxesL) s.ls.length c] 0), (3, i64 ((k : Nat) : Int))], [], 0, []⟩) ⟨0, (by omega), (fun j hj h => absurd h (Nat.not_lt_zero _)), rfl, rfl⟩ id ⟨eD rfl rfl, eD rfl rfl, trivial⟩ trivial rfl rfl rfl rfl (fun _ _ => rfl) ?_
      rintro _ _ ⟨k, hi0_0, hi0_1, rfl, rfl⟩
      refine W_seq rfl ?_
      refine W_seq rfl ?_
      refine W_reg rfl ?_
      refine Rv rfl rfl rfl (U_move rfl) rfl rfl ?_
      refine Rv rfl rfl rfl (U_fieldAddrR rfl) rfl rfl ?_
      refine Rv rfl rfl rfl (U_load1 rfl rfl rfl) rfl rfl ?_
      refine Rv rfl rfl rfl (U_lenOf rfl len_ros) rfl rfl ?_
      refine Rv rfl rfl rfl (U_lss rfl rfl) rfl rfl ?_
      refine Re rfl ?_
      refine thenQ_n ?_
      refine WcondP rfl rfl (fun hc2 => ?_) (fun hc2 => ?_)
      · have hck : k < s.ls.length := by omega
        refine W_skip rfl ?_
        refine thenQ_n ?_
        refine W_seq rfl ?_
        refine W_block rfl ?_
        refine W_seq rfl ?_
        refine W_reg rfl ?_
        refine Rv rfl rfl rfl (U_fieldAddrR rfl) rfl rfl ?_
        refine Rv rfl rfl rfl (U_load1 rfl rfl rfl) rfl rfl ?_
        refine Rv rfl rfl rfl (U_move rfl) rfl rfl ?_
        have hx4 : k < s.ls.length := by omega
        refine Rv rfl rfl rfl (U_indexR (j := k) rfl rfl rfl hx4) rfl rfl ?_
        refine Rv rfl rfl rfl (U_load1 rfl rfl (getM hx4)) rfl rfl ?_
        refine Rv rfl rfl rfl (U_lenOf rfl len_ros) rfl rfl ?_
        refine Rv rfl rfl rfl (U_gtr rfl rfl) rfl rfl ?_
        refine Re rfl ?_
        refine thenQ_n ?_
        refine WcondP rfl rfl (fun hc3 => ?_) (fun hc3 => ?_)
        · have h600 : (s.ls.any fun l => decide ((600 : Int) < ((l.length : Nat) : Int))) = true := any_true hck (by simpa using hc3)
          have hce : chkS s = 6 := by rw [chkS, if_neg (by rw [inL1, inL1]; simp; omega), if_pos (by rw [h600]; simp)]
          refine W_seq rfl ?_
          refine W_reg rfl ?_
          refine Rv rfl rfl rfl (U_assign rfl) rfl rfl ?_
          refine Re rfl ?_
          refine thenQ_n ?_
          refine W_ret rfl ?_
          refine blkQ_r ?_
          refine thenQ_r ?_
          refine thenQ_r ?_
          refine blkQ_r ?_
          refine thenQ_r ?_
          exact retL (rlT rfl rl0) (by first | rfl | (simp only [packA]; rw [hce]; first | done | rfl)) rfl
        · refine W_skip rfl ?_
          refine blkQ_n ?_
          refine thenQ_n ?_
          refine W_reg rfl ?_
          refine Rv rfl rfl rfl (U_move rfl) rfl rfl ?_
          refine Rv rfl rfl rfl (U_add rfl rfl (w64e (m := ((k + 1 : Nat) : Int)) (by omega) (by omega) (by omega))) rfl rfl ?_
          refine Rv rfl rfl rfl (U_assign rfl) rfl rfl ?_
          refine Re rfl ?_
          refine thenQ_n ?_
          exact againTo (T' := [(1, .rop [i64 s.h, i64 s.z, .ros (s.ls.map boxesL) s.ls.length c] 0), (3, i64 (((k + 1) : Nat) : Int))]) (H' := []) (n := 0) (s.ls.length - (k + 1)) ⟨k + 1, (by omega), (bef_succ (p := fun l : List Bx => decide ((600 : Int) < ((l.length : Nat) : Int))) hi0_1 hck (by simp; omega)), rfl, rfl⟩ (by omega) id ⟨eD rfl rfl, eD rfl rfl, trivial⟩ trivial rfl rfl rfl rfl (fun _ _ => rfl)
      · have h600 : (s.ls.any fun l => decide ((600 : Int) < ((l.length : Nat) : Int))) = false := any_f fun j hj => hi0_1 j hj (by omega)
        refine W_exit rfl ?_
        refine thenQ_x ?_
        refine thenQ_x ?_
        refine blkQ_x rfl ?_
        refine thenQ_n ?_
        refine W_seq rfl ?_
        refine W_seq rfl ?_
        refine W_reg rfl ?_
        refine Rv rfl rfl rfl (U_assign rfl) rfl rfl ?_
        refine Re rfl ?_
        refine thenQ_n ?_
        refine W_block rfl ?_
        refine LoopTo (T' := [(1, .rop [i64 s.h, i64 s.z, .ros (s.ls.map boxesL) s.ls.length c] 0), (4, i64 ((0 : Nat) : Int))]) (H' := []) (n := 0) rfl (fun mz_ qz_ => ∃ (m : Nat), m ≤ s.ls.length ∧ (∀ j (hj : j < s.ls.length), j < m → (s.ls[j].any fun b => !isB b s.h s.z) = false) ∧ mz_ = s.ls.length - m ∧ qz_ = ⟨[(1, .rop [i64 s.h, i64 s.z, .ros (s.ls.map boxesL) s.ls.length c] 0), (4, i64 ((m : Nat) : Int))], [], 0, []⟩) ⟨0, (by omega), (fun j hj h => absurd h (Nat.not_lt_zero _)), rfl, rfl⟩ id ⟨eD rfl rfl, eD rfl rfl, trivial⟩ trivial rfl rfl rfl rfl (fun _ _ => rfl) ?_
        rintro _ _ ⟨m, hi1_0, hi1_1, rfl, rfl⟩
        refine W_seq rfl ?_
        refine W_seq rfl ?_
        refine W_reg rfl ?_
        refine Rv rfl rfl rfl (U_move rfl) rfl rfl ?_
        refine Rv rfl rfl rfl (U_fieldAddrR rfl) rfl rfl ?_
        refine Rv rfl rfl rfl (U_load1 rfl rfl rfl) rfl rfl ?_
        refine Rv rfl rfl rfl (U_lenOf rfl len_ros) rfl rfl ?_
        refine Rv rfl rfl rfl (U_lss rfl rfl) rfl rfl ?_
        refine Re rfl ?_
        refine thenQ_n ?_
        refine WcondP rfl rfl (fun hc4 => ?_) (fun hc4 => ?_)
        · have hcm : m < s.ls.length := by omega
          have hbm := hbl _ (List.getElem_mem hcm)
          refine W_skip rfl ?_
          refine thenQ_n ?_
          refine W_seq rfl ?_
          refine W_block rfl ?_
          refine W_seq rfl ?_
          refine W_reg rfl ?_
          refine Rv rfl rfl rfl (U_assign rfl) rfl rfl ?_
          refine Re rfl ?_
          refine thenQ_n ?_
          refine W_block rfl ?_
          refine LoopTo (T' := [(1, .rop [i64 s.h, i64 s.z, .ros (s.ls.map boxesL) s.ls.length c] 0), (4, i64 ((m : Nat) : Int)), (5, i64 ((0 : Nat) : Int))]) (H' := []) (n := 0) rfl (fun mz_ qz_ => ∃ (i : Nat), i ≤ s.ls[m].length ∧ (∀ j (hj : j < s.ls[m].length), j < i → (!isB s.ls[m][j] s.h s.z) = false) ∧ mz_ = s.ls[m].length - i ∧ qz_ = ⟨[(1, .rop [i64 s.h, i64 s.z, .ros (s.ls.map boxesL) s.ls.length c] 0), (4, i64 ((m : Nat) : Int)), (5, i64 ((i : Nat) : Int))], [], 0, []⟩) ⟨0, (by omega), (fun j hj h => absurd h (Nat.not_lt_zero _)), rfl, rfl⟩ id ⟨eD rfl rfl, eD rfl rfl, eD rfl rfl, trivial⟩ trivial rfl rfl rfl rfl (fun _ _ => rfl) ?_
          rintro _ _ ⟨i, hi2_0, hi2_1, rfl, rfl⟩
          refine W_seq rfl ?_
          refine W_seq rfl ?_
          refine W_reg rfl ?_
          refine Rv rfl rfl rfl (U_move rfl) rfl rfl ?_
          refine Rv rfl rfl rfl (U_fieldAddrR rfl) rfl rfl ?_
          refine Rv rfl rfl rfl (U_load1 rfl rfl rfl) rfl rfl ?_
          refine Rv rfl rfl rfl (U_move rfl) rfl rfl ?_
          have hx5 : m < s.ls.length := by omega
          refine Rv rfl rfl rfl (U_indexR (j := m) rfl rfl rfl hx5) rfl rfl ?_
          refine Rv rfl rfl rfl (U_load1 rfl rfl (getM hx5)) rfl rfl ?_
          refine Rv rfl rfl rfl (U_lenOf rfl len_ros) rfl rfl ?_
          refine Rv rfl rfl rfl (U_lss rfl rfl) rfl rfl ?_
          refine Re rfl ?_
          refine thenQ_n ?_
          refine WcondP rfl rfl (fun hc5 => ?_) (fun hc5 => ?_)
          · have hci : i < s.ls[m].length := by omega
            refine W_skip rfl ?_
            refine thenQ_n ?_
            refine W_seq rfl ?_
            refine W_block rfl ?_
            refine W_seq rfl ?_
            refine Wdraw rfl (by kernel_rfl) (by kernel_rfl) ?_
            refine Dv rfl rfl rfl (U_fieldAddrR rfl) rfl rfl ?_
            refine Dv rfl rfl rfl (U_load1 rfl rfl rfl) rfl rfl ?_
            refine Dv rfl rfl rfl (U_move rfl) rfl rfl ?_
            refine Dv rfl rfl rfl (U_indexR (j := m) rfl rfl rfl hx5) rfl rfl ?_
            refine Dv rfl rfl rfl (U_load1 rfl rfl (getM hx5)) rfl rfl ?_
            refine Dv rfl rfl rfl (U_move rfl) rfl rfl ?_
            have hx6 : i < s.ls[m].length := by omega
            refine Dv rfl rfl rfl (U_indexR (j := i) rfl rfl rfl hx6) rfl rfl ?_
            refine Dv rfl rfl rfl (U_load4 rfl rfl (bxG0 hx6) (bxG1 hx6) (bxG2 hx6) (bxG3 hx6)) rfl rfl ?_
            refine Dv rfl rfl rfl (U_fieldAddrR rfl) rfl rfl ?_
            refine Dv rfl rfl rfl (U_load1 rfl rfl rfl) rfl rfl ?_
            refine Dv rfl rfl rfl (U_fieldAddrR rfl) rfl rfl ?_
            refine Dv rfl rfl rfl (U_load1 rfl rfl rfl) rfl rfl ?_
            refine Dv rfl rfl rfl (U_call rfl rfl (isBR_p (s.ls[m][i]) s.h s.z (by assumption) (by assumption)) rfl) rfl rfl ?_
            refine Dv rfl rfl rfl (U_not rfl) rfl rfl ?_
            refine Dr.nil rfl ?_
            refine thenQ_n ?_
            refine Wcond rfl rfl (fun hc6 => ?_) (fun hc6 => ?_)
            · have hst : (s.ls.any fun l => l.any fun b => !isB b s.h s.z) = true := any_true hcm (any_true hci (by simpa using hc6))
              have hce : chkS s = 2 := by rw [chkS, if_neg (by rw [inL1, inL1]; simp; omega), if_neg (by rw [h600]; simp; omega), if_pos hst]
              refine W_seq rfl ?_
              refine W_reg rfl ?_
              refine Rv rfl rfl rfl (U_assign rfl) rfl rfl ?_
              refine Re rfl ?_
              refine thenQ_n ?_
              refine W_ret rfl ?_
              refine blkQ_r ?_
              refine thenQ_r ?_
              refine thenQ_r ?_
              refine blkQ_r ?_
              refine blkQ_r ?_
              refine thenQ_r ?_
              refine thenQ_r ?_
              refine blkQ_r ?_
              refine thenQ_r ?_
              exact retL (rlT rfl rl0) (by first | rfl | (simp only [packA]; rw [hce]; first | done | rfl)) rfl
            · have hc6' := Bool.eq_false_iff.1 hc6
              refine W_skip rfl ?_
              refine blkQ_n ?_
              refine thenQ_n ?_
              refine W_reg rfl ?_
              refine Rv rfl rfl rfl (U_move rfl) rfl rfl ?_
              refine Rv rfl rfl rfl (U_add rfl rfl (w64e (m := ((i + 1 : Nat) : Int)) (by omega) (by omega) (by omega))) rfl rfl ?_
              refine Rv rfl rfl rfl (U_assign rfl) rfl rfl ?_
              refine Re rfl ?_
              refine thenQ_n ?_
              exact againTo (T' := [(1, .rop [i64 s.h, i64 s.z, .ros (s.ls.map boxesL) s.ls.length c] 0), (4, i64 ((m : Nat) : Int)), (5, i64 (((i + 1) : Nat) : Int))]) (H' := []) (n := 0) (s.ls[m].length - (i + 1)) ⟨i + 1, (by omega), (bef_succ (p := fun b : Bx => !isB b s.h s.z) hi2_1 hci (by simpa using hc6)), rfl, rfl⟩ (by omega) id ⟨eD rfl rfl, eD rfl rfl, eD rfl rfl, trivial⟩ trivial rfl rfl rfl rfl (fun _ _ => rfl)
          · have hla : (s.ls[m].any fun b => !isB b s.h s.z) = false := any_f fun j hj => hi2_1 j hj (by omega)
            refine W_exit rfl ?_
            refine thenQ_x ?_
            refine thenQ_x ?_
            refine blkQ_x rfl ?_
            refine blkQ_n ?_
            refine thenQ_n ?_
            refine W_reg rfl ?_
            refine Rv rfl rfl rfl (U_move rfl) rfl rfl ?_
            refine Rv rfl rfl rfl (U_add rfl rfl (w64e (m := ((m + 1 : Nat) : Int)) (by omega) (by omega) (by omega))) rfl rfl ?_
            refine Rv rfl rfl rfl (U_assign rfl) rfl rfl ?_
            refine Re rfl ?_
            refine thenQ_n ?_
            exact againTo (T' := [(1, .rop [i64 s.h, i64 s.z, .ros (s.ls.map boxesL) s.ls.length c] 0), (4, i64 (((m + 1) : Nat) : Int))]) (H' := []) (n := 0) (s.ls.length - (m + 1)) ⟨m + 1, (by omega), (bef_succ (p := fun l : List Bx => l.any fun b => !isB b s.h s.z) hi1_1 hcm hla), rfl, rfl⟩ (by omega) id ⟨eD rfl rfl, eD rfl rfl, trivial⟩ trivial rfl rfl rfl rfl (fun _ _ => rfl)
        · have hst : (s.ls.any fun l => l.any fun b => !isB b s.h s.z) = false := any_f fun j hj => hi1_1 j hj (by omega)
          have hce : chkS s = 0 := by rw [chkS, if_neg (by rw [inL1, inL1]; simp; omega), if_neg (by rw [h600]; simp; omega), if_neg (by rw [hst]; simp)]
          refine W_exit rfl ?_
          refine thenQ_x ?_
          refine thenQ_x ?_
          refine blkQ_x rfl ?_
          refine thenQ_n ?_
          refine W_seq rfl ?_
          refine W_reg rfl ?_
          refine Rv rfl rfl rfl (U_assign rfl) rfl rfl ?_
          refine Re rfl ?_
          refine thenQ_n ?_
          refine W_ret rfl ?_
          exact retL (rlT rfl rl0) (by first | rfl | (simp only [packA]; rw [hce]; first | done | rfl)) rfl
end Go.Proofs.Ythlolelbmhfdbaa
end

section
namespace Go.Proofs.Ythlolelbmhfdbaa
set_option maxRecDepth 20000
open Go.AE
theorem opS1 {s : Sk} {a : Int} (h : chkS s = 0) : opS s [a] = if 0 ≤ a ∧ a < s.ls.length then 0 else 2 := by
  rw [opS, if_neg (by simpa using h), inL1]
  by_cases h2 : 0 ≤ a ∧ a < s.ls.length
  · rw [if_pos h2, if_pos (by simp; omega)]
  · rw [if_neg h2, if_neg (by simp; omega)]
theorem landed_p (s : Sk) (c : Option Nat) (hl : s.ls.length ≤ 1000000) (hbl : ∀ l ∈ s.ls, l.length ≤ 1000000) (a : Int) : Pure Try.prog 77 [.agg [i64 s.h, i64 s.z, landsA s.ls c], i64 a] (i64 (opS s [a])) := by
  refine pure_of_body Try.func77 (c := body Try.f77) rfl (by simp [Try.ntmps77]) fun w0 Φ0 => ?_
  refine W_seq rfl ?_
  refine W_reg rfl ?_
  refine Rv rfl rfl rfl (U_boxF rfl rfl rfl) rfl rfl ?_
  refine Rv rfl rfl rfl (U_assign rfl) rfl rfl ?_
  refine Re rfl ?_
  refine thenQ_n ?_
  refine W_seq rfl ?_
  refine W_seq rfl ?_
  refine W_reg rfl ?_
  refine Rv rfl rfl rfl (U_load3 rfl rfl rfl rfl rfl) rfl rfl ?_
  refine Rv rfl rfl rfl (U_call rfl rfl (chkSR_p s c hl hbl) rfl) rfl rfl ?_
  refine Rv rfl rfl rfl (U_neq rfl rfl) rfl rfl ?_
  refine Re rfl ?_
  refine thenQ_n ?_
  refine WcondP rfl rfl (fun hc0 => ?_) (fun hc0 => ?_)
  · refine W_seq rfl ?_
    refine W_reg rfl ?_
    refine Rv rfl rfl rfl (U_load3 rfl rfl rfl rfl rfl) rfl rfl ?_
    refine Rv rfl rfl rfl (U_call rfl rfl (chkSR_p s c hl hbl) rfl) rfl rfl ?_
    refine Rv rfl rfl rfl (U_assign rfl) rfl rfl ?_
    refine Re rfl ?_
    refine thenQ_n ?_
    refine W_ret rfl ?_
    refine thenQ_r ?_
    exact retL (rlT rfl rl0) (by first | rfl | (simp only [packA]; rw [opS, if_pos hc0]; first | done | rfl) | (simp only [packA]; rw [opS1 (by simpa using hc0), if_neg (by simp at hc1; omega)]; first | done | rfl) | (simp only [packA]; rw [opS1 (by simpa using hc0), if_pos (by simp at hc1; omega)]; first | done | rfl)) rfl
  · rw [Decidable.not_not] at hc0
    refine W_skip rfl ?_
    refine thenQ_n ?_
    refine W_seq rfl ?_
    refine W_seq rfl ?_
    refine Wjoin ⟨[(18, .bool ((decide (a < 0)) || (decide (((s.ls.length : Nat) : Int) ≤ a))))], [], 0, []⟩ ?_ ?_
    · refine W_reg rfl ?_
      refine Rv rfl rfl rfl (U_move rfl) rfl rfl ?_
      refine Rv rfl rfl rfl (U_lss rfl rfl) rfl rfl ?_
      refine Rv rfl rfl rfl (U_move rfl) rfl rfl ?_
      refine Rsplit (t := 12) rfl (fun hg1 => ?_) (fun hg1 => ?_)
      · rw [hg1]
        have hg1' : a < 0 := of_decide_eq_true hg1
        refine Rs rfl rfl rfl rfl rfl ?_
        refine Rs rfl rfl rfl rfl rfl ?_
        refine Rs rfl rfl rfl rfl rfl ?_
        refine Rs rfl rfl rfl rfl rfl ?_
        refine Rs rfl rfl rfl rfl rfl ?_
        refine Rv rfl rfl rfl (U_pick_t rfl rfl) rfl rfl ?_
        refine Re rfl ?_
        exact joinTo id ⟨eD rfl rfl, trivial⟩ trivial rfl rfl rfl rfl (fun _ _ => rfl)
      · rw [hg1]
        have hg1' : ¬ (a < 0) := of_decide_eq_false hg1
        refine Rv rfl rfl rfl (U_move rfl) rfl rfl ?_
        refine Rv rfl rfl rfl (U_fieldAddrR rfl) rfl rfl ?_
        refine Rv rfl rfl rfl (U_load1 rfl rfl rfl) rfl rfl ?_
        refine Rv rfl rfl rfl (U_lenOf rfl len_ros) rfl rfl ?_
        refine Rv rfl rfl rfl (U_geq rfl rfl) rfl rfl ?_
        refine Rv rfl rfl rfl (U_pick_f rfl rfl) rfl rfl ?_
        refine Re rfl ?_
        exact joinTo id ⟨eD rfl rfl, trivial⟩ trivial rfl rfl rfl rfl (fun _ _ => rfl)
    refine thenQ_n ?_
    refine Wcond rfl rfl (fun hc1 => ?_) (fun hc1 => ?_)
    · refine W_seq rfl ?_
      refine W_reg rfl ?_
      refine Rv rfl rfl rfl (U_assign rfl) rfl rfl ?_
      refine Re rfl ?_
      refine thenQ_n ?_
      refine W_ret rfl ?_
      refine thenQ_r ?_
      exact retL (rlT rfl rl0) (by first | rfl | (simp only [packA]; rw [opS, if_pos hc0]; first | done | rfl) | (simp only [packA]; rw [opS1 (by simpa using hc0), if_neg (by simp at hc1; omega)]; first | done | rfl) | (simp only [packA]; rw [opS1 (by simpa using hc0), if_pos (by simp at hc1; omega)]; first | done | rfl)) rfl
    · have hc1' := Bool.eq_false_iff.1 hc1
      refine W_skip rfl ?_
      refine thenQ_n ?_
      refine W_seq rfl ?_
      refine W_reg rfl ?_
      refine Rv rfl rfl rfl (U_assign rfl) rfl rfl ?_
      refine Re rfl ?_
      refine thenQ_n ?_
      refine W_ret rfl ?_
      exact retL (rlT rfl rl0) (by first | rfl | (simp only [packA]; rw [opS, if_pos hc0]; first | done | rfl) | (simp only [packA]; rw [opS1 (by simpa using hc0), if_neg (by simp at hc1; omega)]; first | done | rfl) | (simp only [packA]; rw [opS1 (by simpa using hc0), if_pos (by simp at hc1; omega)]; first | done | rfl)) rfl
end Go.Proofs.Ythlolelbmhfdbaa
end

section
namespace Go.Proofs.Ythlolelbmhfdbaa
set_option maxRecDepth 20000
open Go.AE
theorem inBoxR_p (b : Bx) (H z h : Nat) (hH : 1 ≤ H ∧ H ≤ 48) (hf : 0 ≤ b.fr ∧ b.fr < H) (hh : h < H) : Pure Try.prog 92 [bxA b, i64 (H : Nat), i64 (h : Nat), i64 (z : Nat)] (.bool (inN b H z h)) := by
  refine pure_of_body Try.func92 (c := body Try.f92) rfl (by simp [Try.ntmps92]) fun w0 Φ0 => ?_
  refine W_seq rfl ?_
  refine W_reg rfl ?_
  refine Rv rfl rfl rfl (U_boxF rfl rfl rfl) rfl rfl ?_
  refine Rv rfl rfl rfl (U_assign rfl) rfl rfl ?_
  refine Re rfl ?_
  refine thenQ_n ?_
  refine W_seq rfl ?_
  refine Wjoin ⟨[(8, .bool ((decide ((((((h : Nat) : Int) - b.fr) + ((H : Nat) : Int)) % ((H : Nat) : Int)) < b.wd)) && ((decide (b.lo ≤ ((z : Nat) : Int))) && (decide (((z : Nat) : Int) < b.hi)))))], [], 0, []⟩ ?_ ?_
  · refine Wdraw rfl (by kernel_rfl) (by kernel_rfl) ?_
    refine Dv rfl rfl rfl (U_move rfl) rfl rfl ?_
    refine Dv rfl rfl rfl (U_fieldAddrR rfl) rfl rfl ?_
    refine Dv rfl rfl rfl (U_load1 rfl rfl rfl) rfl rfl ?_
    refine Dv rfl rfl rfl (U_sub rfl rfl (w64 (by omega) (by omega))) rfl rfl ?_
    refine Dv rfl rfl rfl (U_move rfl) rfl rfl ?_
    refine Dv rfl rfl rfl (U_add rfl rfl (w64 (by omega) (by omega))) rfl rfl ?_
    refine Dv rfl rfl rfl (U_move rfl) rfl rfl ?_
    refine Dv rfl rfl rfl (U_rem (c := (((((h : Nat) : Int) - b.fr) + ((H : Nat) : Int)) % ((H : Nat) : Int))) rfl rfl (by omega) (tmodP (by omega))) rfl rfl ?_
    refine Dv rfl rfl rfl (U_fieldAddrR rfl) rfl rfl ?_
    refine Dv rfl rfl rfl (U_load1 rfl rfl rfl) rfl rfl ?_
    refine Dv rfl rfl rfl (U_lss rfl rfl) rfl rfl ?_
    refine Dv rfl rfl rfl (U_move rfl) rfl rfl ?_
    refine Dsplit (t := 20) rfl (fun hg1 => ?_) (fun hg1 => ?_)
    · rw [hg1]
      have hg1' : (((((h : Nat) : Int) - b.fr) + ((H : Nat) : Int)) % ((H : Nat) : Int)) < b.wd := of_decide_eq_true hg1
      refine Dv rfl rfl rfl (U_move rfl) rfl rfl ?_
      refine Dv rfl rfl rfl (U_fieldAddrR rfl) rfl rfl ?_
      refine Dv rfl rfl rfl (U_load1 rfl rfl rfl) rfl rfl ?_
      refine Dv rfl rfl rfl (U_geq rfl rfl) rfl rfl ?_
      refine Dv rfl rfl rfl (U_pick_t rfl rfl) rfl rfl ?_
      refine Dv rfl rfl rfl (U_move rfl) rfl rfl ?_
      refine Dsplit (t := 26) rfl (fun hg2 => ?_) (fun hg2 => ?_)
      · rw [hg2]
        have hg2' : b.lo ≤ ((z : Nat) : Int) := of_decide_eq_true hg2
        refine Dv rfl rfl rfl (U_move rfl) rfl rfl ?_
        refine Dv rfl rfl rfl (U_fieldAddrR rfl) rfl rfl ?_
        refine Dv rfl rfl rfl (U_load1 rfl rfl rfl) rfl rfl ?_
        refine Dv rfl rfl rfl (U_lss rfl rfl) rfl rfl ?_
        refine Dv rfl rfl rfl (U_pick_t rfl rfl) rfl rfl ?_
        refine Dv rfl rfl rfl (U_assign rfl) rfl rfl ?_
        refine Dr.nil rfl ?_
        exact joinTo id ⟨eD rfl rfl, trivial⟩ trivial rfl rfl rfl rfl (fun _ _ => rfl)
      · rw [hg2]
        have hg2' : ¬ (b.lo ≤ ((z : Nat) : Int)) := of_decide_eq_false hg2
        refine Ds rfl rfl rfl rfl rfl ?_
        refine Ds rfl rfl rfl rfl rfl ?_
        refine Ds rfl rfl rfl rfl rfl ?_
        refine Ds rfl rfl rfl rfl rfl ?_
        refine Dv rfl rfl rfl (U_pick_f rfl rfl) rfl rfl ?_
        refine Dv rfl rfl rfl (U_assign rfl) rfl rfl ?_
        refine Dr.nil rfl ?_
        exact joinTo id ⟨eD rfl rfl, trivial⟩ trivial rfl rfl rfl rfl (fun _ _ => rfl)
    · rw [hg1]
      have hg1' : ¬ ((((((h : Nat) : Int) - b.fr) + ((H : Nat) : Int)) % ((H : Nat) : Int)) < b.wd) := of_decide_eq_false hg1
      refine Ds rfl rfl rfl rfl rfl ?_
      refine Ds rfl rfl rfl rfl rfl ?_
      refine Ds rfl rfl rfl rfl rfl ?_
      refine Ds rfl rfl rfl rfl rfl ?_
      refine Dv rfl rfl rfl (U_pick_f rfl rfl) rfl rfl ?_
      refine Dv rfl rfl rfl (U_move rfl) rfl rfl ?_
      refine Ds rfl rfl rfl rfl rfl ?_
      refine Ds rfl rfl rfl rfl rfl ?_
      refine Ds rfl rfl rfl rfl rfl ?_
      refine Ds rfl rfl rfl rfl rfl ?_
      refine Dv rfl rfl rfl (U_pick_f rfl rfl) rfl rfl ?_
      refine Dv rfl rfl rfl (U_assign rfl) rfl rfl ?_
      refine Dr.nil rfl ?_
      exact joinTo id ⟨eD rfl rfl, trivial⟩ trivial rfl rfl rfl rfl (fun _ _ => rfl)
  refine thenQ_n ?_
  refine W_ret rfl ?_
  exact retL (rlT rfl rl0) (by first | rfl | (simp only [packA]; congr 1; rw [Bool.eq_iff_iff]; simp only [inN, Bool.and_eq_true, decide_eq_true_eq]; simp; omega; first | done | rfl)) rfl
theorem inR_p (H Z : Nat) (ls : List (List Bx)) (c : Option Nat) (hv : VS ⟨H, Z, ls⟩ H Z) (a z h : Nat) (ha : a < ls.length) (hh : h < H) : Pure Try.prog 94 [.agg [i64 (H : Nat), i64 (Z : Nat), landsA ls c], i64 (a : Nat), i64 (h : Nat), i64 (z : Nat)] (.bool (inL' ls[a] H z h)) := by
  have hv' := hv
  obtain ⟨_, _, hH, hZ1, hln, hlb, hbx⟩ := hv'
  simp only at hln hlb hbx
  have hZ := hZ1.2
  have hHZ : Z * H ≤ 1152 := Nat.mul_le_mul hZ hH.2
  have hHZc : H * Z = Z * H := Nat.mul_comm _ _
  have hlba := hlb _ (List.getElem_mem ha)
  refine pure_of_body Try.func94 (c := body Try.f94) rfl (by simp [Try.ntmps94]) fun w0 Φ0 => ?_
  refine W_seq rfl ?_
  refine W_reg rfl ?_
  refine Rv rfl rfl rfl (U_boxF rfl rfl rfl) rfl rfl ?_
  refine Rv rfl rfl rfl (U_assign rfl) rfl rfl ?_
  refine Re rfl ?_
  refine thenQ_n ?_
  refine W_seq rfl ?_
  refine W_reg rfl ?_
  refine Rv rfl rfl rfl (U_fieldAddrR rfl) rfl rfl ?_
  refine Rv rfl rfl rfl (U_load1 rfl rfl rfl) rfl rfl ?_
  refine Rv rfl rfl rfl (U_move rfl) rfl rfl ?_
  have hx1 : a < ls.length := by omega
  refine Rv rfl rfl rfl (U_indexR (j := a) rfl rfl rfl hx1) rfl rfl ?_
  refine Rv rfl rfl rfl (U_load1 rfl rfl (getM hx1)) rfl rfl ?_
  refine Rv rfl rfl rfl (U_assign rfl) rfl rfl ?_
  refine Re rfl ?_
  refine thenQ_n ?_
  refine W_seq rfl ?_
  refine W_seq rfl ?_
  refine W_reg rfl ?_
  refine Rv rfl rfl rfl (U_assign rfl) rfl rfl ?_
  refine Re rfl ?_
  refine thenQ_n ?_
  refine W_block rfl ?_
  refine LoopTo (T' := [(2, i64 ((h : Nat) : Int)), (3, i64 ((z : Nat) : Int)), (4, .rop [i64 ((H : Nat) : Int), i64 ((Z : Nat) : Int), .ros (ls.map boxesL) ls.length c] 0), (9, .ros (ls[a].flatMap bxC) ls[a].length none), (10, i64 ((0 : Nat) : Int))]) (H' := []) (n := 0) rfl (fun mz_ qz_ => ∃ (k : Nat), k ≤ ls[a].length ∧ ((∀ j (hj : j < ls[a].length), j < k → inN ls[a][j] H z h = false)) ∧ mz_ = ls[a].length - k ∧ qz_ = ⟨[(2, i64 ((h : Nat) : Int)), (3, i64 ((z : Nat) : Int)), (4, .rop [i64 ((H : Nat) : Int), i64 ((Z : Nat) : Int), .ros (ls.map boxesL) ls.length c] 0), (9, .ros (ls[a].flatMap bxC) ls[a].length none), (10, i64 ((k : Nat) : Int))], [], 0, []⟩) ⟨0, (by omega), (fun j hj h => absurd h (Nat.not_lt_zero _)), rfl, rfl⟩ id ⟨eD rfl rfl, eD rfl rfl, eD rfl rfl, eD rfl rfl, eD rfl rfl, trivial⟩ trivial rfl rfl rfl rfl (fun _ _ => rfl) ?_
  rintro _ _ ⟨k, hi0_0, hi0_1, rfl, rfl⟩
  refine W_seq rfl ?_
  refine W_seq rfl ?_
  refine W_reg rfl ?_
  refine Rv rfl rfl rfl (U_move rfl) rfl rfl ?_
  refine Rv rfl rfl rfl (U_move rfl) rfl rfl ?_
  refine Rv rfl rfl rfl (U_lenOf rfl len_ros) rfl rfl ?_
  refine Rv rfl rfl rfl (U_lss rfl rfl) rfl rfl ?_
  refine Re rfl ?_
  refine thenQ_n ?_
  refine WcondP rfl rfl (fun hc0 => ?_) (fun hc0 => ?_)
  · have hck : k < ls[a].length := by omega
    have hbb := hbx _ (List.getElem_mem ha) _ (List.getElem_mem hck)
    refine W_skip rfl ?_
    refine thenQ_n ?_
    refine W_seq rfl ?_
    refine W_block rfl ?_
    refine W_seq rfl ?_
    refine Wdraw rfl (by kernel_rfl) (by kernel_rfl) ?_
    refine Dv rfl rfl rfl (U_move rfl) rfl rfl ?_
    refine Dv rfl rfl rfl (U_move rfl) rfl rfl ?_
    have hx2 : k < ls[a].length := by omega
    refine Dv rfl rfl rfl (U_indexR (j := k) rfl rfl rfl hx2) rfl rfl ?_
    refine Dv rfl rfl rfl (U_load4 rfl rfl (bxG0 hx2) (bxG1 hx2) (bxG2 hx2) (bxG3 hx2)) rfl rfl ?_
    refine Dv rfl rfl rfl (U_fieldAddrR rfl) rfl rfl ?_
    refine Dv rfl rfl rfl (U_load1 rfl rfl rfl) rfl rfl ?_
    refine Dv rfl rfl rfl (U_move rfl) rfl rfl ?_
    refine Dv rfl rfl rfl (U_move rfl) rfl rfl ?_
    refine Dv rfl rfl rfl (U_call rfl rfl (inBoxR_p (ls[a][k]) H z h (by omega) hbb.1 (by omega)) rfl) rfl rfl ?_
    refine Dr.nil rfl ?_
    refine thenQ_n ?_
    refine Wcond rfl rfl (fun hc1 => ?_) (fun hc1 => ?_)
    · refine W_seq rfl ?_
      refine W_reg rfl ?_
      refine Rv rfl rfl rfl (U_assign rfl) rfl rfl ?_
      refine Re rfl ?_
      refine thenQ_n ?_
      refine W_ret rfl ?_
      refine blkQ_r ?_
      refine thenQ_r ?_
      refine thenQ_r ?_
      refine blkQ_r ?_
      refine thenQ_r ?_
      exact retL (rlT rfl rl0) (by first | rfl | (simp only [packA]; rw [inL', show ls[a].any (fun b => inN b H z h) = true from any_true hck hc1]; simp [hh]; first | done | rfl) | (simp only [packA]; rw [inL', any_false fun j hj => hi0_1 j hj (by omega)]; simp; first | done | rfl)) rfl
    · have hc1' := Bool.eq_false_iff.1 hc1
      refine W_skip rfl ?_
      refine blkQ_n ?_
      refine thenQ_n ?_
      refine W_reg rfl ?_
      refine Rv rfl rfl rfl (U_move rfl) rfl rfl ?_
      refine Rv rfl rfl rfl (U_add rfl rfl (w64e (m := ((k + 1 : Nat) : Int)) (by omega) (by omega) (by omega))) rfl rfl ?_
      refine Rv rfl rfl rfl (U_assign rfl) rfl rfl ?_
      refine Re rfl ?_
      refine thenQ_n ?_
      exact againTo (T' := [(2, i64 ((h : Nat) : Int)), (3, i64 ((z : Nat) : Int)), (4, .rop [i64 ((H : Nat) : Int), i64 ((Z : Nat) : Int), .ros (ls.map boxesL) ls.length c] 0), (9, .ros (ls[a].flatMap bxC) ls[a].length none), (10, i64 (((k + 1) : Nat) : Int))]) (H' := []) (n := 0) (ls[a].length - (k + 1)) ⟨k + 1, (by omega), (by intro j hj h; rcases Nat.lt_succ_iff_lt_or_eq.1 h with h | rfl; exact hi0_1 j hj h; simpa using hc1), rfl, rfl⟩ (by omega) id ⟨eD rfl rfl, eD rfl rfl, eD rfl rfl, eD rfl rfl, eD rfl rfl, trivial⟩ trivial rfl rfl rfl rfl (fun _ _ => rfl)
  · refine W_exit rfl ?_
    refine thenQ_x ?_
    refine thenQ_x ?_
    refine blkQ_x rfl ?_
    refine thenQ_n ?_
    refine W_seq rfl ?_
    refine W_reg rfl ?_
    refine Rv rfl rfl rfl (U_assign rfl) rfl rfl ?_
    refine Re rfl ?_
    refine thenQ_n ?_
    refine W_ret rfl ?_
    exact retL (rlT rfl rl0) (by first | rfl | (simp only [packA]; rw [inL', show ls[a].any (fun b => inN b H z h) = true from any_true hck hc1]; simp [hh]; first | done | rfl) | (simp only [packA]; rw [inL', any_false fun j hj => hi0_1 j hj (by omega)]; simp; first | done | rfl)) rfl
abbrev fldA (l : List Nat) (n : Nat) : AV := .ros (l.map n64) n (some n)
def fldK (Z H : Nat) (l : List Bx) (m : Nat) : List Nat := (List.range (Z * H)).map fun i => if i < m then bitQ l H (i / H) (i % H) else 0
theorem fldK_len {Z H m : Nat} {l : List Bx} : (fldK Z H l m).length = Z * H := by simp [fldK]
theorem fldK_0 {Z H : Nat} {l : List Bx} : fldK Z H l 0 = List.replicate (H * Z) 0 := by
  apply List.ext_getElem (by simp [fldK, Nat.mul_comm])
  intro i h1 h2
  simp [fldK]
theorem fldK_all {Z H m : Nat} {l : List Bx} (h : Z * H ≤ m) : fldK Z H l m = fldQ Z H l := by
  refine List.map_congr_left fun i hi => ?_
  rw [if_pos (by have := List.mem_range.1 hi; omega)]
theorem zh_lt {Z H z h : Nat} (hz : z < Z) (hh : h < H) : z * H + h < Z * H := by
  have := Nat.mul_le_mul_right H (show z + 1 ≤ Z by omega)
  rw [Nat.add_mul] at this; omega
theorem fldK_t {Z H z h : Nat} {l : List Bx} (hz : z < Z) (hh : h < H) (e : inL' l H z h = true) : (fldK Z H l (z * H + h)).set (z * H + h) 1 = fldK Z H l (z * H + (h + 1)) := by
  apply List.ext_getElem (by simp [fldK])
  intro i h1 h2
  rw [List.getElem_set]
  have hd := zh_div (z := z) hh
  simp only [fldK, List.getElem_map, List.getElem_range]
  by_cases hi : z * H + h = i
  · subst hi; rw [if_pos rfl, if_pos (by omega), hd.1, hd.2, bitQ, if_pos e]
  · rw [if_neg hi]
    by_cases h3 : i < z * H + h
    · rw [if_pos h3, if_pos (by omega)]
    · rw [if_neg h3, if_neg (by omega)]
theorem fldK_f {Z H z h : Nat} {l : List Bx} (hz : z < Z) (hh : h < H) (e : ¬ inL' l H z h = true) : fldK Z H l (z * H + h) = fldK Z H l (z * H + (h + 1)) := by
  refine List.map_congr_left fun i hi => ?_
  have hd := zh_div (z := z) hh
  by_cases hi : z * H + h = i
  · subst hi; rw [if_neg (by omega), if_pos (by omega), hd.1, hd.2, bitQ, if_neg e]
  · by_cases h3 : i < z * H + h
    · rw [if_pos h3, if_pos (by omega)]
    · rw [if_neg h3, if_neg (by omega)]
theorem field_p (H Z : Nat) (ls : List (List Bx)) (c : Option Nat) (hv : VS ⟨H, Z, ls⟩ H Z) (a : Nat) (ha : a < ls.length) : Pure Try.prog 53 [.agg [i64 (H : Nat), i64 (Z : Nat), landsA ls c], i64 (a : Nat)] (fldA (fldQ Z H ls[a]) (H * Z)) := by
  have hv' := hv
  obtain ⟨_, _, hH, hZ1, hln, hlb, hbx⟩ := hv'
  simp only at hln hlb hbx
  have hZ := hZ1.2
  have hHZ : Z * H ≤ 1152 := Nat.mul_le_mul hZ hH.2
  have hHZc : H * Z = Z * H := Nat.mul_comm _ _
  refine pure_of_body Try.func53 (c := body Try.f53) rfl (by simp [Try.ntmps53]) fun w0 Φ0 => ?_
  refine W_seq rfl ?_
  refine W_reg rfl ?_
  refine Rv rfl rfl rfl (U_boxF rfl rfl rfl) rfl rfl ?_
  refine Rv rfl rfl rfl (U_assign rfl) rfl rfl ?_
  refine Re rfl ?_
  refine thenQ_n ?_
  refine W_seq rfl ?_
  refine W_reg rfl ?_
  refine Rv rfl rfl rfl (U_fieldAddrR rfl) rfl rfl ?_
  refine Rv rfl rfl rfl (U_load1 rfl rfl rfl) rfl rfl ?_
  refine Rv rfl rfl rfl (U_fieldAddrR rfl) rfl rfl ?_
  refine Rv rfl rfl rfl (U_load1 rfl rfl rfl) rfl rfl ?_
  refine Rv rfl rfl rfl (U_mul rfl rfl (w64e (m := ((H * Z : Nat) : Int)) (by omega) (by omega) (by omega))) rfl rfl ?_
  refine Ra rfl rfl rfl (U_mkL (n := H * Z) (cs' := (List.replicate (H * Z) (0 : Nat)).map n64) rfl rfl rfl (by omega) (replM rfl _)) rfl rfl rfl ?_
  refine Rv rfl rfl rfl (U_assign rfl) rfl rfl ?_
  refine Re rfl ?_
  refine thenQ_n ?_
  refine W_seq rfl ?_
  refine W_seq rfl ?_
  refine W_reg rfl ?_
  refine Rv rfl rfl rfl (U_assign rfl) rfl rfl ?_
  refine Re rfl ?_
  refine thenQ_n ?_
  refine W_block rfl ?_
  refine LoopTo (T' := [(1, i64 ((a : Nat) : Int)), (2, .rop [i64 ((H : Nat) : Int), i64 ((Z : Nat) : Int), .ros (ls.map boxesL) ls.length c] 0), (5, .slice 0 0 (H * Z) (H * Z)), (6, i64 ((0 : Nat) : Int))]) (H' := [(0, some (.cells ((List.replicate (H * Z) 0).map n64) 3))]) (n := 1) rfl (fun mz_ qz_ => ∃ (z : Nat) (f : List Nat), z ≤ Z ∧ f = fldK Z H ls[a] (z * H) ∧ mz_ = Z - z ∧ qz_ = ⟨[(1, i64 ((a : Nat) : Int)), (2, .rop [i64 ((H : Nat) : Int), i64 ((Z : Nat) : Int), .ros (ls.map boxesL) ls.length c] 0), (5, .slice 0 0 (H * Z) (H * Z)), (6, i64 ((z : Nat) : Int))], [(0, some (.cells (f.map n64) 3))], 1, []⟩) ⟨0, List.replicate (H * Z) 0, (by omega), (by rw [Nat.zero_mul, fldK_0]), rfl, rfl⟩ id ⟨eD rfl rfl, eD rfl rfl, e_ rfl rfl, eD rfl rfl, trivial⟩ ⟨rD (mapD (fun _ => rfl) _) rfl rfl, trivial⟩ rfl rfl rfl rfl (fun _ _ => rfl) ?_
  rintro _ _ ⟨z, f, hi0_0, hi0_1, rfl, rfl⟩
  refine W_seq rfl ?_
  refine W_seq rfl ?_
  refine W_reg rfl ?_
  refine Rv rfl rfl rfl (U_move rfl) rfl rfl ?_
  refine Rv rfl rfl rfl (U_fieldAddrR rfl) rfl rfl ?_
  refine Rv rfl rfl rfl (U_load1 rfl rfl rfl) rfl rfl ?_
  refine Rv rfl rfl rfl (U_lss rfl rfl) rfl rfl ?_
  refine Re rfl ?_
  refine thenQ_n ?_
  refine WcondP rfl rfl (fun hc0 => ?_) (fun hc0 => ?_)
  · have hcz : z < Z := by omega
    refine W_skip rfl ?_
    refine thenQ_n ?_
    refine W_seq rfl ?_
    refine W_block rfl ?_
    refine W_seq rfl ?_
    refine W_reg rfl ?_
    refine Rv rfl rfl rfl (U_assign rfl) rfl rfl ?_
    refine Re rfl ?_
    refine thenQ_n ?_
    refine W_block rfl ?_
    refine LoopTo (T' := [(1, i64 ((a : Nat) : Int)), (2, .rop [i64 ((H : Nat) : Int), i64 ((Z : Nat) : Int), .ros (ls.map boxesL) ls.length c] 0), (5, .slice 0 0 (H * Z) (H * Z)), (6, i64 ((z : Nat) : Int)), (7, i64 ((0 : Nat) : Int))]) (H' := [(0, some (.cells (f.map n64) 3))]) (n := 1) rfl (fun mz_ qz_ => ∃ (h : Nat) (f2 : List Nat), h ≤ H ∧ f2 = fldK Z H ls[a] (z * H + h) ∧ mz_ = H - h ∧ qz_ = ⟨[(1, i64 ((a : Nat) : Int)), (2, .rop [i64 ((H : Nat) : Int), i64 ((Z : Nat) : Int), .ros (ls.map boxesL) ls.length c] 0), (5, .slice 0 0 (H * Z) (H * Z)), (6, i64 ((z : Nat) : Int)), (7, i64 ((h : Nat) : Int))], [(0, some (.cells (f2.map n64) 3))], 1, []⟩) ⟨0, f, (by omega), (by rw [hi0_1]; rfl), rfl, rfl⟩ id ⟨eD rfl rfl, eD rfl rfl, e_ rfl rfl, eD rfl rfl, eD rfl rfl, trivial⟩ ⟨rD (mapD (fun _ => rfl) _) rfl rfl, trivial⟩ rfl rfl rfl rfl (fun _ _ => rfl) ?_
    rintro _ _ ⟨h, f2, hi1_0, hi1_1, rfl, rfl⟩
    have hfl : f2.length = Z * H := by rw [hi1_1, fldK_len]
    refine W_seq rfl ?_
    refine W_seq rfl ?_
    refine W_reg rfl ?_
    refine Rv rfl rfl rfl (U_move rfl) rfl rfl ?_
    refine Rv rfl rfl rfl (U_fieldAddrR rfl) rfl rfl ?_
    refine Rv rfl rfl rfl (U_load1 rfl rfl rfl) rfl rfl ?_
    refine Rv rfl rfl rfl (U_lss rfl rfl) rfl rfl ?_
    refine Re rfl ?_
    refine thenQ_n ?_
    refine WcondP rfl rfl (fun hc1 => ?_) (fun hc1 => ?_)
    · have hch : h < H := by omega
      have hzh := zh_lt hcz hch
      refine W_skip rfl ?_
      refine thenQ_n ?_
      refine W_seq rfl ?_
      refine W_block rfl ?_
      refine W_seq rfl ?_
      refine W_reg rfl ?_
      refine Rv rfl rfl rfl (U_load3 rfl rfl rfl rfl rfl) rfl rfl ?_
      refine Rv rfl rfl rfl (U_move rfl) rfl rfl ?_
      refine Rv rfl rfl rfl (U_move rfl) rfl rfl ?_
      refine Rv rfl rfl rfl (U_move rfl) rfl rfl ?_
      refine Rv rfl rfl rfl (U_call rfl rfl (inR_p H Z ls c hv a z h (by omega) (by omega)) rfl) rfl rfl ?_
      refine Re rfl ?_
      refine thenQ_n ?_
      refine Wcond rfl rfl (fun hc2 => ?_) (fun hc2 => ?_)
      · refine W_reg rfl ?_
        refine Rv rfl rfl rfl (U_move rfl) rfl rfl ?_
        refine Rv rfl rfl rfl (U_move rfl) rfl rfl ?_
        refine Rv rfl rfl rfl (U_fieldAddrR rfl) rfl rfl ?_
        refine Rv rfl rfl rfl (U_load1 rfl rfl rfl) rfl rfl ?_
        refine Rv rfl rfl rfl (U_mul rfl rfl (w64e (m := ((z * H : Nat) : Int)) (by omega) (by omega) (by omega))) rfl rfl ?_
        refine Rv rfl rfl rfl (U_move rfl) rfl rfl ?_
        refine Rv rfl rfl rfl (U_add rfl rfl (w64e (m := ((z * H + h : Nat) : Int)) (by omega) (by omega) (by omega))) rfl rfl ?_
        have hx1 : (z * H + h) < f2.length := by omega
        refine Rv rfl rfl rfl (U_indexS (j := (z * H + h)) rfl rfl rfl (by omega)) rfl rfl ?_
        refine Rn rfl rfl rfl (U_store (n := 1) (cs' := (f2.set (z * H + h) 1).map n64) rfl rfl rfl rfl rfl (stLt hx1) rfl setM) rfl ?_
        refine Re rfl ?_
        refine blkQ_n ?_
        refine thenQ_n ?_
        refine W_reg rfl ?_
        refine Rv rfl rfl rfl (U_move rfl) rfl rfl ?_
        refine Rv rfl rfl rfl (U_add rfl rfl (w64e (m := ((h + 1 : Nat) : Int)) (by omega) (by omega) (by omega))) rfl rfl ?_
        refine Rv rfl rfl rfl (U_assign rfl) rfl rfl ?_
        refine Re rfl ?_
        refine thenQ_n ?_
        exact againTo (T' := [(1, i64 ((a : Nat) : Int)), (2, .rop [i64 ((H : Nat) : Int), i64 ((Z : Nat) : Int), .ros (ls.map boxesL) ls.length c] 0), (5, .slice 0 0 (H * Z) (H * Z)), (6, i64 ((z : Nat) : Int)), (7, i64 (((h + 1) : Nat) : Int))]) (H' := [(0, some (.cells ((f2.set (z * H + h) 1).map n64) 3))]) (n := 1) (H - (h + 1)) ⟨h + 1, f2.set (z * H + h) 1, (by omega), (by first | (rw [hi1_1]; exact fldK_t (by omega) (by omega) hc2) | (rw [hi1_1]; exact fldK_f (by omega) (by omega) (by simpa using hc2))), rfl, rfl⟩ (by omega) id ⟨eD rfl rfl, eD rfl rfl, e_ rfl rfl, eD rfl rfl, eD rfl rfl, trivial⟩ ⟨rD (mapD (fun _ => rfl) _) rfl rfl, trivial⟩ rfl rfl rfl rfl (fun _ _ => rfl)
      · have hc2' := Bool.eq_false_iff.1 hc2
        refine W_skip rfl ?_
        refine blkQ_n ?_
        refine thenQ_n ?_
        refine W_reg rfl ?_
        refine Rv rfl rfl rfl (U_move rfl) rfl rfl ?_
        refine Rv rfl rfl rfl (U_add rfl rfl (w64e (m := ((h + 1 : Nat) : Int)) (by omega) (by omega) (by omega))) rfl rfl ?_
        refine Rv rfl rfl rfl (U_assign rfl) rfl rfl ?_
        refine Re rfl ?_
        refine thenQ_n ?_
        exact againTo (T' := [(1, i64 ((a : Nat) : Int)), (2, .rop [i64 ((H : Nat) : Int), i64 ((Z : Nat) : Int), .ros (ls.map boxesL) ls.length c] 0), (5, .slice 0 0 (H * Z) (H * Z)), (6, i64 ((z : Nat) : Int)), (7, i64 (((h + 1) : Nat) : Int))]) (H' := [(0, some (.cells (f2.map n64) 3))]) (n := 1) (H - (h + 1)) ⟨h + 1, f2, (by omega), (by first | (rw [hi1_1]; exact fldK_t (by omega) (by omega) hc2) | (rw [hi1_1]; exact fldK_f (by omega) (by omega) (by simpa using hc2))), rfl, rfl⟩ (by omega) id ⟨eD rfl rfl, eD rfl rfl, e_ rfl rfl, eD rfl rfl, eD rfl rfl, trivial⟩ ⟨rD (mapD (fun _ => rfl) _) rfl rfl, trivial⟩ rfl rfl rfl rfl (fun _ _ => rfl)
    · refine W_exit rfl ?_
      refine thenQ_x ?_
      refine thenQ_x ?_
      refine blkQ_x rfl ?_
      refine blkQ_n ?_
      refine thenQ_n ?_
      refine W_reg rfl ?_
      refine Rv rfl rfl rfl (U_move rfl) rfl rfl ?_
      refine Rv rfl rfl rfl (U_add rfl rfl (w64e (m := ((z + 1 : Nat) : Int)) (by omega) (by omega) (by omega))) rfl rfl ?_
      refine Rv rfl rfl rfl (U_assign rfl) rfl rfl ?_
      refine Re rfl ?_
      refine thenQ_n ?_
      exact againTo (T' := [(1, i64 ((a : Nat) : Int)), (2, .rop [i64 ((H : Nat) : Int), i64 ((Z : Nat) : Int), .ros (ls.map boxesL) ls.length c] 0), (5, .slice 0 0 (H * Z) (H * Z)), (6, i64 (((z + 1) : Nat) : Int))]) (H' := [(0, some (.cells (f2.map n64) 3))]) (n := 1) (Z - (z + 1)) ⟨z + 1, f2, (by omega), (by rw [hi1_1, show h = H by omega, Nat.succ_mul]), rfl, rfl⟩ (by omega) id ⟨eD rfl rfl, eD rfl rfl, e_ rfl rfl, eD rfl rfl, trivial⟩ ⟨rD (mapD (fun _ => rfl) _) rfl rfl, trivial⟩ rfl rfl rfl rfl (fun _ _ => rfl)
  · refine W_exit rfl ?_
    refine thenQ_x ?_
    refine thenQ_x ?_
    refine blkQ_x rfl ?_
    refine thenQ_n ?_
    refine W_seq rfl ?_
    refine W_reg rfl ?_
    refine Rv rfl rfl rfl (U_move rfl) rfl rfl ?_
    refine Rv rfl rfl rfl (U_assign rfl) rfl rfl ?_
    refine Re rfl ?_
    refine thenQ_n ?_
    refine WfrN 0 rfl (mapD (fun _ => rfl) _) (T' := [(4, .ros (f.map n64) (H * Z) (some (H * Z)))]) (H' := []) ⟨⟨_, rfl, fr_sl (Nat.le_refl _)⟩, trivial⟩ trivial ?_
    refine W_ret rfl ?_
    exact retL (rlT rfl rl0) (by first | rfl | (simp only [packA]; rw [hi0_1, fldK_all (by rw [show z = Z by omega]; exact Nat.le_refl _)]; first | done | rfl)) rfl
end Go.Proofs.Ythlolelbmhfdbaa
end

section
namespace Go.Proofs.Ythlolelbmhfdbaa
set_option maxRecDepth 20000
open Go.AE
theorem landedG_p (H Z : Nat) (ls : List (List Bx)) (c : Option Nat) (hc : chkS ⟨H, Z, ls⟩ = 0) (hv : VS ⟨H, Z, ls⟩ H Z) (a : Int) (h : 0 ≤ a ∧ a < ls.length) : Pure Try.prog 77 [.agg [i64 (H : Nat), i64 (Z : Nat), landsA ls c], i64 a] (i64 0) := by
  have := landed_p ⟨H, Z, ls⟩ c hv.hl hv.hbl a
  rwa [opS_0 hc (by rw [inL1]; simp; omega)] at this
end Go.Proofs.Ythlolelbmhfdbaa
end

section
namespace Go.Proofs.Ythlolelbmhfdbaa
set_option maxRecDepth 20000
open Go.AE
theorem boxedR1_p (s : Sk) (c : Option Nat) (hl : s.ls.length ≤ 1000000) (hbl : ∀ l ∈ s.ls, l.length ≤ 1000000) (a : Int) (b : Bx) (hE : opS s [a] ≠ 0) : Pure Try.prog 91 [.agg [i64 s.h, i64 s.z, landsA s.ls c], i64 a, bxA b] (i64 (opS s [a])) := by
  refine pure_of_body Try.func91 (c := body Try.f91) rfl (by simp [Try.ntmps91]) fun w0 Φ0 => ?_
  refine W_seq rfl ?_
  refine W_reg rfl ?_
  refine Rv rfl rfl rfl (U_boxF rfl rfl rfl) rfl rfl ?_
  refine Rv rfl rfl rfl (U_boxF rfl rfl rfl) rfl rfl ?_
  refine Rv rfl rfl rfl (U_assign rfl) rfl rfl ?_
  refine Re rfl ?_
  refine thenQ_n ?_
  refine W_seq rfl ?_
  refine W_seq rfl ?_
  refine W_reg rfl ?_
  refine Rv rfl rfl rfl (U_load3 rfl rfl rfl rfl rfl) rfl rfl ?_
  refine Rv rfl rfl rfl (U_move rfl) rfl rfl ?_
  refine Rv rfl rfl rfl (U_call rfl rfl (landed_p s c hl hbl a) rfl) rfl rfl ?_
  refine Rv rfl rfl rfl (U_neq rfl rfl) rfl rfl ?_
  refine Re rfl ?_
  refine thenQ_n ?_
  refine WcondP rfl rfl (fun hc0 => ?_) (fun hc0 => absurd (hE) hc0)
  refine W_seq rfl ?_
  refine W_reg rfl ?_
  refine Rv rfl rfl rfl (U_load3 rfl rfl rfl rfl rfl) rfl rfl ?_
  refine Rv rfl rfl rfl (U_move rfl) rfl rfl ?_
  refine Rv rfl rfl rfl (U_call rfl rfl (landed_p s c hl hbl a) rfl) rfl rfl ?_
  refine Rv rfl rfl rfl (U_assign rfl) rfl rfl ?_
  refine Re rfl ?_
  refine thenQ_n ?_
  refine W_ret rfl ?_
  refine thenQ_r ?_
  exact retL (rlT rfl rl0) rfl rfl
theorem boxedRE2_p (H Z : Nat) (ls : List (List Bx)) (c : Option Nat) (hc : chkS ⟨H, Z, ls⟩ = 0) (hv : VS ⟨H, Z, ls⟩ H Z) (a : Nat) (ha : a < ls.length) (b : Bx) (hb : ¬ isB b H Z = true) : Pure Try.prog 91 [.agg [i64 (H : Nat), i64 (Z : Nat), landsA ls c], i64 (a : Nat), bxA b] (i64 3) := by
  have hv' := hv
  obtain ⟨_, _, hH, hZ1, hln, hlb, hbx⟩ := hv'
  simp only at hln hlb hbx
  have hZ := hZ1.2
  have hHZ : Z * H ≤ 1152 := Nat.mul_le_mul hZ hH.2
  have hHZc : H * Z = Z * H := Nat.mul_comm _ _
  refine pure_of_body Try.func91 (c := body Try.f91) rfl (by simp [Try.ntmps91]) fun w0 Φ0 => ?_
  refine W_seq rfl ?_
  refine W_reg rfl ?_
  refine Rv rfl rfl rfl (U_boxF rfl rfl rfl) rfl rfl ?_
  refine Rv rfl rfl rfl (U_boxF rfl rfl rfl) rfl rfl ?_
  refine Rv rfl rfl rfl (U_assign rfl) rfl rfl ?_
  refine Re rfl ?_
  refine thenQ_n ?_
  refine W_seq rfl ?_
  refine W_seq rfl ?_
  refine W_reg rfl ?_
  refine Rv rfl rfl rfl (U_load3 rfl rfl rfl rfl rfl) rfl rfl ?_
  refine Rv rfl rfl rfl (U_move rfl) rfl rfl ?_
  refine Rv rfl rfl rfl (U_call rfl rfl (landedG_p H Z ls c hc hv ((a : Nat) : Int) (by omega)) rfl) rfl rfl ?_
  refine Rv rfl rfl rfl (U_neq rfl rfl) rfl rfl ?_
  refine Re rfl ?_
  refine thenQ_n ?_
  refine WcondP rfl rfl (fun h => absurd h (by decide)) (fun _ => ?_)
  refine W_skip rfl ?_
  refine thenQ_n ?_
  refine W_seq rfl ?_
  refine W_seq rfl ?_
  refine W_reg rfl ?_
  refine Rv rfl rfl rfl (U_load4 rfl rfl rfl rfl rfl rfl) rfl rfl ?_
  refine Rv rfl rfl rfl (U_fieldAddrR rfl) rfl rfl ?_
  refine Rv rfl rfl rfl (U_load1 rfl rfl rfl) rfl rfl ?_
  refine Rv rfl rfl rfl (U_fieldAddrR rfl) rfl rfl ?_
  refine Rv rfl rfl rfl (U_load1 rfl rfl rfl) rfl rfl ?_
  refine Rv rfl rfl rfl (U_call rfl rfl (isBR_p b ((H : Nat) : Int) ((Z : Nat) : Int) (by omega) (by omega)) rfl) rfl rfl ?_
  refine Rv rfl rfl rfl (U_not rfl) rfl rfl ?_
  refine Re rfl ?_
  refine thenQ_n ?_
  refine Wcond rfl rfl (fun hc1 => ?_) (fun hc1 => absurd hc1 (by simpa using hb))
  refine W_seq rfl ?_
  refine W_reg rfl ?_
  refine Rv rfl rfl rfl (U_assign rfl) rfl rfl ?_
  refine Re rfl ?_
  refine thenQ_n ?_
  refine W_ret rfl ?_
  refine thenQ_r ?_
  exact retL (rlT rfl rl0) rfl rfl
theorem boxedRG_p (H Z : Nat) (ls : List (List Bx)) (c : Option Nat) (hc : chkS ⟨H, Z, ls⟩ = 0) (hv : VS ⟨H, Z, ls⟩ H Z) (a : Nat) (ha : a < ls.length) (b : Bx) (hb : isB b H Z = true) : Pure Try.prog 91 [.agg [i64 (H : Nat), i64 (Z : Nat), landsA ls c], i64 (a : Nat), bxA b] (i64 0) := by
  have hv' := hv
  obtain ⟨_, _, hH, hZ1, hln, hlb, hbx⟩ := hv'
  simp only at hln hlb hbx
  have hZ := hZ1.2
  have hHZ : Z * H ≤ 1152 := Nat.mul_le_mul hZ hH.2
  have hHZc : H * Z = Z * H := Nat.mul_comm _ _
  refine pure_of_body Try.func91 (c := body Try.f91) rfl (by simp [Try.ntmps91]) fun w0 Φ0 => ?_
  refine W_seq rfl ?_
  refine W_reg rfl ?_
  refine Rv rfl rfl rfl (U_boxF rfl rfl rfl) rfl rfl ?_
  refine Rv rfl rfl rfl (U_boxF rfl rfl rfl) rfl rfl ?_
  refine Rv rfl rfl rfl (U_assign rfl) rfl rfl ?_
  refine Re rfl ?_
  refine thenQ_n ?_
  refine W_seq rfl ?_
  refine W_seq rfl ?_
  refine W_reg rfl ?_
  refine Rv rfl rfl rfl (U_load3 rfl rfl rfl rfl rfl) rfl rfl ?_
  refine Rv rfl rfl rfl (U_move rfl) rfl rfl ?_
  refine Rv rfl rfl rfl (U_call rfl rfl (landedG_p H Z ls c hc hv ((a : Nat) : Int) (by omega)) rfl) rfl rfl ?_
  refine Rv rfl rfl rfl (U_neq rfl rfl) rfl rfl ?_
  refine Re rfl ?_
  refine thenQ_n ?_
  refine WcondP rfl rfl (fun h => absurd h (by decide)) (fun _ => ?_)
  refine W_skip rfl ?_
  refine thenQ_n ?_
  refine W_seq rfl ?_
  refine W_seq rfl ?_
  refine W_reg rfl ?_
  refine Rv rfl rfl rfl (U_load4 rfl rfl rfl rfl rfl rfl) rfl rfl ?_
  refine Rv rfl rfl rfl (U_fieldAddrR rfl) rfl rfl ?_
  refine Rv rfl rfl rfl (U_load1 rfl rfl rfl) rfl rfl ?_
  refine Rv rfl rfl rfl (U_fieldAddrR rfl) rfl rfl ?_
  refine Rv rfl rfl rfl (U_load1 rfl rfl rfl) rfl rfl ?_
  refine Rv rfl rfl rfl (U_call rfl rfl (isBR_p b ((H : Nat) : Int) ((Z : Nat) : Int) (by omega) (by omega)) rfl) rfl rfl ?_
  refine Rv rfl rfl rfl (U_not rfl) rfl rfl ?_
  refine Re rfl ?_
  refine thenQ_n ?_
  refine Wcond rfl rfl (fun hc1 => absurd hc1 (by simpa using hb)) (fun hc1 => ?_)
  refine W_skip rfl ?_
  refine thenQ_n ?_
  refine W_seq rfl ?_
  refine W_reg rfl ?_
  refine Rv rfl rfl rfl (U_assign rfl) rfl rfl ?_
  refine Re rfl ?_
  refine thenQ_n ?_
  refine W_ret rfl ?_
  exact retL (rlT rfl rl0) rfl rfl
theorem boxedR_p (s : Sk) (c : Option Nat) (hl : s.ls.length ≤ 1000000) (hbl : ∀ l ∈ s.ls, l.length ≤ 1000000) (a : Int) (b : Bx) : Pure Try.prog 91 [.agg [i64 s.h, i64 s.z, landsA s.ls c], i64 a, bxA b] (i64 (boxE s a b)) := by
  by_cases h1 : opS s [a] ≠ 0
  · rw [show boxE s a b = opS s [a] from if_pos h1]; exact boxedR1_p s c hl hbl a b h1
  · obtain ⟨H, Z, ls, rfl, hc, hv, hin⟩ := opS_ok (Decidable.not_not.1 h1)
    obtain ⟨a, rfl, ha⟩ := in1_ok hin
    by_cases h2 : isB b H Z = true
    · rw [boxE_0 hc ha h2]; exact boxedRG_p H Z ls c hc hv a ha b h2
    · have e : boxE ⟨H, Z, ls⟩ (a : Int) b = 3 := by rw [boxE, if_neg h1, if_neg h2]
      rw [e]; exact boxedRE2_p H Z ls c hc hv a ha b h2
theorem bxN_pos {Z H : Nat} {b : Bx} (hb : isB b H Z = true) : 0 < (bxN H b (Z * H)).length := by
  obtain ⟨h1, h2, h3, h4, h5⟩ := isB_iff.1 hb
  have hz : b.lo.toNat < Z := by omega
  have hh : b.fr.toNat < H := by omega
  have hd := zh_div (z := b.lo.toNat) hh
  refine List.length_pos_of_mem (a := b.lo.toNat * H + b.fr.toNat) (List.mem_filter.2 ⟨List.mem_range.2 (zh_lt hz hh), ?_⟩)
  rw [hd.1, hd.2]
  have e : ((b.fr.toNat : Nat) : Int) - b.fr + H = H := by omega
  simp only [inN, Bool.and_eq_true, decide_eq_true_eq]
  rw [e, Int.emod_self]; omega
theorem kinQ_all {Z H : Nat} {l : List Bx} {b : Bx} (hb : isB b H Z = true) (h : inK H l b (Z * H) = (bxN H b (Z * H)).length) : kinQ Z H l b = 2 := by
  have := bxN_pos hb
  rw [kinQ, if_neg (by omega), if_pos h]
theorem kinQ_min {Z H : Nat} {l : List Bx} {b : Bx} (h : ¬ inK H l b (Z * H) = (bxN H b (Z * H)).length) : kinQ Z H l b = min (inK H l b (Z * H)) 1 := by
  unfold kinQ; split
  · omega
  · first | omega | (rw [if_neg h]; omega)
theorem kinRf_e (s : Sk) (c : Option Nat) (hl : s.ls.length ≤ 1000000) (hbl : ∀ l ∈ s.ls, l.length ≤ 1000000) (a : Int) (b : Bx) (hE : boxE s a b ≠ 0) : Pure Try.prog 40 [.agg [i64 s.h, i64 s.z, landsA s.ls c], i64 a, bxA b] (.tup [i64 0, i64 (boxE s a b)]) := by
  refine pure_of_body Try.func40 (c := body Try.f40) rfl (by simp [Try.ntmps40]) fun w0 Φ0 => ?_
  refine W_seq rfl ?_
  refine W_reg rfl ?_
  refine Rv rfl rfl rfl (U_boxF rfl rfl rfl) rfl rfl ?_
  refine Rv rfl rfl rfl (U_boxF rfl rfl rfl) rfl rfl ?_
  refine Rv rfl rfl rfl (U_assign rfl) rfl rfl ?_
  refine Rv rfl rfl rfl (U_assign rfl) rfl rfl ?_
  refine Re rfl ?_
  refine thenQ_n ?_
  refine W_seq rfl ?_
  refine W_seq rfl ?_
  refine W_reg rfl ?_
  refine Rv rfl rfl rfl (U_load3 rfl rfl rfl rfl rfl) rfl rfl ?_
  refine Rv rfl rfl rfl (U_move rfl) rfl rfl ?_
  refine Rv rfl rfl rfl (U_load4 rfl rfl rfl rfl rfl rfl) rfl rfl ?_
  refine Rv rfl rfl rfl (U_call rfl rfl (boxedR_p s c hl hbl a b) rfl) rfl rfl ?_
  refine Rv rfl rfl rfl (U_neq rfl rfl) rfl rfl ?_
  refine Re rfl ?_
  refine thenQ_n ?_
  refine WcondP rfl rfl (fun hc0 => ?_) (fun hc0 => absurd (hE) hc0)
  refine W_seq rfl ?_
  refine W_reg rfl ?_
  refine Rv rfl rfl rfl (U_load3 rfl rfl rfl rfl rfl) rfl rfl ?_
  refine Rv rfl rfl rfl (U_move rfl) rfl rfl ?_
  refine Rv rfl rfl rfl (U_load4 rfl rfl rfl rfl rfl rfl) rfl rfl ?_
  refine Rv rfl rfl rfl (U_call rfl rfl (boxedR_p s c hl hbl a b) rfl) rfl rfl ?_
  refine Rv rfl rfl rfl (U_assign rfl) rfl rfl ?_
  refine Rv rfl rfl rfl (U_assign rfl) rfl rfl ?_
  refine Re rfl ?_
  refine thenQ_n ?_
  refine W_ret rfl ?_
  refine thenQ_r ?_
  exact retL (rlT rfl (rlT rfl rl0)) rfl rfl
theorem kinRf_g (H Z : Nat) (ls : List (List Bx)) (c : Option Nat) (hc : chkS ⟨H, Z, ls⟩ = 0) (hv : VS ⟨H, Z, ls⟩ H Z) (a : Nat) (ha : a < ls.length) (b : Bx) (hb : isB b H Z = true) : Pure Try.prog 40 [.agg [i64 (H : Nat), i64 (Z : Nat), landsA ls c], i64 (a : Nat), bxA b] (.tup [i64 ((kinQ Z H ls[a] b : Nat) : Int), i64 0]) := by
  have hv' := hv
  obtain ⟨_, _, hH, hZ1, hln, hlb, hbx⟩ := hv'
  simp only at hln hlb hbx
  have hZ := hZ1.2
  have hHZ : Z * H ≤ 1152 := Nat.mul_le_mul hZ hH.2
  have hHZc : H * Z = Z * H := Nat.mul_comm _ _
  have hbi := isB_iff.1 hb
  have hfl : (fldQ Z H ls[a]).length = Z * H := fldQ_len
  refine pure_of_body Try.func40 (c := body Try.f40) rfl (by simp [Try.ntmps40]) fun w0 Φ0 => ?_
  refine W_seq rfl ?_
  refine W_reg rfl ?_
  refine Rv rfl rfl rfl (U_boxF rfl rfl rfl) rfl rfl ?_
  refine Rv rfl rfl rfl (U_boxF rfl rfl rfl) rfl rfl ?_
  refine Rv rfl rfl rfl (U_assign rfl) rfl rfl ?_
  refine Rv rfl rfl rfl (U_assign rfl) rfl rfl ?_
  refine Re rfl ?_
  refine thenQ_n ?_
  refine W_seq rfl ?_
  refine W_seq rfl ?_
  refine W_reg rfl ?_
  refine Rv rfl rfl rfl (U_load3 rfl rfl rfl rfl rfl) rfl rfl ?_
  refine Rv rfl rfl rfl (U_move rfl) rfl rfl ?_
  refine Rv rfl rfl rfl (U_load4 rfl rfl rfl rfl rfl rfl) rfl rfl ?_
  refine Rv rfl rfl rfl (U_call rfl rfl (boxedRG_p H Z ls c hc hv a (by omega) b hb) rfl) rfl rfl ?_
  refine Rv rfl rfl rfl (U_neq rfl rfl) rfl rfl ?_
  refine Re rfl ?_
  refine thenQ_n ?_
  refine WcondP rfl rfl (fun h => absurd h (by decide)) (fun _ => ?_)
  refine W_skip rfl ?_
  refine thenQ_n ?_
  refine W_seq rfl ?_
  refine W_reg rfl ?_
  refine Rv rfl rfl rfl (U_load3 rfl rfl rfl rfl rfl) rfl rfl ?_
  refine Rv rfl rfl rfl (U_move rfl) rfl rfl ?_
  refine Rv rfl rfl rfl (U_call rfl rfl (field_p H Z ls c hv a (by omega)) rfl) rfl rfl ?_
  refine Rv rfl rfl rfl (U_assign rfl) rfl rfl ?_
  refine Re rfl ?_
  refine thenQ_n ?_
  refine W_seq rfl ?_
  refine W_reg rfl ?_
  refine Rv rfl rfl rfl (U_assign rfl) rfl rfl ?_
  refine Rv rfl rfl rfl (U_assign rfl) rfl rfl ?_
  refine Re rfl ?_
  refine thenQ_n ?_
  refine W_seq rfl ?_
  refine W_seq rfl ?_
  refine W_reg rfl ?_
  refine Rv rfl rfl rfl (U_assign rfl) rfl rfl ?_
  refine Re rfl ?_
  refine thenQ_n ?_
  refine W_block rfl ?_
  refine LoopTo (T' := [(3, .rop [i64 ((H : Nat) : Int), i64 ((Z : Nat) : Int), .ros (ls.map boxesL) ls.length c] 0), (5, .rop [i64 b.fr, i64 b.wd, i64 b.lo, i64 b.hi] 0), (8, .ros ((fldQ Z H ls[a]).map n64) (H * Z) (some (H * Z))), (9, i64 ((0 : Nat) : Int)), (10, i64 ((0 : Nat) : Int)), (11, i64 ((0 : Nat) : Int))]) (H' := []) (n := 0) rfl (fun mz_ qz_ => ∃ (i : Nat) (m : Nat) (n : Nat), i ≤ H * Z ∧ m = inK H ls[a] b i ∧ n = (bxN H b i).length ∧ mz_ = H * Z - i ∧ qz_ = ⟨[(3, .rop [i64 ((H : Nat) : Int), i64 ((Z : Nat) : Int), .ros (ls.map boxesL) ls.length c] 0), (5, .rop [i64 b.fr, i64 b.wd, i64 b.lo, i64 b.hi] 0), (8, .ros ((fldQ Z H ls[a]).map n64) (H * Z) (some (H * Z))), (9, i64 ((m : Nat) : Int)), (10, i64 ((n : Nat) : Int)), (11, i64 ((i : Nat) : Int))], [], 0, []⟩) ⟨0, 0, 0, (by omega), rfl, rfl, rfl, rfl⟩ id ⟨eD rfl rfl, eD rfl rfl, eD rfl rfl, eD rfl rfl, eD rfl rfl, eD rfl rfl, trivial⟩ trivial rfl rfl rfl rfl (fun _ _ => rfl) ?_
  rintro _ _ ⟨i, m, n, hi0_0, hi0_1, hi0_2, rfl, rfl⟩
  have hlb1 := bxN_len (H := H) (b := b) (k := i)
  have hlb2 := inK_le (H := H) (b := b) (l := ls[a]) (k := i)
  refine W_seq rfl ?_
  refine W_seq rfl ?_
  refine W_reg rfl ?_
  refine Rv rfl rfl rfl (U_move rfl) rfl rfl ?_
  refine Rv rfl rfl rfl (U_move rfl) rfl rfl ?_
  refine Rv rfl rfl rfl (U_lenOf rfl len_ros) rfl rfl ?_
  refine Rv rfl rfl rfl (U_lss rfl rfl) rfl rfl ?_
  refine Re rfl ?_
  refine thenQ_n ?_
  refine WcondP rfl rfl (fun hc1 => ?_) (fun hc1 => ?_)
  · have hci : i < Z * H := by omega
    have hfq := fldQ_le (Z := Z) (H := H) (l := ls[a]) (i := i) (by omega)
    have hfe := fldQ_get (Z := Z) (H := H) (l := ls[a]) (i := i) (by omega)
    have hmd : i % H < H := Nat.mod_lt _ (by omega)
    refine W_skip rfl ?_
    refine thenQ_n ?_
    refine W_seq rfl ?_
    refine W_block rfl ?_
    refine W_seq rfl ?_
    refine Wdraw rfl (by kernel_rfl) (by kernel_rfl) ?_
    refine Dv rfl rfl rfl (U_load4 rfl rfl rfl rfl rfl rfl) rfl rfl ?_
    refine Dv rfl rfl rfl (U_fieldAddrR rfl) rfl rfl ?_
    refine Dv rfl rfl rfl (U_load1 rfl rfl rfl) rfl rfl ?_
    refine Dv rfl rfl rfl (U_move rfl) rfl rfl ?_
    refine Dv rfl rfl rfl (U_fieldAddrR rfl) rfl rfl ?_
    refine Dv rfl rfl rfl (U_load1 rfl rfl rfl) rfl rfl ?_
    refine Dv rfl rfl rfl (U_rem (c := ((i % H : Nat) : Int)) rfl rfl (by omega) (tmodN _ _)) rfl rfl ?_
    refine Dv rfl rfl rfl (U_move rfl) rfl rfl ?_
    refine Dv rfl rfl rfl (U_fieldAddrR rfl) rfl rfl ?_
    refine Dv rfl rfl rfl (U_load1 rfl rfl rfl) rfl rfl ?_
    refine Dv rfl rfl rfl (U_quo (c := ((i / H : Nat) : Int)) rfl rfl (by omega) (wquoN (by omega))) rfl rfl ?_
    refine Dv rfl rfl rfl (U_call rfl rfl (inBoxR_p b H (i / H) (i % H) (by omega) (by omega) (by omega)) rfl) rfl rfl ?_
    refine Dr.nil rfl ?_
    refine thenQ_n ?_
    refine Wcond rfl rfl (fun hc2 => ?_) (fun hc2 => ?_)
    · refine W_seq rfl ?_
      refine W_reg rfl ?_
      refine Rv rfl rfl rfl (U_move rfl) rfl rfl ?_
      refine Rv rfl rfl rfl (U_add rfl rfl (w64e (m := ((n + 1 : Nat) : Int)) (by omega) (by omega) (by omega))) rfl rfl ?_
      refine Rv rfl rfl rfl (U_assign rfl) rfl rfl ?_
      refine Re rfl ?_
      refine thenQ_n ?_
      refine W_reg rfl ?_
      refine Rv rfl rfl rfl (U_move rfl) rfl rfl ?_
      refine Rv rfl rfl rfl (U_move rfl) rfl rfl ?_
      refine Rv rfl rfl rfl (U_move rfl) rfl rfl ?_
      have hx1 : i < (fldQ Z H ls[a]).length := by omega
      refine Rv rfl rfl rfl (U_indexR (j := i) rfl rfl rfl (by omega)) rfl rfl ?_
      refine Rv rfl rfl rfl (U_load1 rfl rfl (getM hx1)) rfl rfl ?_
      refine Rv rfl rfl rfl (U_add rfl rfl (w64e (m := ((m + (fldQ Z H ls[a])[i] : Nat) : Int)) (by omega) (by omega) (by omega))) rfl rfl ?_
      refine Rv rfl rfl rfl (U_assign rfl) rfl rfl ?_
      refine Re rfl ?_
      refine blkQ_n ?_
      refine thenQ_n ?_
      refine W_reg rfl ?_
      refine Rv rfl rfl rfl (U_move rfl) rfl rfl ?_
      refine Rv rfl rfl rfl (U_add rfl rfl (w64e (m := ((i + 1 : Nat) : Int)) (by omega) (by omega) (by omega))) rfl rfl ?_
      refine Rv rfl rfl rfl (U_assign rfl) rfl rfl ?_
      refine Re rfl ?_
      refine thenQ_n ?_
      exact againTo (T' := [(3, .rop [i64 ((H : Nat) : Int), i64 ((Z : Nat) : Int), .ros (ls.map boxesL) ls.length c] 0), (5, .rop [i64 b.fr, i64 b.wd, i64 b.lo, i64 b.hi] 0), (8, .ros ((fldQ Z H ls[a]).map n64) (H * Z) (some (H * Z))), (9, i64 (((m + (fldQ Z H ls[a])[i]) : Nat) : Int)), (10, i64 (((n + 1) : Nat) : Int)), (11, i64 (((i + 1) : Nat) : Int))]) (H' := []) (n := 0) (H * Z - (i + 1)) ⟨i + 1, m + (fldQ Z H ls[a])[i], n + 1, (by omega), (by first | (rw [inK_t hc2, hi0_1, ← hfe]; done) | (rw [inK_f (by simpa using hc2)]; exact hi0_1)), (by first | (rw [bxN_t hc2, List.length_append, ← hi0_2]; rfl) | (rw [bxN_f (by simpa using hc2)]; exact hi0_2)), rfl, rfl⟩ (by omega) id ⟨eD rfl rfl, eD rfl rfl, eD rfl rfl, eD rfl rfl, eD rfl rfl, eD rfl rfl, trivial⟩ trivial rfl rfl rfl rfl (fun _ _ => rfl)
    · have hc2' := Bool.eq_false_iff.1 hc2
      refine W_skip rfl ?_
      refine blkQ_n ?_
      refine thenQ_n ?_
      refine W_reg rfl ?_
      refine Rv rfl rfl rfl (U_move rfl) rfl rfl ?_
      refine Rv rfl rfl rfl (U_add rfl rfl (w64e (m := ((i + 1 : Nat) : Int)) (by omega) (by omega) (by omega))) rfl rfl ?_
      refine Rv rfl rfl rfl (U_assign rfl) rfl rfl ?_
      refine Re rfl ?_
      refine thenQ_n ?_
      exact againTo (T' := [(3, .rop [i64 ((H : Nat) : Int), i64 ((Z : Nat) : Int), .ros (ls.map boxesL) ls.length c] 0), (5, .rop [i64 b.fr, i64 b.wd, i64 b.lo, i64 b.hi] 0), (8, .ros ((fldQ Z H ls[a]).map n64) (H * Z) (some (H * Z))), (9, i64 ((m : Nat) : Int)), (10, i64 ((n : Nat) : Int)), (11, i64 (((i + 1) : Nat) : Int))]) (H' := []) (n := 0) (H * Z - (i + 1)) ⟨i + 1, m, n, (by omega), (by first | (rw [inK_t hc2, hi0_1, ← hfe]; done) | (rw [inK_f (by simpa using hc2)]; exact hi0_1)), (by first | (rw [bxN_t hc2, List.length_append, ← hi0_2]; rfl) | (rw [bxN_f (by simpa using hc2)]; exact hi0_2)), rfl, rfl⟩ (by omega) id ⟨eD rfl rfl, eD rfl rfl, eD rfl rfl, eD rfl rfl, eD rfl rfl, eD rfl rfl, trivial⟩ trivial rfl rfl rfl rfl (fun _ _ => rfl)
  · obtain rfl : i = Z * H := by omega
    refine W_exit rfl ?_
    refine thenQ_x ?_
    refine thenQ_x ?_
    refine blkQ_x rfl ?_
    refine thenQ_n ?_
    refine W_seq rfl ?_
    refine W_seq rfl ?_
    refine W_reg rfl ?_
    refine Rv rfl rfl rfl (U_move rfl) rfl rfl ?_
    refine Rv rfl rfl rfl (U_move rfl) rfl rfl ?_
    refine Rv rfl rfl rfl (U_eql rfl rfl) rfl rfl ?_
    refine Re rfl ?_
    refine thenQ_n ?_
    refine WcondP rfl rfl (fun hc3 => ?_) (fun hc3 => ?_)
    · have hkq := kinQ_all hb (l := ls[a]) (by omega)
      refine W_seq rfl ?_
      refine W_reg rfl ?_
      refine Rv rfl rfl rfl (U_assign rfl) rfl rfl ?_
      refine Rv rfl rfl rfl (U_assign rfl) rfl rfl ?_
      refine Re rfl ?_
      refine thenQ_n ?_
      refine W_ret rfl ?_
      refine thenQ_r ?_
      exact retL (rlT rfl (rlT rfl rl0)) (by first | rfl | (simp only [packA]; rw [hkq]; first | done | rfl) | (simp only [packA]; rw [hkq, ← hi0_1]; congr 3; omega; first | done | rfl)) rfl
    · have hkq := kinQ_min (Z := Z) (H := H) (b := b) (l := ls[a]) (by omega)
      refine W_skip rfl ?_
      refine thenQ_n ?_
      refine W_seq rfl ?_
      refine W_reg rfl ?_
      refine Rv rfl rfl rfl (U_move rfl) rfl rfl ?_
      refine Rv rfl rfl rfl (U_min rfl rfl rfl) rfl rfl ?_
      refine Rv rfl rfl rfl (U_assign rfl) rfl rfl ?_
      refine Rv rfl rfl rfl (U_assign rfl) rfl rfl ?_
      refine Re rfl ?_
      refine thenQ_n ?_
      refine W_ret rfl ?_
      exact retL (rlT rfl (rlT rfl rl0)) (by first | rfl | (simp only [packA]; rw [hkq]; first | done | rfl) | (simp only [packA]; rw [hkq, ← hi0_1]; congr 3; omega; first | done | rfl)) rfl
theorem kinRfA_p (s : Sk) (c : Option Nat) (hl : s.ls.length ≤ 1000000) (hbl : ∀ l ∈ s.ls, l.length ≤ 1000000) (a : Int) (b : Bx) : Pure Try.prog 40 [.agg [i64 s.h, i64 s.z, landsA s.ls c], i64 a, bxA b] (.tup [i64 (kinR s a b), i64 (boxE s a b)]) := by
  by_cases hE : boxE s a b = 0
  · obtain ⟨H, Z, ls, a, rfl, hc, hv, rfl, ha, hb⟩ := boxE_ok hE
    rw [kinR_g hc ha hb, hE]
    exact kinRf_g H Z ls c hc hv a ha b hb
  · rw [kinR_e hE]
    exact kinRf_e s c hl hbl a b hE
end Go.Proofs.Ythlolelbmhfdbaa
end

section
namespace Go.Proofs.Ythlolelbmhfdbaa
set_option maxRecDepth 20000
open Go.AE
theorem fieldM_p (H Z : Nat) (ls : List (List Bx)) (c : Option Nat) (hv : VS ⟨H, Z, ls⟩ H Z) (a : Nat) (ha : a < ls.length) : MutP Try.prog 53 [.agg [i64 (H : Nat), i64 (Z : Nat), landsA ls c], i64 (a : Nat)] [] 0 (.slice 0 0 (H * Z) (H * Z)) [(0, some (.cells ((fldQ Z H ls[a]).map n64) 3))] 1 := by
  have hv' := hv
  obtain ⟨_, _, hH, hZ1, hln, hlb, hbx⟩ := hv'
  simp only at hln hlb hbx
  have hZ := hZ1.2
  have hHZ : Z * H ≤ 1152 := Nat.mul_le_mul hZ hH.2
  have hHZc : H * Z = Z * H := Nat.mul_comm _ _
  refine mut_of_body Try.func53 (c := body Try.f53) rfl (by decide) (by simp [Try.ntmps53]) fun w0 Φ0 ρ0 => ?_
  refine W_seq rfl ?_
  refine W_reg rfl ?_
  refine Rv rfl rfl rfl (U_boxF rfl rfl rfl) rfl rfl ?_
  refine Rv rfl rfl rfl (U_assign rfl) rfl rfl ?_
  refine Re rfl ?_
  refine thenQ_n ?_
  refine W_seq rfl ?_
  refine W_reg rfl ?_
  refine Rv rfl rfl rfl (U_fieldAddrR rfl) rfl rfl ?_
  refine Rv rfl rfl rfl (U_load1 rfl rfl rfl) rfl rfl ?_
  refine Rv rfl rfl rfl (U_fieldAddrR rfl) rfl rfl ?_
  refine Rv rfl rfl rfl (U_load1 rfl rfl rfl) rfl rfl ?_
  refine Rv rfl rfl rfl (U_mul rfl rfl (w64e (m := ((H * Z : Nat) : Int)) (by omega) (by omega) (by omega))) rfl rfl ?_
  refine Ra rfl rfl rfl (U_mkL (n := H * Z) (cs' := (List.replicate (H * Z) (0 : Nat)).map n64) rfl rfl rfl (by omega) (replM rfl _)) rfl rfl rfl ?_
  refine Rv rfl rfl rfl (U_assign rfl) rfl rfl ?_
  refine Re rfl ?_
  refine thenQ_n ?_
  refine W_seq rfl ?_
  refine W_seq rfl ?_
  refine W_reg rfl ?_
  refine Rv rfl rfl rfl (U_assign rfl) rfl rfl ?_
  refine Re rfl ?_
  refine thenQ_n ?_
  refine W_block rfl ?_
  refine LoopTo (T' := [(1, i64 ((a : Nat) : Int)), (2, .rop [i64 ((H : Nat) : Int), i64 ((Z : Nat) : Int), .ros (ls.map boxesL) ls.length c] 0), (5, .slice 0 0 (H * Z) (H * Z)), (6, i64 ((0 : Nat) : Int))]) (H' := [(0, some (.cells ((List.replicate (H * Z) 0).map n64) 3))]) (n := 1) rfl (fun mz_ qz_ => ∃ (z : Nat) (f : List Nat), z ≤ Z ∧ f = fldK Z H ls[a] (z * H) ∧ mz_ = Z - z ∧ qz_ = ⟨[(1, i64 ((a : Nat) : Int)), (2, .rop [i64 ((H : Nat) : Int), i64 ((Z : Nat) : Int), .ros (ls.map boxesL) ls.length c] 0), (5, .slice 0 0 (H * Z) (H * Z)), (6, i64 ((z : Nat) : Int))], [(0, some (.cells (f.map n64) 3))], 1, []⟩) ⟨0, List.replicate (H * Z) 0, (by omega), (by rw [Nat.zero_mul, fldK_0]), rfl, rfl⟩ id ⟨eD rfl rfl, eD rfl rfl, e_ rfl rfl, eD rfl rfl, trivial⟩ ⟨rD (mapD (fun _ => rfl) _) rfl rfl, trivial⟩ rfl rfl rfl rfl (fun _ _ => rfl) ?_
  rintro _ _ ⟨z, f, hi0_0, hi0_1, rfl, rfl⟩
  refine W_seq rfl ?_
  refine W_seq rfl ?_
  refine W_reg rfl ?_
  refine Rv rfl rfl rfl (U_move rfl) rfl rfl ?_
  refine Rv rfl rfl rfl (U_fieldAddrR rfl) rfl rfl ?_
  refine Rv rfl rfl rfl (U_load1 rfl rfl rfl) rfl rfl ?_
  refine Rv rfl rfl rfl (U_lss rfl rfl) rfl rfl ?_
  refine Re rfl ?_
  refine thenQ_n ?_
  refine WcondP rfl rfl (fun hc0 => ?_) (fun hc0 => ?_)
  · have hcz : z < Z := by omega
    refine W_skip rfl ?_
    refine thenQ_n ?_
    refine W_seq rfl ?_
    refine W_block rfl ?_
    refine W_seq rfl ?_
    refine W_reg rfl ?_
    refine Rv rfl rfl rfl (U_assign rfl) rfl rfl ?_
    refine Re rfl ?_
    refine thenQ_n ?_
    refine W_block rfl ?_
    refine LoopTo (T' := [(1, i64 ((a : Nat) : Int)), (2, .rop [i64 ((H : Nat) : Int), i64 ((Z : Nat) : Int), .ros (ls.map boxesL) ls.length c] 0), (5, .slice 0 0 (H * Z) (H * Z)), (6, i64 ((z : Nat) : Int)), (7, i64 ((0 : Nat) : Int))]) (H' := [(0, some (.cells (f.map n64) 3))]) (n := 1) rfl (fun mz_ qz_ => ∃ (h : Nat) (f2 : List Nat), h ≤ H ∧ f2 = fldK Z H ls[a] (z * H + h) ∧ mz_ = H - h ∧ qz_ = ⟨[(1, i64 ((a : Nat) : Int)), (2, .rop [i64 ((H : Nat) : Int), i64 ((Z : Nat) : Int), .ros (ls.map boxesL) ls.length c] 0), (5, .slice 0 0 (H * Z) (H * Z)), (6, i64 ((z : Nat) : Int)), (7, i64 ((h : Nat) : Int))], [(0, some (.cells (f2.map n64) 3))], 1, []⟩) ⟨0, f, (by omega), (by rw [hi0_1]; rfl), rfl, rfl⟩ id ⟨eD rfl rfl, eD rfl rfl, e_ rfl rfl, eD rfl rfl, eD rfl rfl, trivial⟩ ⟨rD (mapD (fun _ => rfl) _) rfl rfl, trivial⟩ rfl rfl rfl rfl (fun _ _ => rfl) ?_
    rintro _ _ ⟨h, f2, hi1_0, hi1_1, rfl, rfl⟩
    have hfl : f2.length = Z * H := by rw [hi1_1, fldK_len]
    refine W_seq rfl ?_
    refine W_seq rfl ?_
    refine W_reg rfl ?_
    refine Rv rfl rfl rfl (U_move rfl) rfl rfl ?_
    refine Rv rfl rfl rfl (U_fieldAddrR rfl) rfl rfl ?_
    refine Rv rfl rfl rfl (U_load1 rfl rfl rfl) rfl rfl ?_
    refine Rv rfl rfl rfl (U_lss rfl rfl) rfl rfl ?_
    refine Re rfl ?_
    refine thenQ_n ?_
    refine WcondP rfl rfl (fun hc1 => ?_) (fun hc1 => ?_)
    · have hch : h < H := by omega
      have hzh := zh_lt hcz hch
      refine W_skip rfl ?_
      refine thenQ_n ?_
      refine W_seq rfl ?_
      refine W_block rfl ?_
      refine W_seq rfl ?_
      refine W_reg rfl ?_
      refine Rv rfl rfl rfl (U_load3 rfl rfl rfl rfl rfl) rfl rfl ?_
      refine Rv rfl rfl rfl (U_move rfl) rfl rfl ?_
      refine Rv rfl rfl rfl (U_move rfl) rfl rfl ?_
      refine Rv rfl rfl rfl (U_move rfl) rfl rfl ?_
      refine Rv rfl rfl rfl (U_call rfl rfl (inR_p H Z ls c hv a z h (by omega) (by omega)) rfl) rfl rfl ?_
      refine Re rfl ?_
      refine thenQ_n ?_
      refine Wcond rfl rfl (fun hc2 => ?_) (fun hc2 => ?_)
      · refine W_reg rfl ?_
        refine Rv rfl rfl rfl (U_move rfl) rfl rfl ?_
        refine Rv rfl rfl rfl (U_move rfl) rfl rfl ?_
        refine Rv rfl rfl rfl (U_fieldAddrR rfl) rfl rfl ?_
        refine Rv rfl rfl rfl (U_load1 rfl rfl rfl) rfl rfl ?_
        refine Rv rfl rfl rfl (U_mul rfl rfl (w64e (m := ((z * H : Nat) : Int)) (by omega) (by omega) (by omega))) rfl rfl ?_
        refine Rv rfl rfl rfl (U_move rfl) rfl rfl ?_
        refine Rv rfl rfl rfl (U_add rfl rfl (w64e (m := ((z * H + h : Nat) : Int)) (by omega) (by omega) (by omega))) rfl rfl ?_
        have hx1 : (z * H + h) < f2.length := by omega
        refine Rv rfl rfl rfl (U_indexS (j := (z * H + h)) rfl rfl rfl (by omega)) rfl rfl ?_
        refine Rn rfl rfl rfl (U_store (n := 1) (cs' := (f2.set (z * H + h) 1).map n64) rfl rfl rfl rfl rfl (stLt hx1) rfl setM) rfl ?_
        refine Re rfl ?_
        refine blkQ_n ?_
        refine thenQ_n ?_
        refine W_reg rfl ?_
        refine Rv rfl rfl rfl (U_move rfl) rfl rfl ?_
        refine Rv rfl rfl rfl (U_add rfl rfl (w64e (m := ((h + 1 : Nat) : Int)) (by omega) (by omega) (by omega))) rfl rfl ?_
        refine Rv rfl rfl rfl (U_assign rfl) rfl rfl ?_
        refine Re rfl ?_
        refine thenQ_n ?_
        exact againTo (T' := [(1, i64 ((a : Nat) : Int)), (2, .rop [i64 ((H : Nat) : Int), i64 ((Z : Nat) : Int), .ros (ls.map boxesL) ls.length c] 0), (5, .slice 0 0 (H * Z) (H * Z)), (6, i64 ((z : Nat) : Int)), (7, i64 (((h + 1) : Nat) : Int))]) (H' := [(0, some (.cells ((f2.set (z * H + h) 1).map n64) 3))]) (n := 1) (H - (h + 1)) ⟨h + 1, f2.set (z * H + h) 1, (by omega), (by first | (rw [hi1_1]; exact fldK_t (by omega) (by omega) hc2) | (rw [hi1_1]; exact fldK_f (by omega) (by omega) (by simpa using hc2))), rfl, rfl⟩ (by omega) id ⟨eD rfl rfl, eD rfl rfl, e_ rfl rfl, eD rfl rfl, eD rfl rfl, trivial⟩ ⟨rD (mapD (fun _ => rfl) _) rfl rfl, trivial⟩ rfl rfl rfl rfl (fun _ _ => rfl)
      · have hc2' := Bool.eq_false_iff.1 hc2
        refine W_skip rfl ?_
        refine blkQ_n ?_
        refine thenQ_n ?_
        refine W_reg rfl ?_
        refine Rv rfl rfl rfl (U_move rfl) rfl rfl ?_
        refine Rv rfl rfl rfl (U_add rfl rfl (w64e (m := ((h + 1 : Nat) : Int)) (by omega) (by omega) (by omega))) rfl rfl ?_
        refine Rv rfl rfl rfl (U_assign rfl) rfl rfl ?_
        refine Re rfl ?_
        refine thenQ_n ?_
        exact againTo (T' := [(1, i64 ((a : Nat) : Int)), (2, .rop [i64 ((H : Nat) : Int), i64 ((Z : Nat) : Int), .ros (ls.map boxesL) ls.length c] 0), (5, .slice 0 0 (H * Z) (H * Z)), (6, i64 ((z : Nat) : Int)), (7, i64 (((h + 1) : Nat) : Int))]) (H' := [(0, some (.cells (f2.map n64) 3))]) (n := 1) (H - (h + 1)) ⟨h + 1, f2, (by omega), (by first | (rw [hi1_1]; exact fldK_t (by omega) (by omega) hc2) | (rw [hi1_1]; exact fldK_f (by omega) (by omega) (by simpa using hc2))), rfl, rfl⟩ (by omega) id ⟨eD rfl rfl, eD rfl rfl, e_ rfl rfl, eD rfl rfl, eD rfl rfl, trivial⟩ ⟨rD (mapD (fun _ => rfl) _) rfl rfl, trivial⟩ rfl rfl rfl rfl (fun _ _ => rfl)
    · refine W_exit rfl ?_
      refine thenQ_x ?_
      refine thenQ_x ?_
      refine blkQ_x rfl ?_
      refine blkQ_n ?_
      refine thenQ_n ?_
      refine W_reg rfl ?_
      refine Rv rfl rfl rfl (U_move rfl) rfl rfl ?_
      refine Rv rfl rfl rfl (U_add rfl rfl (w64e (m := ((z + 1 : Nat) : Int)) (by omega) (by omega) (by omega))) rfl rfl ?_
      refine Rv rfl rfl rfl (U_assign rfl) rfl rfl ?_
      refine Re rfl ?_
      refine thenQ_n ?_
      exact againTo (T' := [(1, i64 ((a : Nat) : Int)), (2, .rop [i64 ((H : Nat) : Int), i64 ((Z : Nat) : Int), .ros (ls.map boxesL) ls.length c] 0), (5, .slice 0 0 (H * Z) (H * Z)), (6, i64 (((z + 1) : Nat) : Int))]) (H' := [(0, some (.cells (f2.map n64) 3))]) (n := 1) (Z - (z + 1)) ⟨z + 1, f2, (by omega), (by rw [hi1_1, show h = H by omega, Nat.succ_mul]), rfl, rfl⟩ (by omega) id ⟨eD rfl rfl, eD rfl rfl, e_ rfl rfl, eD rfl rfl, trivial⟩ ⟨rD (mapD (fun _ => rfl) _) rfl rfl, trivial⟩ rfl rfl rfl rfl (fun _ _ => rfl)
  · refine W_exit rfl ?_
    refine thenQ_x ?_
    refine thenQ_x ?_
    refine blkQ_x rfl ?_
    refine thenQ_n ?_
    refine W_seq rfl ?_
    refine W_reg rfl ?_
    refine Rv rfl rfl rfl (U_move rfl) rfl rfl ?_
    refine Rv rfl rfl rfl (U_assign rfl) rfl rfl ?_
    refine Re rfl ?_
    refine thenQ_n ?_
    refine W_ret rfl ?_
    have hfq : f = fldQ Z H ls[a] := by rw [hi0_1, fldK_all (by rw [show z = Z by omega]; exact Nat.le_refl _)]
    subst hfq
    exact retTo (T' := [(4, .slice 0 0 (H * Z) (H * Z))]) id ⟨e_ rfl rfl, trivial⟩ ⟨rD (mapD (fun _ => rfl) _) rfl rfl, trivial⟩ rfl rfl (fun _ _ => rfl) (rlT rfl rl0) rfl
section
variable {Z H : Nat} {la : List Bx} {S : List (Nat × Nat)}
end
end Go.Proofs.Ythlolelbmhfdbaa
end

section
namespace Go.Proofs.Ythlolelbmhfdbaa
set_option maxRecDepth 20000
open Go.AE
theorem le_part {k n m : Nat} {F : List Nat} {c : Option Nat} (h : k + n ≤ F.length) (hm : m = n) : AV.le (.ros ((F.drop k).map n64) m c) (.ros (((F.drop k).take n).map n64) ((F.drop k).take n).length none) := by
  subst hm
  have h1 := le_trans (le_cap (cs := (F.drop k).map n64) (n := m) (c := c)) (le_rosT (m := m) (mapD (fun _ => rfl) _))
  have h2 : ((F.drop k).take m).length = m := by simp; omega
  rwa [← List.map_take, show AV.ros (((F.drop k).take m).map n64) m none = .ros (((F.drop k).take m).map n64) ((F.drop k).take m).length none by rw [h2]] at h1
section
variable {H z k h w : Nat} {p : Nat → Bool} {P : Nat → Nat → Bool}
end
end Go.Proofs.Ythlolelbmhfdbaa
end

section
namespace Go.Proofs.Ythlolelbmhfdbaa
set_option maxRecDepth 20000
open Go.AE
section
variable {H z k h w : Nat} {p : Nat → Bool} {P : Nat → Nat → Bool}
theorem widF_spec : ∀ (f w0 : Nat), w0 ≤ widF H p h f w0 ∧ widF H p h f w0 ≤ w0 + f ∧ (∀ j, w0 ≤ j → j < widF H p h f w0 → p ((h + j) % H) = true) ∧ (widF H p h f w0 = w0 + f ∨ p ((h + widF H p h f w0) % H) = false)
  | 0, w0 => ⟨Nat.le_refl _, Nat.le_refl _, fun j h1 h2 => by unfold widF at h2; omega, .inl rfl⟩
  | f + 1, w0 => by
    unfold widF
    split
    · rename_i hp
      obtain ⟨h1, h2, h3, h4⟩ := widF_spec f (w0 + 1)
      refine ⟨by omega, by omega, fun j hj hj2 => ?_, h4.imp (fun h => by omega) id⟩
      by_cases e : j = w0
      · subst e; exact hp
      · exact h3 j (by omega) hj2
    · rename_i hp
      exact ⟨Nat.le_refl _, by omega, fun j h1 h2 => by omega, .inr (by simpa using hp)⟩
theorem widQ_spec (hH : 1 ≤ H) (hp : p h = true) (hh : h < H) : 1 ≤ widQ H p h ∧ widQ H p h ≤ H ∧ (∀ j, j < widQ H p h → p ((h + j) % H) = true) ∧ (widQ H p h = H ∨ p ((h + widQ H p h) % H) = false) := by
  obtain ⟨h1, h2, h3, h4⟩ := widF_spec (H := H) (p := p) (h := h) (H - 1) 1
  refine ⟨h1, by unfold widQ; omega, fun j hj => ?_, h4.imp (fun h => by unfold widQ; omega) id⟩
  by_cases e : j = 0
  · subst e; rw [Nat.add_zero, Nat.mod_eq_of_lt hh]; exact hp
  · exact h3 j (by omega) hj
def runB (H : Nat) (p : Nat → Bool) (h : Nat) : Bool := p h && !(decide (widQ H p h < H) && p ((h + H - 1) % H) || decide (widQ H p h = H) && decide (0 < h))
def rnsG (H : Nat) (p : Nat → Bool) (z k : Nat) : List Bx := (List.range k).flatMap fun h => if runB H p h = true then [⟨h, widQ H p h, z, ((z + 1 : Nat) : Int)⟩] else []
theorem rnsG_succ : rnsG H p z (k + 1) = rnsG H p z k ++ if runB H p k = true then [⟨k, widQ H p k, z, ((z + 1 : Nat) : Int)⟩] else [] := by rw [rnsG, List.range_succ, List.flatMap_append]; simp [rnsG]
theorem rnsG_t (h : runB H p k = true) : rnsG H p z (k + 1) = rnsG H p z k ++ [⟨k, widQ H p k, z, ((z + 1 : Nat) : Int)⟩] := by rw [rnsG_succ, if_pos h]
theorem rnsG_f (h : runB H p k = false) : rnsG H p z (k + 1) = rnsG H p z k := by rw [rnsG_succ, if_neg (by rw [h]; decide), List.append_nil]
theorem rnsG_len : (rnsG H p z k).length ≤ k := by
  induction k with
  | zero => simp [rnsG]
  | succ k ih => rw [rnsG_succ, List.length_append]; split <;> simp <;> omega
theorem rnsG_Z (hH : 1 ≤ H) : rnsG H p z H = rnsZ H p z := by
  by_cases ha : (List.range H).all p = true
  · have hall : ∀ j, j < H → p j = true := fun j hj => List.all_eq_true.1 ha j (List.mem_range.2 hj)
    have hw : ∀ j, widQ H p j = H := fun j => widQ_eq hH (Nat.le_refl _) (fun i _ => hall _ (Nat.mod_lt _ (by omega))) (.inl rfl)
    rw [rnsZ_all hall]
    have : ∀ k, k + 1 ≤ H → rnsG H p z (k + 1) = [⟨0, H, z, ((z + 1 : Nat) : Int)⟩] := fun k => by
      induction k with
      | zero =>
        intro _
        rw [rnsG_t (by unfold runB; rw [hall 0 (by omega), hw]; simp), hw]; rfl
      | succ k ih =>
        intro h
        rw [rnsG_f (by unfold runB; rw [hall (k + 1) (by omega), hw]; simp), ih (by omega)]
    have := this (H - 1) (by omega)
    rwa [show H - 1 + 1 = H by omega] at this
  · obtain ⟨k0, hk0, hk1⟩ : ∃ k0, k0 < H ∧ p k0 = false := by
      have := List.all_eq_false.1 (Bool.eq_false_iff.2 ha)
      obtain ⟨x, hx, h2⟩ := this
      exact ⟨x, List.mem_range.1 hx, by simpa using h2⟩
    rw [rnsZ_not hk0 hk1]
    have : ∀ k, k ≤ H → rnsG H p z k = rnsH H p z k := fun k => by
      induction k with
      | zero => intro _; rfl
      | succ k ih =>
        intro h
        rw [rnsG_succ, rnsH_succ, ih (by omega)]
        congr 1
        have : runB H p k = true ↔ p k = true ∧ p ((k + H - 1) % H) = false := by
          unfold runB
          cases hpk : p k with
          | false => simp
          | true =>
            obtain ⟨_, h2, h3, _⟩ := widQ_spec hH hpk (by omega)
            have hlt : widQ H p k < H := by
              rcases Nat.lt_or_eq_of_le h2 with h9 | h9
              · exact h9
              · have := round_all (show k < H by omega) (fun j hj => h3 j (by omega)) k0 hk0
                rw [hk1] at this; cases this
            simp [hlt, Nat.ne_of_lt hlt]
        by_cases e : runB H p k = true
        · rw [if_pos e, if_pos (this.1 e)]
        · rw [if_neg e, if_neg (fun h => e (this.2 h))]
    exact this H (Nat.le_refl _)
theorem runB_of {V : Nat} {b : Bool} (hw : widQ H p h = w) (hp : p h = true) (hV : V = if p ((h + H - 1) % H) = true then 1 else 0) (hc : (bif decide ((w : Int) < (H : Int)) then (decide ((V : Int) = (1 : Int)) || (decide ((w : Int) = (H : Int)) && decide ((0 : Int) < (h : Int)))) else (decide ((w : Int) = (H : Int)) && decide ((0 : Int) < (h : Int)))) = b) : runB H p h = !b := by
  have e1 : decide ((w : Int) < (H : Int)) = decide (w < H) := by simp
  have e2 : decide ((V : Int) = (1 : Int)) = p ((h + H - 1) % H) := by rw [hV]; cases p ((h + H - 1) % H) <;> simp
  have e3 : decide ((w : Int) = (H : Int)) = decide (w = H) := by rw [decide_eq_decide]; omega
  have e4 : decide ((0 : Int) < (h : Int)) = decide (0 < h) := by rw [decide_eq_decide]; omega
  rw [e1, e2, e3, e4] at hc
  unfold runB
  rw [hw, hp, ← hc]
  cases decide (w < H) <;> simp
theorem runB_no (h : p k = false) : runB H p k = false := by unfold runB; rw [h]; rfl
end
theorem runsOf_p (H Z : Nat) (F : List Nat) (hFl : F.length = Z * H) (P : Nat → Nat → Bool) (hF : ∀ i (hi : i < F.length), F[i] = if P (i / H) (i % H) = true then 1 else 0) (hH : 1 ≤ H ∧ H ≤ 48) (hZ : Z ≤ 24) : Pure Try.prog 52 [fldA F (H * Z), i64 (H : Nat), i64 (Z : Nat)] (boxesA (rnsK H P Z) none) := by
  have hZHm : Z * H ≤ 1152 := Nat.mul_le_mul hZ hH.2
  have hHZc : H * Z = Z * H := Nat.mul_comm _ _
  refine pure_of_body Try.func52 (c := body Try.f52) rfl (by simp [Try.ntmps52]) fun w0 Φ0 => ?_
  refine W_seq rfl ?_
  refine W_reg rfl ?_
  refine Rv rfl rfl rfl (U_assign rfl) rfl rfl ?_
  refine Re rfl ?_
  refine thenQ_n ?_
  refine W_seq rfl ?_
  refine W_reg rfl ?_
  refine Rv rfl rfl rfl (U_assign rfl) rfl rfl ?_
  refine Re rfl ?_
  refine thenQ_n ?_
  refine W_seq rfl ?_
  refine W_seq rfl ?_
  refine W_reg rfl ?_
  refine Rv rfl rfl rfl (U_assign rfl) rfl rfl ?_
  refine Re rfl ?_
  refine thenQ_n ?_
  refine W_block rfl ?_
  refine LoopTo (T' := [(0, .ros (F.map n64) (H * Z) (some (H * Z))), (1, i64 ((H : Nat) : Int)), (2, i64 ((Z : Nat) : Int)), (7, .out 0 [].length 4), (8, i64 ((0 : Nat) : Int))]) (H' := [(0, outB ([].flatMap bxC) 44 [].length)]) (n := 1) rfl (fun mz_ qz_ => ∃ (z : Nat) (B : List Bx), z ≤ Z ∧ B = rnsK H P z ∧ mz_ = Z - z ∧ qz_ = ⟨[(0, .ros (F.map n64) (H * Z) (some (H * Z))), (1, i64 ((H : Nat) : Int)), (2, i64 ((Z : Nat) : Int)), (7, .out 0 B.length 4), (8, i64 ((z : Nat) : Int))], [(0, outB (B.flatMap bxC) 44 B.length)], 1, []⟩) ⟨0, [], (by omega), rfl, rfl, rfl⟩ id ⟨eD rfl rfl, eD rfl rfl, eD rfl rfl, eW rfl le_nils_out rfl, eD rfl rfl, trivial⟩ ⟨rO0 rfl, trivial⟩ rfl rfl rfl rfl (fun _ _ => rfl) ?_
  rintro _ _ ⟨z, B, hi0_0, hi0_1, rfl, rfl⟩
  have hBl : B.length ≤ z * H := by rw [hi0_1]; exact rnsK_len hH.1
  have hzZ : z * H ≤ Z * H := Nat.mul_le_mul_right H hi0_0
  have hZH : Z * H ≤ 1152 := Nat.mul_le_mul hZ hH.2
  refine W_seq rfl ?_
  refine W_seq rfl ?_
  refine W_reg rfl ?_
  refine Rv rfl rfl rfl (U_move rfl) rfl rfl ?_
  refine Rv rfl rfl rfl (U_move rfl) rfl rfl ?_
  refine Rv rfl rfl rfl (U_lss rfl rfl) rfl rfl ?_
  refine Re rfl ?_
  refine thenQ_n ?_
  refine WcondP rfl rfl (fun hc0 => ?_) (fun hc0 => ?_)
  · have hcz : z < Z := by omega
    have hzs : z * H + H ≤ Z * H := by have := Nat.mul_le_mul_right H (show z + 1 ≤ Z by omega); rw [Nat.succ_mul] at this; exact this
    have hvH : ((F.drop (z * H)).take H).length = H := by simp; omega
    have hrb : ∀ j (hj : j < ((F.drop (z * H)).take H).length), ((F.drop (z * H)).take H)[j] = if P z j = true then 1 else 0 := fun j hj => by have hjH : j < H := (by omega); have hd := zh_div (z := z) hjH; rw [List.getElem_take, List.getElem_drop, hF, hd.1, hd.2]
    refine W_skip rfl ?_
    refine thenQ_n ?_
    refine W_seq rfl ?_
    refine W_block rfl ?_
    refine W_seq rfl ?_
    refine W_reg rfl ?_
    refine Rv rfl rfl rfl (U_move rfl) rfl rfl ?_
    refine Rv rfl rfl rfl (U_move rfl) rfl rfl ?_
    refine Rv rfl rfl rfl (U_move rfl) rfl rfl ?_
    refine Rv rfl rfl rfl (U_mul rfl rfl (w64e (m := ((z * H : Nat) : Int)) (by omega) (by omega) (by omega))) rfl rfl ?_
    refine Rv rfl rfl rfl (U_move rfl) rfl rfl ?_
    refine Rv rfl rfl rfl (U_move rfl) rfl rfl ?_
    refine Rv rfl rfl rfl (U_mul rfl rfl (w64e (m := ((z * H : Nat) : Int)) (by omega) (by omega) (by omega))) rfl rfl ?_
    refine Rv rfl rfl rfl (U_move rfl) rfl rfl ?_
    refine Rv rfl rfl rfl (U_add rfl rfl (w64e (m := ((z * H + H : Nat) : Int)) (by omega) (by omega) (by omega))) rfl rfl ?_
    refine Rv rfl rfl rfl (OpU.weakV (le_part (F := F) (k := z * H) (n := H) (by omega) (by omega)) (U_sliceRL (l := z * H) (h := z * H + H) rfl rfl rfl (by omega) (by omega) (by rw [Nat.mul_one, ← List.map_drop]))) rfl rfl ?_
    refine Rv rfl rfl rfl (U_assign rfl) rfl rfl ?_
    refine Re rfl ?_
    refine thenQ_n ?_
    refine W_seq rfl ?_
    refine W_reg rfl ?_
    refine Rv rfl rfl rfl (U_assign rfl) rfl rfl ?_
    refine Re rfl ?_
    refine thenQ_n ?_
    refine W_block rfl ?_
    refine LoopTo (T' := [(0, .ros (F.map n64) (H * Z) (some (H * Z))), (1, i64 ((H : Nat) : Int)), (2, i64 ((Z : Nat) : Int)), (7, .out 0 B.length 4), (8, i64 ((z : Nat) : Int)), (9, .ros (((F.drop (z * H)).take H).map n64) (((F.drop (z * H)).take H).length) none), (10, i64 ((0 : Nat) : Int))]) (H' := [(0, outB (B.flatMap bxC) 44 B.length)]) (n := 1) rfl (fun mz_ qz_ => ∃ (h : Nat) (B2 : List Bx), h ≤ H ∧ B2 = B ++ rnsG H (P z) z h ∧ mz_ = H - h ∧ qz_ = ⟨[(0, .ros (F.map n64) (H * Z) (some (H * Z))), (1, i64 ((H : Nat) : Int)), (2, i64 ((Z : Nat) : Int)), (7, .out 0 B2.length 4), (8, i64 ((z : Nat) : Int)), (9, .ros (((F.drop (z * H)).take H).map n64) (((F.drop (z * H)).take H).length) none), (10, i64 ((h : Nat) : Int))], [(0, outB (B2.flatMap bxC) 44 B2.length)], 1, []⟩) ⟨0, B, (by omega), (by simp [rnsG]), rfl, rfl⟩ id ⟨eD rfl rfl, eD rfl rfl, eD rfl rfl, e_ rfl rfl, eD rfl rfl, eD rfl rfl, eD rfl rfl, trivial⟩ ⟨rO (flatD (fun _ => rfl) _) rfl rfl, trivial⟩ rfl rfl rfl rfl (fun _ _ => rfl) ?_
    rintro _ _ ⟨h, B2, hi1_0, hi1_1, rfl, rfl⟩
    have hB2 : B2.length ≤ B.length + H := by have := rnsG_len (H := H) (p := P z) (z := z) (k := h); rw [hi1_1, List.length_append]; omega
    refine W_seq rfl ?_
    refine W_seq rfl ?_
    refine W_reg rfl ?_
    refine Rv rfl rfl rfl (U_move rfl) rfl rfl ?_
    refine Rv rfl rfl rfl (U_move rfl) rfl rfl ?_
    refine Rv rfl rfl rfl (U_lss rfl rfl) rfl rfl ?_
    refine Re rfl ?_
    refine thenQ_n ?_
    refine WcondP rfl rfl (fun hc1 => ?_) (fun hc1 => ?_)
    · have hch : h < H := by omega
      have hmp : (h + H - 1) % H < H := Nat.mod_lt _ (by omega)
      refine W_skip rfl ?_
      refine thenQ_n ?_
      refine W_seq rfl ?_
      refine W_block rfl ?_
      refine W_seq rfl ?_
      refine W_seq rfl ?_
      refine W_reg rfl ?_
      refine Rv rfl rfl rfl (U_move rfl) rfl rfl ?_
      refine Rv rfl rfl rfl (U_move rfl) rfl rfl ?_
      have hx1 : h < ((F.drop (z * H)).take H).length := by omega
      refine Rv rfl rfl rfl (U_indexR (j := h) rfl rfl rfl hx1) rfl rfl ?_
      refine Rv rfl rfl rfl (U_load1 rfl rfl (getM hx1)) rfl rfl ?_
      refine Rv rfl rfl rfl (U_eql rfl rfl) rfl rfl ?_
      refine Re rfl ?_
      refine thenQ_n ?_
      refine WcondP rfl rfl (fun hc2 => ?_) (fun hc2 => ?_)
      · have hskip : runB H (P z) h = false := runB_no (by have h7 := hrb h (by omega); by_cases e : P z h = true; rw [if_pos e] at h7; omega; simpa using e)
        refine W_exit rfl ?_
        refine thenQ_x ?_
        refine blkQ_x rfl ?_
        refine thenQ_n ?_
        refine W_reg rfl ?_
        refine Rv rfl rfl rfl (U_move rfl) rfl rfl ?_
        refine Rv rfl rfl rfl (U_add rfl rfl (w64e (m := ((h + 1 : Nat) : Int)) (by omega) (by omega) (by omega))) rfl rfl ?_
        refine Rv rfl rfl rfl (U_assign rfl) rfl rfl ?_
        refine Re rfl ?_
        refine thenQ_n ?_
        exact againTo (T' := [(0, .ros (F.map n64) (H * Z) (some (H * Z))), (1, i64 ((H : Nat) : Int)), (2, i64 ((Z : Nat) : Int)), (7, .out 0 B2.length 4), (8, i64 ((z : Nat) : Int)), (9, .ros (((F.drop (z * H)).take H).map n64) (((F.drop (z * H)).take H).length) none), (10, i64 (((h + 1) : Nat) : Int))]) (H' := [(0, outB (B2.flatMap bxC) 44 B2.length)]) (n := 1) (H - (h + 1)) ⟨h + 1, B2, (by omega), (by first | (rw [rnsG_f hskip]; exact hi1_1) | (rw [rnsG_t hrun, hwid, ← List.append_assoc, ← hi1_1])), rfl, rfl⟩ (by omega) id ⟨eD rfl rfl, eD rfl rfl, eD rfl rfl, e_ rfl rfl, eD rfl rfl, eD rfl rfl, eD rfl rfl, trivial⟩ ⟨rO (flatD (fun _ => rfl) _) rfl rfl, trivial⟩ rfl rfl rfl rfl (fun _ _ => rfl)
      · have hpk : P z h = true := by have h7 := hrb h (by omega); by_cases e : P z h = true; exact e; rw [if_neg e] at h7; omega
        refine W_skip rfl ?_
        refine thenQ_n ?_
        refine W_seq rfl ?_
        refine W_reg rfl ?_
        refine Rv rfl rfl rfl (U_assign rfl) rfl rfl ?_
        refine Re rfl ?_
        refine thenQ_n ?_
        refine W_seq rfl ?_
        refine W_block rfl ?_
        refine LoopTo (T' := [(0, .ros (F.map n64) (H * Z) (some (H * Z))), (1, i64 ((H : Nat) : Int)), (2, i64 ((Z : Nat) : Int)), (7, .out 0 B2.length 4), (8, i64 ((z : Nat) : Int)), (9, .ros (((F.drop (z * H)).take H).map n64) (((F.drop (z * H)).take H).length) none), (10, i64 ((h : Nat) : Int)), (11, i64 ((1 : Nat) : Int))]) (H' := [(0, outB (B2.flatMap bxC) 44 B2.length)]) (n := 1) rfl (fun mz_ qz_ => ∃ (w : Nat), (1 ≤ w ∧ w ≤ H) ∧ ((∀ j, j < w → P z ((h + j) % H) = true)) ∧ mz_ = H - w ∧ qz_ = ⟨[(0, .ros (F.map n64) (H * Z) (some (H * Z))), (1, i64 ((H : Nat) : Int)), (2, i64 ((Z : Nat) : Int)), (7, .out 0 B2.length 4), (8, i64 ((z : Nat) : Int)), (9, .ros (((F.drop (z * H)).take H).map n64) (((F.drop (z * H)).take H).length) none), (10, i64 ((h : Nat) : Int)), (11, i64 ((w : Nat) : Int))], [(0, outB (B2.flatMap bxC) 44 B2.length)], 1, []⟩) ⟨1, (by omega), (fun j hj => by obtain rfl : j = 0 := (by omega); rw [Nat.add_zero, Nat.mod_eq_of_lt hch]; exact hpk), rfl, rfl⟩ id ⟨eD rfl rfl, eD rfl rfl, eD rfl rfl, e_ rfl rfl, eD rfl rfl, eD rfl rfl, eD rfl rfl, eD rfl rfl, trivial⟩ ⟨rO (flatD (fun _ => rfl) _) rfl rfl, trivial⟩ rfl rfl rfl rfl (fun _ _ => rfl) ?_
        rintro _ _ ⟨w, hi2_0, hi2_1, rfl, rfl⟩
        have hmw : (h + w) % H < H := Nat.mod_lt _ (by omega)
        refine W_seq rfl ?_
        refine W_seq rfl ?_
        refine Wjoin ⟨[(0, .ros (F.map n64) (H * Z) (some (H * Z))), (1, i64 ((H : Nat) : Int)), (2, i64 ((Z : Nat) : Int)), (7, .out 0 B2.length 4), (8, i64 ((z : Nat) : Int)), (9, .ros (((F.drop (z * H)).take H).map n64) (((F.drop (z * H)).take H).length) none), (10, i64 ((h : Nat) : Int)), (11, i64 ((w : Nat) : Int)), (50, .bool ((decide (((w : Nat) : Int) < ((H : Nat) : Int))) && (decide (((((F.drop (z * H)).take H)[((h + w) % H)] : Nat) : Int) = (1 : Int)))))], [(0, outB (B2.flatMap bxC) 44 B2.length)], 1, []⟩ ?_ ?_
        · refine W_reg rfl ?_
          refine Rv rfl rfl rfl (U_move rfl) rfl rfl ?_
          refine Rv rfl rfl rfl (U_move rfl) rfl rfl ?_
          refine Rv rfl rfl rfl (U_lss rfl rfl) rfl rfl ?_
          refine Rv rfl rfl rfl (U_move rfl) rfl rfl ?_
          refine Rsplit (t := 40) rfl (fun hg2 => ?_) (fun hg2 => ?_)
          · rw [hg2]
            have hg2' : ((w : Nat) : Int) < ((H : Nat) : Int) := of_decide_eq_true hg2
            refine Rv rfl rfl rfl (U_move rfl) rfl rfl ?_
            refine Rv rfl rfl rfl (U_move rfl) rfl rfl ?_
            refine Rv rfl rfl rfl (U_move rfl) rfl rfl ?_
            refine Rv rfl rfl rfl (U_add rfl rfl (w64e (m := ((h + w : Nat) : Int)) (by omega) (by omega) (by omega))) rfl rfl ?_
            refine Rv rfl rfl rfl (U_move rfl) rfl rfl ?_
            refine Rv rfl rfl rfl (U_rem (c := (((h + w) % H : Nat) : Int)) rfl rfl (by omega) (tmodN _ _)) rfl rfl ?_
            have hx3 : ((h + w) % H) < ((F.drop (z * H)).take H).length := by omega
            refine Rv rfl rfl rfl (U_indexR (j := ((h + w) % H)) rfl rfl rfl hx3) rfl rfl ?_
            refine Rv rfl rfl rfl (U_load1 rfl rfl (getM hx3)) rfl rfl ?_
            refine Rv rfl rfl rfl (U_eql rfl rfl) rfl rfl ?_
            refine Rv rfl rfl rfl (U_pick_t rfl rfl) rfl rfl ?_
            refine Re rfl ?_
            exact joinTo id ⟨eD rfl rfl, eD rfl rfl, eD rfl rfl, e_ rfl rfl, eD rfl rfl, eD rfl rfl, eD rfl rfl, eD rfl rfl, eD rfl rfl, trivial⟩ ⟨rO (flatD (fun _ => rfl) _) rfl rfl, trivial⟩ rfl rfl rfl rfl (fun _ _ => rfl)
          · rw [hg2]
            have hg2' : ¬ (((w : Nat) : Int) < ((H : Nat) : Int)) := of_decide_eq_false hg2
            refine Rs rfl rfl rfl rfl rfl ?_
            refine Rs rfl rfl rfl rfl rfl ?_
            refine Rs rfl rfl rfl rfl rfl ?_
            refine Rs rfl rfl rfl rfl rfl ?_
            refine Rs rfl rfl rfl rfl rfl ?_
            refine Rs rfl rfl rfl rfl rfl ?_
            refine Rs rfl rfl rfl rfl rfl ?_
            refine Rs rfl rfl rfl rfl rfl ?_
            refine Rs rfl rfl rfl rfl rfl ?_
            refine Rv rfl rfl rfl (U_pick_f rfl rfl) rfl rfl ?_
            refine Re rfl ?_
            exact joinTo id ⟨eD rfl rfl, eD rfl rfl, eD rfl rfl, e_ rfl rfl, eD rfl rfl, eD rfl rfl, eD rfl rfl, eD rfl rfl, eD rfl rfl, trivial⟩ ⟨rO (flatD (fun _ => rfl) _) rfl rfl, trivial⟩ rfl rfl rfl rfl (fun _ _ => rfl)
        refine thenQ_n ?_
        refine Wcond rfl rfl (fun hc3 => ?_) (fun hc3 => ?_)
        · have hc3s : w < H ∧ ((F.drop (z * H)).take H)[(h + w) % H] = 1 := by simp at hc3; exact ⟨by omega, by simp; omega⟩
          have hpw : P z ((h + w) % H) = true := by have h7 := hrb ((h + w) % H) (by omega); by_cases e : P z ((h + w) % H) = true; exact e; rw [if_neg e] at h7; omega
          refine W_skip rfl ?_
          refine thenQ_n ?_
          refine W_block rfl ?_
          refine W_reg rfl ?_
          refine Rv rfl rfl rfl (U_move rfl) rfl rfl ?_
          refine Rv rfl rfl rfl (U_add rfl rfl (w64e (m := ((w + 1 : Nat) : Int)) (by omega) (by omega) (by omega))) rfl rfl ?_
          refine Rv rfl rfl rfl (U_assign rfl) rfl rfl ?_
          refine Re rfl ?_
          refine blkQ_n ?_
          refine thenQ_n ?_
          exact againTo (T' := [(0, .ros (F.map n64) (H * Z) (some (H * Z))), (1, i64 ((H : Nat) : Int)), (2, i64 ((Z : Nat) : Int)), (7, .out 0 B2.length 4), (8, i64 ((z : Nat) : Int)), (9, .ros (((F.drop (z * H)).take H).map n64) (((F.drop (z * H)).take H).length) none), (10, i64 ((h : Nat) : Int)), (11, i64 (((w + 1) : Nat) : Int))]) (H' := [(0, outB (B2.flatMap bxC) 44 B2.length)]) (n := 1) (H - (w + 1)) ⟨w + 1, (by omega), (fun j hj => by rcases Nat.lt_succ_iff_lt_or_eq.1 hj with hj | rfl; exact hi2_1 j hj; exact hpw), rfl, rfl⟩ (by omega) id ⟨eD rfl rfl, eD rfl rfl, eD rfl rfl, e_ rfl rfl, eD rfl rfl, eD rfl rfl, eD rfl rfl, eD rfl rfl, trivial⟩ ⟨rO (flatD (fun _ => rfl) _) rfl rfl, trivial⟩ rfl rfl rfl rfl (fun _ _ => rfl)
        · have hc3' := Bool.eq_false_iff.1 hc3
          have hpw : w = H ∨ P z ((h + w) % H) = false := by rcases Nat.lt_or_ge w H with h8 | h8; right; have h7 := hrb ((h + w) % H) (by omega); by_cases e : P z ((h + w) % H) = true; rw [if_pos e] at h7; exfalso; simp [h8] at hc3 h7; omega; simpa using e; exact .inl (by omega)
          have hwid := widQ_eq hi2_0.1 hi2_0.2 hi2_1 hpw
          refine W_exit rfl ?_
          refine thenQ_x ?_
          refine thenQ_x ?_
          refine blkQ_x rfl ?_
          refine thenQ_n ?_
          refine W_seq rfl ?_
          refine W_seq rfl ?_
          refine Wjoin ⟨[(0, .ros (F.map n64) (H * Z) (some (H * Z))), (1, i64 ((H : Nat) : Int)), (2, i64 ((Z : Nat) : Int)), (7, .out 0 B2.length 4), (8, i64 ((z : Nat) : Int)), (9, .ros (((F.drop (z * H)).take H).map n64) (((F.drop (z * H)).take H).length) none), (10, i64 ((h : Nat) : Int)), (11, i64 ((w : Nat) : Int)), (76, .bool (bif (decide (((w : Nat) : Int) < ((H : Nat) : Int))) then ((decide (((((F.drop (z * H)).take H)[((h + H - 1) % H)] : Nat) : Int) = (1 : Int))) || ((decide (((w : Nat) : Int) = ((H : Nat) : Int))) && (decide ((0 : Int) < ((h : Nat) : Int))))) else ((decide (((w : Nat) : Int) = ((H : Nat) : Int))) && (decide ((0 : Int) < ((h : Nat) : Int))))))], [(0, outB (B2.flatMap bxC) 44 B2.length)], 1, []⟩ ?_ ?_
          · refine W_reg rfl ?_
            refine Rv rfl rfl rfl (U_move rfl) rfl rfl ?_
            refine Rv rfl rfl rfl (U_move rfl) rfl rfl ?_
            refine Rv rfl rfl rfl (U_lss rfl rfl) rfl rfl ?_
            refine Rv rfl rfl rfl (U_move rfl) rfl rfl ?_
            refine Rsplit (t := 56) rfl (fun hg4 => ?_) (fun hg4 => ?_)
            · rw [hg4]
              have hg4' : ((w : Nat) : Int) < ((H : Nat) : Int) := of_decide_eq_true hg4
              refine Rv rfl rfl rfl (U_move rfl) rfl rfl ?_
              refine Rv rfl rfl rfl (U_move rfl) rfl rfl ?_
              refine Rv rfl rfl rfl (U_move rfl) rfl rfl ?_
              refine Rv rfl rfl rfl (U_add rfl rfl (w64e (m := ((h + H : Nat) : Int)) (by omega) (by omega) (by omega))) rfl rfl ?_
              refine Rv rfl rfl rfl (U_sub rfl rfl (w64e (m := ((h + H - 1 : Nat) : Int)) (by omega) (by omega) (by omega))) rfl rfl ?_
              refine Rv rfl rfl rfl (U_move rfl) rfl rfl ?_
              refine Rv rfl rfl rfl (U_rem (c := (((h + H - 1) % H : Nat) : Int)) rfl rfl (by omega) (tmodN _ _)) rfl rfl ?_
              have hx5 : ((h + H - 1) % H) < ((F.drop (z * H)).take H).length := by omega
              refine Rv rfl rfl rfl (U_indexR (j := ((h + H - 1) % H)) rfl rfl rfl hx5) rfl rfl ?_
              refine Rv rfl rfl rfl (U_load1 rfl rfl (getM hx5)) rfl rfl ?_
              refine Rv rfl rfl rfl (U_eql rfl rfl) rfl rfl ?_
              refine Rv rfl rfl rfl (U_pick_t rfl rfl) rfl rfl ?_
              refine Rv rfl rfl rfl (U_move rfl) rfl rfl ?_
              refine Rsplit (t := 68) rfl (fun hg6 => ?_) (fun hg6 => ?_)
              · rw [hg6]
                have hg6' : ((((F.drop (z * H)).take H)[((h + H - 1) % H)] : Nat) : Int) = (1 : Int) := of_decide_eq_true hg6
                refine Rs rfl rfl rfl rfl rfl ?_
                refine Rs rfl rfl rfl rfl rfl ?_
                refine Rs rfl rfl rfl rfl rfl ?_
                refine Rs rfl rfl rfl rfl rfl ?_
                refine Rs rfl rfl rfl rfl rfl ?_
                refine Rs rfl rfl rfl rfl rfl ?_
                refine Rs rfl rfl rfl rfl rfl ?_
                refine Rv rfl rfl rfl (U_pick_t rfl rfl) rfl rfl ?_
                refine Re rfl ?_
                exact joinTo id ⟨eD rfl rfl, eD rfl rfl, eD rfl rfl, e_ rfl rfl, eD rfl rfl, eD rfl rfl, eD rfl rfl, eD rfl rfl, eD rfl rfl, trivial⟩ ⟨rO (flatD (fun _ => rfl) _) rfl rfl, trivial⟩ rfl rfl rfl rfl (fun _ _ => rfl)
              · rw [hg6]
                have hg6' : ¬ (((((F.drop (z * H)).take H)[((h + H - 1) % H)] : Nat) : Int) = (1 : Int)) := of_decide_eq_false hg6
                refine Rv rfl rfl rfl (U_move rfl) rfl rfl ?_
                refine Rv rfl rfl rfl (U_move rfl) rfl rfl ?_
                refine Rv rfl rfl rfl (U_eql rfl rfl) rfl rfl ?_
                refine Rv rfl rfl rfl (U_move rfl) rfl rfl ?_
                refine Rsplit (t := 72) rfl (fun hg7 => ?_) (fun hg7 => ?_)
                · rw [hg7]
                  have hg7' : ((w : Nat) : Int) = ((H : Nat) : Int) := of_decide_eq_true hg7
                  refine Rv rfl rfl rfl (U_move rfl) rfl rfl ?_
                  refine Rv rfl rfl rfl (U_gtr rfl rfl) rfl rfl ?_
                  refine Rv rfl rfl rfl (U_pick_t rfl rfl) rfl rfl ?_
                  refine Rv rfl rfl rfl (U_pick_f rfl rfl) rfl rfl ?_
                  refine Re rfl ?_
                  exact joinTo id ⟨eD rfl rfl, eD rfl rfl, eD rfl rfl, e_ rfl rfl, eD rfl rfl, eD rfl rfl, eD rfl rfl, eD rfl rfl, eD rfl rfl, trivial⟩ ⟨rO (flatD (fun _ => rfl) _) rfl rfl, trivial⟩ rfl rfl rfl rfl (fun _ _ => rfl)
                · rw [hg7]
                  have hg7' : ¬ (((w : Nat) : Int) = ((H : Nat) : Int)) := of_decide_eq_false hg7
                  refine Rs rfl rfl rfl rfl rfl ?_
                  refine Rs rfl rfl rfl rfl rfl ?_
                  refine Rv rfl rfl rfl (U_pick_f rfl rfl) rfl rfl ?_
                  refine Rv rfl rfl rfl (U_pick_f rfl rfl) rfl rfl ?_
                  refine Re rfl ?_
                  exact joinTo id ⟨eD rfl rfl, eD rfl rfl, eD rfl rfl, e_ rfl rfl, eD rfl rfl, eD rfl rfl, eD rfl rfl, eD rfl rfl, eD rfl rfl, trivial⟩ ⟨rO (flatD (fun _ => rfl) _) rfl rfl, trivial⟩ rfl rfl rfl rfl (fun _ _ => rfl)
            · rw [hg4]
              have hg4' : ¬ (((w : Nat) : Int) < ((H : Nat) : Int)) := of_decide_eq_false hg4
              refine Rs rfl rfl rfl rfl rfl ?_
              refine Rs rfl rfl rfl rfl rfl ?_
              refine Rs rfl rfl rfl rfl rfl ?_
              refine Rs rfl rfl rfl rfl rfl ?_
              refine Rs rfl rfl rfl rfl rfl ?_
              refine Rs rfl rfl rfl rfl rfl ?_
              refine Rs rfl rfl rfl rfl rfl ?_
              refine Rs rfl rfl rfl rfl rfl ?_
              refine Rs rfl rfl rfl rfl rfl ?_
              refine Rs rfl rfl rfl rfl rfl ?_
              refine Rv rfl rfl rfl (U_pick_f rfl rfl) rfl rfl ?_
              refine Rv rfl rfl rfl (U_move rfl) rfl rfl ?_
              refine Rv rfl rfl rfl (U_move rfl) rfl rfl ?_
              refine Rv rfl rfl rfl (U_move rfl) rfl rfl ?_
              refine Rv rfl rfl rfl (U_eql rfl rfl) rfl rfl ?_
              refine Rv rfl rfl rfl (U_move rfl) rfl rfl ?_
              refine Rsplit (t := 72) rfl (fun hg8 => ?_) (fun hg8 => ?_)
              · rw [hg8]
                have hg8' : ((w : Nat) : Int) = ((H : Nat) : Int) := of_decide_eq_true hg8
                refine Rv rfl rfl rfl (U_move rfl) rfl rfl ?_
                refine Rv rfl rfl rfl (U_gtr rfl rfl) rfl rfl ?_
                refine Rv rfl rfl rfl (U_pick_t rfl rfl) rfl rfl ?_
                refine Rv rfl rfl rfl (U_pick_f rfl rfl) rfl rfl ?_
                refine Re rfl ?_
                exact joinTo id ⟨eD rfl rfl, eD rfl rfl, eD rfl rfl, e_ rfl rfl, eD rfl rfl, eD rfl rfl, eD rfl rfl, eD rfl rfl, eD rfl rfl, trivial⟩ ⟨rO (flatD (fun _ => rfl) _) rfl rfl, trivial⟩ rfl rfl rfl rfl (fun _ _ => rfl)
              · rw [hg8]
                have hg8' : ¬ (((w : Nat) : Int) = ((H : Nat) : Int)) := of_decide_eq_false hg8
                refine Rs rfl rfl rfl rfl rfl ?_
                refine Rs rfl rfl rfl rfl rfl ?_
                refine Rv rfl rfl rfl (U_pick_f rfl rfl) rfl rfl ?_
                refine Rv rfl rfl rfl (U_pick_f rfl rfl) rfl rfl ?_
                refine Re rfl ?_
                exact joinTo id ⟨eD rfl rfl, eD rfl rfl, eD rfl rfl, e_ rfl rfl, eD rfl rfl, eD rfl rfl, eD rfl rfl, eD rfl rfl, eD rfl rfl, trivial⟩ ⟨rO (flatD (fun _ => rfl) _) rfl rfl, trivial⟩ rfl rfl rfl rfl (fun _ _ => rfl)
          refine thenQ_n ?_
          refine Wcond rfl rfl (fun hc4 => ?_) (fun hc4 => ?_)
          · have hskip : runB H (P z) h = false := runB_of hwid hpk (hrb ((h + H - 1) % H) (by omega)) hc4
            refine W_exit rfl ?_
            refine thenQ_x ?_
            refine blkQ_x rfl ?_
            refine thenQ_n ?_
            refine W_reg rfl ?_
            refine Rv rfl rfl rfl (U_move rfl) rfl rfl ?_
            refine Rv rfl rfl rfl (U_add rfl rfl (w64e (m := ((h + 1 : Nat) : Int)) (by omega) (by omega) (by omega))) rfl rfl ?_
            refine Rv rfl rfl rfl (U_assign rfl) rfl rfl ?_
            refine Re rfl ?_
            refine thenQ_n ?_
            exact againTo (T' := [(0, .ros (F.map n64) (H * Z) (some (H * Z))), (1, i64 ((H : Nat) : Int)), (2, i64 ((Z : Nat) : Int)), (7, .out 0 B2.length 4), (8, i64 ((z : Nat) : Int)), (9, .ros (((F.drop (z * H)).take H).map n64) (((F.drop (z * H)).take H).length) none), (10, i64 (((h + 1) : Nat) : Int))]) (H' := [(0, outB (B2.flatMap bxC) 44 B2.length)]) (n := 1) (H - (h + 1)) ⟨h + 1, B2, (by omega), (by first | (rw [rnsG_f hskip]; exact hi1_1) | (rw [rnsG_t hrun, hwid, ← List.append_assoc, ← hi1_1])), rfl, rfl⟩ (by omega) id ⟨eD rfl rfl, eD rfl rfl, eD rfl rfl, e_ rfl rfl, eD rfl rfl, eD rfl rfl, eD rfl rfl, trivial⟩ ⟨rO (flatD (fun _ => rfl) _) rfl rfl, trivial⟩ rfl rfl rfl rfl (fun _ _ => rfl)
          · have hc4' := Bool.eq_false_iff.1 hc4
            have hrun : runB H (P z) h = true := runB_of hwid hpk (hrb ((h + H - 1) % H) (by omega)) hc4
            refine W_skip rfl ?_
            refine thenQ_n ?_
            refine W_reg rfl ?_
            refine Rv rfl rfl rfl (U_move rfl) rfl rfl ?_
            refine Rv rfl rfl rfl (U_move rfl) rfl rfl ?_
            refine Rv rfl rfl rfl (U_move rfl) rfl rfl ?_
            refine Rv rfl rfl rfl (U_move rfl) rfl rfl ?_
            refine Rv rfl rfl rfl (U_move rfl) rfl rfl ?_
            refine Rv rfl rfl rfl (U_add rfl rfl (w64e (m := ((z + 1 : Nat) : Int)) (by omega) (by omega) (by omega))) rfl rfl ?_
            refine Rv rfl rfl rfl (U_build rfl rfl) rfl rfl ?_
            refine Rv rfl rfl rfl (U_buildSliceF (by rfl) (by decide) rfl rfl rfl) rfl rfl ?_
            refine Ra rfl rfl rfl (U_appO (b := 0) (m := 0) (cs' := (B2 ++ [(⟨h, w, z, ((z + 1 : Nat) : Int)⟩ : Bx)]).flatMap bxC) (n' := (B2 ++ [(⟨h, w, z, ((z + 1 : Nat) : Int)⟩ : Bx)]).length) rfl rfl (by simp) rfl (flat_len (z := 4) (fun _ => rfl) _) rfl rfl (by omega) (appF (f := bxC) B2 (⟨h, w, z, ((z + 1 : Nat) : Int)⟩ : Bx)) (len1 _ _)) rfl rfl rfl ?_
            refine Rv rfl rfl rfl (U_assign rfl) rfl rfl ?_
            refine Re rfl ?_
            refine blkQ_n ?_
            refine thenQ_n ?_
            refine W_reg rfl ?_
            refine Rv rfl rfl rfl (U_move rfl) rfl rfl ?_
            refine Rv rfl rfl rfl (U_add rfl rfl (w64e (m := ((h + 1 : Nat) : Int)) (by omega) (by omega) (by omega))) rfl rfl ?_
            refine Rv rfl rfl rfl (U_assign rfl) rfl rfl ?_
            refine Re rfl ?_
            refine thenQ_n ?_
            exact againTo (T' := [(0, .ros (F.map n64) (H * Z) (some (H * Z))), (1, i64 ((H : Nat) : Int)), (2, i64 ((Z : Nat) : Int)), (7, .out 0 (B2 ++ [(⟨h, w, z, ((z + 1 : Nat) : Int)⟩ : Bx)]).length 4), (8, i64 ((z : Nat) : Int)), (9, .ros (((F.drop (z * H)).take H).map n64) (((F.drop (z * H)).take H).length) none), (10, i64 (((h + 1) : Nat) : Int))]) (H' := [(0, outB ((B2 ++ [(⟨h, w, z, ((z + 1 : Nat) : Int)⟩ : Bx)]).flatMap bxC) 44 (B2 ++ [(⟨h, w, z, ((z + 1 : Nat) : Int)⟩ : Bx)]).length)]) (n := 1) (H - (h + 1)) ⟨h + 1, B2 ++ [(⟨h, w, z, ((z + 1 : Nat) : Int)⟩ : Bx)], (by omega), (by first | (rw [rnsG_f hskip]; exact hi1_1) | (rw [rnsG_t hrun, hwid, ← List.append_assoc, ← hi1_1])), rfl, rfl⟩ (by omega) (mapN [1]) ⟨eD rfl rfl, eD rfl rfl, eD rfl rfl, e_ rfl rfl, eD rfl rfl, eD rfl rfl, eD rfl rfl, trivial⟩ ⟨rO (flatD (fun _ => rfl) _) rfl rfl, trivial⟩ rfl rfl rfl rfl (fun _ h => absurd h (Nat.not_lt_zero _))
    · refine W_exit rfl ?_
      refine thenQ_x ?_
      refine thenQ_x ?_
      refine blkQ_x rfl ?_
      refine blkQ_n ?_
      refine thenQ_n ?_
      refine W_reg rfl ?_
      refine Rv rfl rfl rfl (U_move rfl) rfl rfl ?_
      refine Rv rfl rfl rfl (U_add rfl rfl (w64e (m := ((z + 1 : Nat) : Int)) (by omega) (by omega) (by omega))) rfl rfl ?_
      refine Rv rfl rfl rfl (U_assign rfl) rfl rfl ?_
      refine Re rfl ?_
      refine thenQ_n ?_
      exact againTo (T' := [(0, .ros (F.map n64) (H * Z) (some (H * Z))), (1, i64 ((H : Nat) : Int)), (2, i64 ((Z : Nat) : Int)), (7, .out 0 B2.length 4), (8, i64 (((z + 1) : Nat) : Int))]) (H' := [(0, outB (B2.flatMap bxC) 44 B2.length)]) (n := 1) (Z - (z + 1)) ⟨z + 1, B2, (by omega), (by rw [rnsK_succ, ← rnsG_Z hH.1, hi1_1, show h = H by omega, hi0_1]), rfl, rfl⟩ (by omega) id ⟨eD rfl rfl, eD rfl rfl, eD rfl rfl, e_ rfl rfl, eD rfl rfl, trivial⟩ ⟨rO (flatD (fun _ => rfl) _) rfl rfl, trivial⟩ rfl rfl rfl rfl (fun _ _ => rfl)
  · refine W_exit rfl ?_
    refine thenQ_x ?_
    refine thenQ_x ?_
    refine blkQ_x rfl ?_
    refine thenQ_n ?_
    refine W_seq rfl ?_
    refine W_reg rfl ?_
    refine Rv rfl rfl rfl (U_move rfl) rfl rfl ?_
    refine Rv rfl rfl rfl (U_assign rfl) rfl rfl ?_
    refine Re rfl ?_
    refine thenQ_n ?_
    refine WfrO 0 (B.flatMap bxC) rfl (flatD (fun _ => rfl) _) (T' := [(6, .ros (B.flatMap bxC) B.length none)]) (H' := []) ⟨fO rfl, trivial⟩ trivial ?_
    refine W_ret rfl ?_
    exact retL (rlT rfl rl0) (by first | rfl | (simp only [packA]; rw [hi0_1, show z = Z by omega]; first | done | rfl)) rfl
theorem fldQ_is {Z H : Nat} {l : List Bx} : ∀ i (hi : i < (fldQ Z H l).length), (fldQ Z H l)[i] = if inL' l H (i / H) (i % H) = true then 1 else 0 := fun i hi => fldQ_get hi
theorem runRf_e (s : Sk) (c : Option Nat) (hl : s.ls.length ≤ 1000000) (hbl : ∀ l ∈ s.ls, l.length ≤ 1000000) (a : Int) (hE : opS s [a] ≠ 0) : Pure Try.prog 42 [.agg [i64 s.h, i64 s.z, landsA s.ls c], i64 a] (.tup [boxesA ([] : List Bx) none, i64 (opS s [a])]) := by
  refine pure_of_body Try.func42 (c := body Try.f42) rfl (by simp [Try.ntmps42]) fun w0 Φ0 => ?_
  refine W_seq rfl ?_
  refine W_reg rfl ?_
  refine Rv rfl rfl rfl (U_boxF rfl rfl rfl) rfl rfl ?_
  refine Rv rfl rfl rfl (U_assign rfl) rfl rfl ?_
  refine Rv rfl rfl rfl (U_assign rfl) rfl rfl ?_
  refine Re rfl ?_
  refine thenQ_n ?_
  refine W_seq rfl ?_
  refine W_seq rfl ?_
  refine W_reg rfl ?_
  refine Rv rfl rfl rfl (U_load3 rfl rfl rfl rfl rfl) rfl rfl ?_
  refine Rv rfl rfl rfl (U_move rfl) rfl rfl ?_
  refine Rv rfl rfl rfl (U_call rfl rfl (landed_p s c hl hbl a) rfl) rfl rfl ?_
  refine Rv rfl rfl rfl (U_neq rfl rfl) rfl rfl ?_
  refine Re rfl ?_
  refine thenQ_n ?_
  refine WcondP rfl rfl (fun hc0 => ?_) (fun hc0 => absurd (hE) hc0)
  refine W_seq rfl ?_
  refine W_reg rfl ?_
  refine Rv rfl rfl rfl (U_load3 rfl rfl rfl rfl rfl) rfl rfl ?_
  refine Rv rfl rfl rfl (U_move rfl) rfl rfl ?_
  refine Rv rfl rfl rfl (U_call rfl rfl (landed_p s c hl hbl a) rfl) rfl rfl ?_
  refine Rv rfl rfl rfl (U_assign rfl) rfl rfl ?_
  refine Rv rfl rfl rfl (U_assign rfl) rfl rfl ?_
  refine Re rfl ?_
  refine thenQ_n ?_
  refine WweakT (j := 4) rfl (le_nils (cs := [])) ?_
  refine W_ret rfl ?_
  refine thenQ_r ?_
  exact retL (rlT rfl (rlT rfl rl0)) (by first | rfl | (simp only [packA]; rfl; first | done | rfl)) rfl
theorem runRf_g (H Z : Nat) (ls : List (List Bx)) (c : Option Nat) (hc : chkS ⟨H, Z, ls⟩ = 0) (hv : VS ⟨H, Z, ls⟩ H Z) (a : Nat) (ha : a < ls.length) : Pure Try.prog 42 [.agg [i64 (H : Nat), i64 (Z : Nat), landsA ls c], i64 (a : Nat)] (.tup [boxesA (rnsK H (inL' ls[a] H) Z) none, i64 0]) := by
  have hv' := hv
  obtain ⟨_, _, hH, hZ1, hln, hlb, hbx⟩ := hv'
  simp only at hln hlb hbx
  have hZ := hZ1.2
  have hHZ : Z * H ≤ 1152 := Nat.mul_le_mul hZ hH.2
  have hHZc : H * Z = Z * H := Nat.mul_comm _ _
  refine pure_of_body Try.func42 (c := body Try.f42) rfl (by simp [Try.ntmps42]) fun w0 Φ0 => ?_
  refine W_seq rfl ?_
  refine W_reg rfl ?_
  refine Rv rfl rfl rfl (U_boxF rfl rfl rfl) rfl rfl ?_
  refine Rv rfl rfl rfl (U_assign rfl) rfl rfl ?_
  refine Rv rfl rfl rfl (U_assign rfl) rfl rfl ?_
  refine Re rfl ?_
  refine thenQ_n ?_
  refine W_seq rfl ?_
  refine W_seq rfl ?_
  refine W_reg rfl ?_
  refine Rv rfl rfl rfl (U_load3 rfl rfl rfl rfl rfl) rfl rfl ?_
  refine Rv rfl rfl rfl (U_move rfl) rfl rfl ?_
  refine Rv rfl rfl rfl (U_call rfl rfl (landedG_p H Z ls c hc hv ((a : Nat) : Int) (by omega)) rfl) rfl rfl ?_
  refine Rv rfl rfl rfl (U_neq rfl rfl) rfl rfl ?_
  refine Re rfl ?_
  refine thenQ_n ?_
  refine WcondP rfl rfl (fun h => absurd h (by decide)) (fun _ => ?_)
  refine W_skip rfl ?_
  refine thenQ_n ?_
  refine W_seq rfl ?_
  refine Wdraw rfl (by kernel_rfl) (by kernel_rfl) ?_
  refine Dv rfl rfl rfl (U_load3 rfl rfl rfl rfl rfl) rfl rfl ?_
  refine Dv rfl rfl rfl (U_move rfl) rfl rfl ?_
  refine Dv rfl rfl rfl (U_call rfl rfl (field_p H Z ls c hv a (by omega)) rfl) rfl rfl ?_
  refine Dv rfl rfl rfl (U_fieldAddrR rfl) rfl rfl ?_
  refine Dv rfl rfl rfl (U_load1 rfl rfl rfl) rfl rfl ?_
  refine Dv rfl rfl rfl (U_fieldAddrR rfl) rfl rfl ?_
  refine Dv rfl rfl rfl (U_load1 rfl rfl rfl) rfl rfl ?_
  refine Dv rfl rfl rfl (U_call rfl rfl (runsOf_p H Z (fldQ Z H ls[a]) fldQ_len (inL' ls[a] H) fldQ_is (by omega) (by omega)) rfl) rfl rfl ?_
  refine Dv rfl rfl rfl (U_assign rfl) rfl rfl ?_
  refine Dv rfl rfl rfl (U_assign rfl) rfl rfl ?_
  refine Dr.nil rfl ?_
  refine thenQ_n ?_
  refine W_ret rfl ?_
  exact retL (rlT rfl (rlT rfl rl0)) rfl rfl
theorem runRfA_p (s : Sk) (c : Option Nat) (hl : s.ls.length ≤ 1000000) (hbl : ∀ l ∈ s.ls, l.length ≤ 1000000) (a : Int) : Pure Try.prog 42 [.agg [i64 s.h, i64 s.z, landsA s.ls c], i64 a] (.tup [boxesA (runR s a) none, i64 (opS s [a])]) := by
  by_cases hE : opS s [a] = 0
  · obtain ⟨H, Z, ls, rfl, hc, hv, hin⟩ := opS_ok hE
    obtain ⟨a, rfl, ha⟩ := in1_ok hin
    rw [runR_g hc ha, hE]
    exact runRf_g H Z ls c hc hv a ha
  · have e : runR s a = [] := if_neg hE
    rw [e]
    exact runRf_e s c hl hbl a hE
end Go.Proofs.Ythlolelbmhfdbaa
end

section
namespace Go.Proofs.Ythlolelbmhfdbaa
set_option maxRecDepth 20000
open Go.AE
def gvF (Z H : Nat) (ls : List (List Bx)) (b : Bx) (a j m : Nat) : List Nat := (List.range (Z * H)).map fun i => if givP H ls b a m j (i / H) (i % H) = true then 1 else 0
theorem gvF_len {Z H a j m : Nat} {ls : List (List Bx)} {b : Bx} : (gvF Z H ls b a j m).length = Z * H := by simp [gvF]
theorem gvF_0 {Z H a j : Nat} {ls : List (List Bx)} {b : Bx} (hj : j < ls.length) : gvF Z H ls b a j 0 = fldQ Z H ls[j] := by
  refine List.map_congr_left fun i _ => ?_
  unfold givP
  rw [if_neg (show ¬ (i % H < H ∧ i / H * H + i % H < 0 ∧ inN b H (i / H) (i % H) = true) by omega)]
  have e : ls.getD j [] = ls[j] := by rw [List.getD_eq_getElem?_getD, List.getElem?_eq_getElem hj]; rfl
  unfold chP bitQ; rw [e]
theorem gvF_step {H a j m i : Nat} {ls : List (List Bx)} {b : Bx} (hH : 0 < H) (hi : i ≠ m) : givP H ls b a (m + 1) j (i / H) (i % H) = givP H ls b a m j (i / H) (i % H) := by
  have hd := Nat.div_add_mod i H
  rw [Nat.mul_comm] at hd
  unfold givP
  rw [hd]
  have : (i < m + 1) ↔ i < m := by omega
  simp only [this]
theorem gvF_f {Z H a j m : Nat} {ls : List (List Bx)} {b : Bx} (hH : 0 < H) (h : ¬ inN b H (m / H) (m % H) = true) : gvF Z H ls b a j (m + 1) = gvF Z H ls b a j m := by
  refine List.map_congr_left fun i _ => ?_
  by_cases e : i = m
  · subst e
    have e2 : ∀ k, givP H ls b a k j (i / H) (i % H) = chP ls H j (i / H) (i % H) := fun k => if_neg fun h2 => h h2.2.2
    rw [e2, e2]
  · rw [gvF_step hH e]
theorem gvF_t {Z H a j m : Nat} {ls : List (List Bx)} {b : Bx} (hH : 0 < H) (hm : m < Z * H) (h : inN b H (m / H) (m % H) = true) : (gvF Z H ls b a j m).set m (if j = a then 1 else 0) = gvF Z H ls b a j (m + 1) := by
  apply List.ext_getElem (by simp [gvF])
  intro i h1 h2
  rw [List.getElem_set]
  simp only [gvF, List.getElem_map, List.getElem_range]
  have hd := Nat.div_add_mod m H
  rw [Nat.mul_comm] at hd
  by_cases e : m = i
  · subst e
    rw [if_pos rfl]
    have : givP H ls b a (m + 1) j (m / H) (m % H) = decide (j = a) := if_pos ⟨Nat.mod_lt _ hH, by omega, h⟩
    rw [this]; simp
  · rw [if_neg e, gvF_step hH (fun e2 => e e2.symm)]
theorem gvF_t1 {Z H a j m : Nat} {ls : List (List Bx)} {b : Bx} (hH : 0 < H) (hm : m < Z * H) (h : inN b H (m / H) (m % H) = true) (e : j = a) : ((gvF Z H ls b a j m).set m 0).set m 1 = gvF Z H ls b a j (m + 1) := by
  rw [← gvF_t hH hm h, if_pos e, List.set_set]
theorem gvF_t0 {Z H a j m : Nat} {ls : List (List Bx)} {b : Bx} (hH : 0 < H) (hm : m < Z * H) (h : inN b H (m / H) (m % H) = true) (e : j ≠ a) : (gvF Z H ls b a j m).set m 0 = gvF Z H ls b a j (m + 1) := by
  rw [← gvF_t hH hm h, if_neg e]
theorem givRf_e (s : Sk) (c : Option Nat) (hl : s.ls.length ≤ 1000000) (hbl : ∀ l ∈ s.ls, l.length ≤ 1000000) (a : Int) (b : Bx) (hE : boxE s a b ≠ 0) : Pure Try.prog 44 [.agg [i64 s.h, i64 s.z, landsA s.ls c], i64 a, bxA b] (.tup [.agg [i64 0, i64 0, landsA ([] : List (List Bx)) none], i64 (boxE s a b)]) := by
  refine pure_of_body Try.func44 (c := body Try.f44) rfl (by simp [Try.ntmps44]) fun w0 Φ0 => ?_
  refine W_seq rfl ?_
  refine W_reg rfl ?_
  refine Rv rfl rfl rfl (U_boxF rfl rfl rfl) rfl rfl ?_
  refine Rv rfl rfl rfl (U_boxF rfl rfl rfl) rfl rfl ?_
  refine Ra rfl rfl rfl (U_alloc) rfl rfl rfl ?_
  refine Rv rfl rfl rfl (U_assign rfl) rfl rfl ?_
  refine Re rfl ?_
  refine thenQ_n ?_
  refine W_seq rfl ?_
  refine W_seq rfl ?_
  refine W_reg rfl ?_
  refine Rv rfl rfl rfl (U_load3 rfl rfl rfl rfl rfl) rfl rfl ?_
  refine Rv rfl rfl rfl (U_move rfl) rfl rfl ?_
  refine Rv rfl rfl rfl (U_load4 rfl rfl rfl rfl rfl rfl) rfl rfl ?_
  refine Rv rfl rfl rfl (U_call rfl rfl (boxedR_p s c hl hbl a b) rfl) rfl rfl ?_
  refine Rv rfl rfl rfl (U_neq rfl rfl) rfl rfl ?_
  refine Re rfl ?_
  refine thenQ_n ?_
  refine WcondP rfl rfl (fun hc0 => ?_) (fun hc0 => absurd (hE) hc0)
  refine W_seq rfl ?_
  refine W_reg rfl ?_
  refine Rv rfl rfl rfl (U_build rfl rfl) rfl rfl ?_
  refine Rv rfl rfl rfl (U_load3 rfl rfl rfl rfl rfl) rfl rfl ?_
  refine Rv rfl rfl rfl (U_move rfl) rfl rfl ?_
  refine Rv rfl rfl rfl (U_load4 rfl rfl rfl rfl rfl rfl) rfl rfl ?_
  refine Rv rfl rfl rfl (U_call rfl rfl (boxedR_p s c hl hbl a b) rfl) rfl rfl ?_
  refine Rn rfl rfl rfl (U_storeAll rfl rfl rfl rfl rfl rfl) rfl ?_
  refine Rv rfl rfl rfl (U_assign rfl) rfl rfl ?_
  refine Re rfl ?_
  refine thenQ_n ?_
  refine WweakH (b := 0) (cs' := [i64 0, i64 0, .ros [] 0 none]) rfl (leL_cons (le_refl _) (leL_cons (le_refl _) (leL_cons le_nils (leL_refl _)))) ?_
  refine W_ret rfl ?_
  refine thenQ_r ?_
  exact retL (rlA rfl rfl rfl (rlT rfl rl0)) (by first | rfl | (simp only [packA]; rfl; first | done | rfl)) rfl
theorem givRf_g (H Z : Nat) (ls : List (List Bx)) (c : Option Nat) (hc : chkS ⟨H, Z, ls⟩ = 0) (hv : VS ⟨H, Z, ls⟩ H Z) (a : Nat) (ha : a < ls.length) (b : Bx) (hb : isB b H Z = true) : Pure Try.prog 44 [.agg [i64 (H : Nat), i64 (Z : Nat), landsA ls c], i64 (a : Nat), bxA b] (.tup [.agg [i64 (H : Nat), i64 (Z : Nat), landsA (givQ Z H ls b a) none], i64 0]) := by
  have hv' := hv
  obtain ⟨_, _, hH, hZ1, hln, hlb, hbx⟩ := hv'
  simp only at hln hlb hbx
  have hZ := hZ1.2
  have hHZ : Z * H ≤ 1152 := Nat.mul_le_mul hZ hH.2
  have hHZc : H * Z = Z * H := Nat.mul_comm _ _
  have hbi := isB_iff.1 hb
  refine pure_of_body Try.func44 (c := body Try.f44) rfl (by simp [Try.ntmps44]) fun w0 Φ0 => ?_
  refine W_seq rfl ?_
  refine W_reg rfl ?_
  refine Rv rfl rfl rfl (U_boxF rfl rfl rfl) rfl rfl ?_
  refine Rv rfl rfl rfl (U_boxF rfl rfl rfl) rfl rfl ?_
  refine Ra rfl rfl rfl (U_alloc) rfl rfl rfl ?_
  refine Rv rfl rfl rfl (U_assign rfl) rfl rfl ?_
  refine Re rfl ?_
  refine thenQ_n ?_
  refine W_seq rfl ?_
  refine W_seq rfl ?_
  refine W_reg rfl ?_
  refine Rv rfl rfl rfl (U_load3 rfl rfl rfl rfl rfl) rfl rfl ?_
  refine Rv rfl rfl rfl (U_move rfl) rfl rfl ?_
  refine Rv rfl rfl rfl (U_load4 rfl rfl rfl rfl rfl rfl) rfl rfl ?_
  refine Rv rfl rfl rfl (U_call rfl rfl (boxedRG_p H Z ls c hc hv a (by omega) b hb) rfl) rfl rfl ?_
  refine Rv rfl rfl rfl (U_neq rfl rfl) rfl rfl ?_
  refine Re rfl ?_
  refine thenQ_n ?_
  refine WcondP rfl rfl (fun h => absurd h (by decide)) (fun _ => ?_)
  refine W_skip rfl ?_
  refine thenQ_n ?_
  refine W_seq rfl ?_
  refine W_reg rfl ?_
  refine Rv rfl rfl rfl (U_fieldAddrR rfl) rfl rfl ?_
  refine Rv rfl rfl rfl (U_load1 rfl rfl rfl) rfl rfl ?_
  refine Rv rfl rfl rfl (U_fieldAddrR rfl) rfl rfl ?_
  refine Rv rfl rfl rfl (U_load1 rfl rfl rfl) rfl rfl ?_
  refine Rv rfl rfl rfl (U_build rfl rfl) rfl rfl ?_
  refine Ra rfl rfl rfl (U_alloc) rfl rfl rfl ?_
  refine Rn rfl rfl rfl (U_storeAll rfl rfl rfl rfl rfl rfl) rfl ?_
  refine Re rfl ?_
  refine thenQ_n ?_
  refine W_seq rfl ?_
  refine W_seq rfl ?_
  refine W_reg rfl ?_
  refine Rv rfl rfl rfl (U_assign rfl) rfl rfl ?_
  refine Re rfl ?_
  refine thenQ_n ?_
  refine W_block rfl ?_
  refine WweakH (b := 1) (cs' := [i64 ((H : Nat) : Int), i64 ((Z : Nat) : Int), .out 2 0 1]) rfl (leL_cons (le_refl _) (leL_cons (le_refl _) (leL_cons le_nils_out (leL_refl _)))) ?_
  refine LoopTo (T' := [(1, i64 ((a : Nat) : Int)), (3, .rop [i64 ((H : Nat) : Int), i64 ((Z : Nat) : Int), .ros (ls.map boxesL) ls.length c] 0), (5, .rop [i64 b.fr, i64 b.wd, i64 b.lo, i64 b.hi] 0), (6, .ptr 0 0), (8, .ptr 1 0), (9, i64 ((0 : Nat) : Int))]) (H' := [(0, some (.cells [i64 0, i64 0, .nils] 24)), (1, some (.cells [i64 ((H : Nat) : Int), i64 ((Z : Nat) : Int), .out 2 [].length 1] 24)), (2, outB ([].map boxesL) 46 [].length)]) (n := 3) rfl (fun mz_ qz_ => ∃ (j : Nat) (D : List (List Bx)), j ≤ ls.length ∧ D = givK Z H ls b a j ∧ mz_ = ls.length - j ∧ qz_ = ⟨[(1, i64 ((a : Nat) : Int)), (3, .rop [i64 ((H : Nat) : Int), i64 ((Z : Nat) : Int), .ros (ls.map boxesL) ls.length c] 0), (5, .rop [i64 b.fr, i64 b.wd, i64 b.lo, i64 b.hi] 0), (6, .ptr 0 0), (8, .ptr 1 0), (9, i64 ((j : Nat) : Int))], [(0, some (.cells [i64 0, i64 0, .nils] 24)), (1, some (.cells [i64 ((H : Nat) : Int), i64 ((Z : Nat) : Int), .out 2 D.length 1] 24)), (2, outB (D.map boxesL) 46 D.length)], 3, []⟩) ⟨0, [], (by omega), rfl, rfl, rfl⟩ id ⟨eD rfl rfl, eD rfl rfl, eD rfl rfl, e_ rfl rfl, e_ rfl rfl, eD rfl rfl, trivial⟩ ⟨rD rfl rfl rfl, r_ rfl rfl rfl, rO0 rfl, trivial⟩ rfl rfl rfl rfl (fun _ _ => rfl) ?_
  rintro _ _ ⟨j, D, hi0_0, hi0_1, rfl, rfl⟩
  have hDl : D.length = j := by rw [hi0_1, givK_len]
  refine W_seq rfl ?_
  refine W_seq rfl ?_
  refine W_reg rfl ?_
  refine Rv rfl rfl rfl (U_move rfl) rfl rfl ?_
  refine Rv rfl rfl rfl (U_fieldAddrR rfl) rfl rfl ?_
  refine Rv rfl rfl rfl (U_load1 rfl rfl rfl) rfl rfl ?_
  refine Rv rfl rfl rfl (U_lenOf rfl len_ros) rfl rfl ?_
  refine Rv rfl rfl rfl (U_lss rfl rfl) rfl rfl ?_
  refine Re rfl ?_
  refine thenQ_n ?_
  refine WcondP rfl rfl (fun hc1 => ?_) (fun hc1 => ?_)
  · have hcj : j < ls.length := by omega
    have hfl : (fldQ Z H ls[j]).length = Z * H := fldQ_len
    refine W_skip rfl ?_
    refine thenQ_n ?_
    refine W_seq rfl ?_
    refine W_block rfl ?_
    refine W_seq rfl ?_
    refine W_reg rfl ?_
    refine Rv rfl rfl rfl (U_load3 rfl rfl rfl rfl rfl) rfl rfl ?_
    refine Rv rfl rfl rfl (U_move rfl) rfl rfl ?_
    refine Ra rfl rfl rfl (U_callT (mapN []) rfl rfl (fieldM_p H Z ls c hv j (by omega)) rfl rfl trivial rfl rfl) rfl rfl rfl ?_
    refine Rto (T' := [(1, i64 ((a : Nat) : Int)), (3, .rop [i64 ((H : Nat) : Int), i64 ((Z : Nat) : Int), .ros (ls.map boxesL) ls.length c] 0), (5, .rop [i64 b.fr, i64 b.wd, i64 b.lo, i64 b.hi] 0), (6, .ptr 0 0), (8, .ptr 1 0), (9, i64 ((j : Nat) : Int)), (36, .slice 3 0 (H * Z) (H * Z))]) (H' := [(0, some (.cells [i64 0, i64 0, .nils] 24)), (1, some (.cells [i64 ((H : Nat) : Int), i64 ((Z : Nat) : Int), .out 2 D.length 1] 24)), (2, outB (D.map boxesL) 46 D.length), (3, some (.cells ((fldQ Z H ls[j]).map n64) 3))]) (n := 4) id ⟨eD rfl rfl, eD rfl rfl, eD rfl rfl, e_ rfl rfl, e_ rfl rfl, eD rfl rfl, e_ rfl rfl, trivial⟩ ⟨rD rfl rfl rfl, r_ rfl rfl rfl, rO (mapD (fun _ => rfl) _) rfl rfl, rMD (mapD (fun _ => rfl) _) rfl rfl, trivial⟩ rfl rfl rfl rfl (fun _ _ => rfl) ?_
    refine Rv rfl rfl rfl (U_assign rfl) rfl rfl ?_
    refine Re rfl ?_
    refine thenQ_n ?_
    refine W_seq rfl ?_
    refine W_seq rfl ?_
    refine W_reg rfl ?_
    refine Rv rfl rfl rfl (U_assign rfl) rfl rfl ?_
    refine Re rfl ?_
    refine thenQ_n ?_
    refine W_block rfl ?_
    refine LoopTo (T' := [(1, i64 ((a : Nat) : Int)), (3, .rop [i64 ((H : Nat) : Int), i64 ((Z : Nat) : Int), .ros (ls.map boxesL) ls.length c] 0), (5, .rop [i64 b.fr, i64 b.wd, i64 b.lo, i64 b.hi] 0), (6, .ptr 0 0), (8, .ptr 1 0), (9, i64 ((j : Nat) : Int)), (10, .slice 3 0 (H * Z) (H * Z)), (11, i64 ((0 : Nat) : Int))]) (H' := [(0, some (.cells [i64 0, i64 0, .nils] 24)), (1, some (.cells [i64 ((H : Nat) : Int), i64 ((Z : Nat) : Int), .out 2 D.length 1] 24)), (2, outB (D.map boxesL) 46 D.length), (3, some (.cells ((fldQ Z H ls[j]).map n64) 3))]) (n := 4) rfl (fun mz_ qz_ => ∃ (m : Nat) (F : List Nat), m ≤ H * Z ∧ F = gvF Z H ls b a j m ∧ mz_ = H * Z - m ∧ qz_ = ⟨[(1, i64 ((a : Nat) : Int)), (3, .rop [i64 ((H : Nat) : Int), i64 ((Z : Nat) : Int), .ros (ls.map boxesL) ls.length c] 0), (5, .rop [i64 b.fr, i64 b.wd, i64 b.lo, i64 b.hi] 0), (6, .ptr 0 0), (8, .ptr 1 0), (9, i64 ((j : Nat) : Int)), (10, .slice 3 0 (H * Z) (H * Z)), (11, i64 ((m : Nat) : Int))], [(0, some (.cells [i64 0, i64 0, .nils] 24)), (1, some (.cells [i64 ((H : Nat) : Int), i64 ((Z : Nat) : Int), .out 2 D.length 1] 24)), (2, outB (D.map boxesL) 46 D.length), (3, some (.cells (F.map n64) 3))], 4, []⟩) ⟨0, fldQ Z H ls[j], (by omega), ((gvF_0 hcj).symm), rfl, rfl⟩ id ⟨eD rfl rfl, eD rfl rfl, eD rfl rfl, e_ rfl rfl, e_ rfl rfl, eD rfl rfl, e_ rfl rfl, eD rfl rfl, trivial⟩ ⟨rD rfl rfl rfl, r_ rfl rfl rfl, rO (mapD (fun _ => rfl) _) rfl rfl, rD (mapD (fun _ => rfl) _) rfl rfl, trivial⟩ rfl rfl rfl rfl (fun _ _ => rfl) ?_
    rintro _ _ ⟨m, F, hi1_0, hi1_1, rfl, rfl⟩
    have hFl : F.length = Z * H := by rw [hi1_1, gvF_len]
    refine W_seq rfl ?_
    refine W_seq rfl ?_
    refine W_reg rfl ?_
    refine Rv rfl rfl rfl (U_move rfl) rfl rfl ?_
    refine Rv rfl rfl rfl (U_move rfl) rfl rfl ?_
    refine Rv rfl rfl rfl (U_lenOf rfl len_slice) rfl rfl ?_
    refine Rv rfl rfl rfl (U_lss rfl rfl) rfl rfl ?_
    refine Re rfl ?_
    refine thenQ_n ?_
    refine WcondP rfl rfl (fun hc2 => ?_) (fun hc2 => ?_)
    · have hcm : m < Z * H := by omega
      have hmd : m % H < H := Nat.mod_lt _ (by omega)
      refine W_skip rfl ?_
      refine thenQ_n ?_
      refine W_seq rfl ?_
      refine W_block rfl ?_
      refine W_seq rfl ?_
      refine Wdraw rfl (by kernel_rfl) (by kernel_rfl) ?_
      refine Dv rfl rfl rfl (U_load4 rfl rfl rfl rfl rfl rfl) rfl rfl ?_
      refine Dv rfl rfl rfl (U_fieldAddrR rfl) rfl rfl ?_
      refine Dv rfl rfl rfl (U_load1 rfl rfl rfl) rfl rfl ?_
      refine Dv rfl rfl rfl (U_move rfl) rfl rfl ?_
      refine Dv rfl rfl rfl (U_fieldAddrR rfl) rfl rfl ?_
      refine Dv rfl rfl rfl (U_load1 rfl rfl rfl) rfl rfl ?_
      refine Dv rfl rfl rfl (U_rem (c := ((m % H : Nat) : Int)) rfl rfl (by omega) (tmodN _ _)) rfl rfl ?_
      refine Dv rfl rfl rfl (U_move rfl) rfl rfl ?_
      refine Dv rfl rfl rfl (U_fieldAddrR rfl) rfl rfl ?_
      refine Dv rfl rfl rfl (U_load1 rfl rfl rfl) rfl rfl ?_
      refine Dv rfl rfl rfl (U_quo (c := ((m / H : Nat) : Int)) rfl rfl (by omega) (wquoN (by omega))) rfl rfl ?_
      refine Dv rfl rfl rfl (U_call rfl rfl (inBoxR_p b H (m / H) (m % H) (by omega) (by omega) (by omega)) rfl) rfl rfl ?_
      refine Dr.nil rfl ?_
      refine thenQ_n ?_
      refine Wcond rfl rfl (fun hc3 => ?_) (fun hc3 => ?_)
      · refine W_seq rfl ?_
        refine W_reg rfl ?_
        refine Rv rfl rfl rfl (U_move rfl) rfl rfl ?_
        refine Rv rfl rfl rfl (U_move rfl) rfl rfl ?_
        have hx1 : m < F.length := by omega
        refine Rv rfl rfl rfl (U_indexS (j := m) rfl rfl rfl (by omega)) rfl rfl ?_
        refine Rn rfl rfl rfl (U_store (n := 1) (cs' := (F.set m 0).map n64) rfl rfl rfl rfl rfl (stLt hx1) rfl setM) rfl ?_
        refine Re rfl ?_
        refine thenQ_n ?_
        refine W_seq rfl ?_
        refine W_reg rfl ?_
        refine Rv rfl rfl rfl (U_move rfl) rfl rfl ?_
        refine Rv rfl rfl rfl (U_move rfl) rfl rfl ?_
        refine Rv rfl rfl rfl (U_eql rfl rfl) rfl rfl ?_
        refine Re rfl ?_
        refine thenQ_n ?_
        refine WcondP rfl rfl (fun hc4 => ?_) (fun hc4 => ?_)
        · have hja : j = a := by omega
          refine W_reg rfl ?_
          refine Rv rfl rfl rfl (U_move rfl) rfl rfl ?_
          refine Rv rfl rfl rfl (U_move rfl) rfl rfl ?_
          have hx2 : m < (F.set m 0).length := by rw [List.length_set]; omega
          refine Rv rfl rfl rfl (U_indexS (j := m) rfl rfl rfl (by omega)) rfl rfl ?_
          refine Rn rfl rfl rfl (U_store (n := 1) (cs' := ((F.set m 0).set m 1).map n64) rfl rfl rfl rfl rfl (stLt hx2) rfl setM) rfl ?_
          refine Re rfl ?_
          refine blkQ_n ?_
          refine thenQ_n ?_
          refine W_reg rfl ?_
          refine Rv rfl rfl rfl (U_move rfl) rfl rfl ?_
          refine Rv rfl rfl rfl (U_add rfl rfl (w64e (m := ((m + 1 : Nat) : Int)) (by omega) (by omega) (by omega))) rfl rfl ?_
          refine Rv rfl rfl rfl (U_assign rfl) rfl rfl ?_
          refine Re rfl ?_
          refine thenQ_n ?_
          exact againTo (T' := [(1, i64 ((a : Nat) : Int)), (3, .rop [i64 ((H : Nat) : Int), i64 ((Z : Nat) : Int), .ros (ls.map boxesL) ls.length c] 0), (5, .rop [i64 b.fr, i64 b.wd, i64 b.lo, i64 b.hi] 0), (6, .ptr 0 0), (8, .ptr 1 0), (9, i64 ((j : Nat) : Int)), (10, .slice 3 0 (H * Z) (H * Z)), (11, i64 (((m + 1) : Nat) : Int))]) (H' := [(0, some (.cells [i64 0, i64 0, .nils] 24)), (1, some (.cells [i64 ((H : Nat) : Int), i64 ((Z : Nat) : Int), .out 2 D.length 1] 24)), (2, outB (D.map boxesL) 46 D.length), (3, some (.cells (((F.set m 0).set m 1).map n64) 3))]) (n := 4) (H * Z - (m + 1)) ⟨m + 1, (F.set m 0).set m 1, (by omega), (by first | (rw [hi1_1]; exact gvF_t1 (by omega) hcm hc3 hja) | (rw [hi1_1]; exact gvF_t0 (by omega) hcm hc3 hja) | (rw [gvF_f (by omega) (by simpa using hc3)]; exact hi1_1)), rfl, rfl⟩ (by omega) id ⟨eD rfl rfl, eD rfl rfl, eD rfl rfl, e_ rfl rfl, e_ rfl rfl, eD rfl rfl, e_ rfl rfl, eD rfl rfl, trivial⟩ ⟨rD rfl rfl rfl, r_ rfl rfl rfl, rO (mapD (fun _ => rfl) _) rfl rfl, rD (mapD (fun _ => rfl) _) rfl rfl, trivial⟩ rfl rfl rfl rfl (fun _ _ => rfl)
        · have hja : j ≠ a := by omega
          refine W_skip rfl ?_
          refine blkQ_n ?_
          refine thenQ_n ?_
          refine W_reg rfl ?_
          refine Rv rfl rfl rfl (U_move rfl) rfl rfl ?_
          refine Rv rfl rfl rfl (U_add rfl rfl (w64e (m := ((m + 1 : Nat) : Int)) (by omega) (by omega) (by omega))) rfl rfl ?_
          refine Rv rfl rfl rfl (U_assign rfl) rfl rfl ?_
          refine Re rfl ?_
          refine thenQ_n ?_
          exact againTo (T' := [(1, i64 ((a : Nat) : Int)), (3, .rop [i64 ((H : Nat) : Int), i64 ((Z : Nat) : Int), .ros (ls.map boxesL) ls.length c] 0), (5, .rop [i64 b.fr, i64 b.wd, i64 b.lo, i64 b.hi] 0), (6, .ptr 0 0), (8, .ptr 1 0), (9, i64 ((j : Nat) : Int)), (10, .slice 3 0 (H * Z) (H * Z)), (11, i64 (((m + 1) : Nat) : Int))]) (H' := [(0, some (.cells [i64 0, i64 0, .nils] 24)), (1, some (.cells [i64 ((H : Nat) : Int), i64 ((Z : Nat) : Int), .out 2 D.length 1] 24)), (2, outB (D.map boxesL) 46 D.length), (3, some (.cells ((F.set m 0).map n64) 3))]) (n := 4) (H * Z - (m + 1)) ⟨m + 1, F.set m 0, (by omega), (by first | (rw [hi1_1]; exact gvF_t1 (by omega) hcm hc3 hja) | (rw [hi1_1]; exact gvF_t0 (by omega) hcm hc3 hja) | (rw [gvF_f (by omega) (by simpa using hc3)]; exact hi1_1)), rfl, rfl⟩ (by omega) id ⟨eD rfl rfl, eD rfl rfl, eD rfl rfl, e_ rfl rfl, e_ rfl rfl, eD rfl rfl, e_ rfl rfl, eD rfl rfl, trivial⟩ ⟨rD rfl rfl rfl, r_ rfl rfl rfl, rO (mapD (fun _ => rfl) _) rfl rfl, rD (mapD (fun _ => rfl) _) rfl rfl, trivial⟩ rfl rfl rfl rfl (fun _ _ => rfl)
      · have hc3' := Bool.eq_false_iff.1 hc3
        refine W_skip rfl ?_
        refine blkQ_n ?_
        refine thenQ_n ?_
        refine W_reg rfl ?_
        refine Rv rfl rfl rfl (U_move rfl) rfl rfl ?_
        refine Rv rfl rfl rfl (U_add rfl rfl (w64e (m := ((m + 1 : Nat) : Int)) (by omega) (by omega) (by omega))) rfl rfl ?_
        refine Rv rfl rfl rfl (U_assign rfl) rfl rfl ?_
        refine Re rfl ?_
        refine thenQ_n ?_
        exact againTo (T' := [(1, i64 ((a : Nat) : Int)), (3, .rop [i64 ((H : Nat) : Int), i64 ((Z : Nat) : Int), .ros (ls.map boxesL) ls.length c] 0), (5, .rop [i64 b.fr, i64 b.wd, i64 b.lo, i64 b.hi] 0), (6, .ptr 0 0), (8, .ptr 1 0), (9, i64 ((j : Nat) : Int)), (10, .slice 3 0 (H * Z) (H * Z)), (11, i64 (((m + 1) : Nat) : Int))]) (H' := [(0, some (.cells [i64 0, i64 0, .nils] 24)), (1, some (.cells [i64 ((H : Nat) : Int), i64 ((Z : Nat) : Int), .out 2 D.length 1] 24)), (2, outB (D.map boxesL) 46 D.length), (3, some (.cells (F.map n64) 3))]) (n := 4) (H * Z - (m + 1)) ⟨m + 1, F, (by omega), (by first | (rw [hi1_1]; exact gvF_t1 (by omega) hcm hc3 hja) | (rw [hi1_1]; exact gvF_t0 (by omega) hcm hc3 hja) | (rw [gvF_f (by omega) (by simpa using hc3)]; exact hi1_1)), rfl, rfl⟩ (by omega) id ⟨eD rfl rfl, eD rfl rfl, eD rfl rfl, e_ rfl rfl, e_ rfl rfl, eD rfl rfl, e_ rfl rfl, eD rfl rfl, trivial⟩ ⟨rD rfl rfl rfl, r_ rfl rfl rfl, rO (mapD (fun _ => rfl) _) rfl rfl, rD (mapD (fun _ => rfl) _) rfl rfl, trivial⟩ rfl rfl rfl rfl (fun _ _ => rfl)
    · have hgf : ∀ i (hi : i < F.length), F[i] = if givP H ls b a (Z * H) j (i / H) (i % H) = true then 1 else 0 := fun i hi => by subst hi1_1; rw [show Z * H = m by omega]; simp [gvF]
      refine W_exit rfl ?_
      refine thenQ_x ?_
      refine thenQ_x ?_
      refine blkQ_x rfl ?_
      refine thenQ_n ?_
      refine WfrN 3 rfl (mapD (fun _ => rfl) _) (T' := [(1, i64 ((a : Nat) : Int)), (3, .rop [i64 ((H : Nat) : Int), i64 ((Z : Nat) : Int), .ros (ls.map boxesL) ls.length c] 0), (5, .rop [i64 b.fr, i64 b.wd, i64 b.lo, i64 b.hi] 0), (6, .ptr 0 0), (8, .ptr 1 0), (9, i64 ((j : Nat) : Int)), (10, .ros (F.map n64) (H * Z) (some (H * Z)))]) (H' := [(0, some (.cells [i64 0, i64 0, .nils] 24)), (1, some (.cells [i64 ((H : Nat) : Int), i64 ((Z : Nat) : Int), .out 2 D.length 1] 24)), (2, outB (D.map boxesL) 46 D.length)]) ⟨⟨_, rfl, rfl⟩, ⟨_, rfl, rfl⟩, ⟨_, rfl, rfl⟩, ⟨_, rfl, rfl⟩, ⟨_, rfl, rfl⟩, ⟨_, rfl, rfl⟩, ⟨_, rfl, fr_sl (Nat.le_refl _)⟩, trivial⟩ ⟨⟨rfl, rF rfl rfl⟩, ⟨rfl, rF rfl rfl⟩, ⟨rfl, rFO (mapD (fun _ => rfl) _) rfl⟩, trivial⟩ ?_
      refine Wjoin ⟨[(1, i64 ((a : Nat) : Int)), (3, .rop [i64 ((H : Nat) : Int), i64 ((Z : Nat) : Int), .ros (ls.map boxesL) ls.length c] 0), (5, .rop [i64 b.fr, i64 b.wd, i64 b.lo, i64 b.hi] 0), (6, .ptr 0 0), (8, .ptr 1 0), (9, i64 ((j : Nat) : Int))], [(0, some (.cells [i64 0, i64 0, .nils] 24)), (1, some (.cells [i64 ((H : Nat) : Int), i64 ((Z : Nat) : Int), .out 4 ((D ++ [rnsK H (givP H ls b a (Z * H) j) Z]).length) 1] 24)), (4, outB ((D ++ [rnsK H (givP H ls b a (Z * H) j) Z]).map boxesL) 46 ((D ++ [rnsK H (givP H ls b a (Z * H) j) Z]).length))], 5, []⟩ ?_ ?_
      · rcases Nat.eq_zero_or_pos D.length with hz3 | hz3
        · refine Wdraw rfl (by kernel_rfl) (by kernel_rfl) ?_
          refine Dv rfl rfl rfl (U_fieldAddr rfl) rfl rfl ?_
          refine Dv rfl rfl rfl (U_load1 rfl rfl rfl) rfl rfl ?_
          refine Dv rfl rfl rfl (U_move rfl) rfl rfl ?_
          refine Dv rfl rfl rfl (U_fieldAddrR rfl) rfl rfl ?_
          refine Dv rfl rfl rfl (U_load1 rfl rfl rfl) rfl rfl ?_
          refine Dv rfl rfl rfl (U_fieldAddrR rfl) rfl rfl ?_
          refine Dv rfl rfl rfl (U_load1 rfl rfl rfl) rfl rfl ?_
          refine Dv rfl rfl rfl (U_call rfl rfl (runsOf_p H Z F (by omega) (givP H ls b a (Z * H) j) hgf (by omega) (by omega)) rfl) rfl rfl ?_
          refine Dv rfl rfl rfl (U_buildSliceF (by rfl) (by decide) rfl rfl rfl) rfl rfl ?_
          refine Da rfl rfl rfl (U_appO0 (b := 2) (cs := (D.map boxesL)) (m := 0) (cs' := (D ++ [rnsK H (givP H ls b a (Z * H) j) Z]).map boxesL) (n' := (D ++ [rnsK H (givP H ls b a (Z * H) j) Z]).length) rfl hz3 rfl (by simp) (map_len1 _) rfl (by omega) (by rw [List.map_append]; rfl) (len1 _ _)) rfl rfl rfl rfl ?_
          refine Dv rfl rfl rfl (U_fieldAddr rfl) rfl rfl ?_
          refine Dn_ rfl rfl rfl (U_store rfl rfl rfl rfl rfl (Nat.le_of_ble_eq_true rfl) rfl rfl) rfl rfl ?_
          refine Dr.nil rfl ?_
          exact joinTo id ⟨eD rfl rfl, eD rfl rfl, eD rfl rfl, e_ rfl rfl, e_ rfl rfl, eD rfl rfl, trivial⟩ ⟨rD rfl rfl rfl, r_ rfl rfl rfl, rO (mapD (fun _ => rfl) _) rfl rfl, trivial⟩ rfl rfl rfl rfl (fun _ _ => rfl)
        · refine Wdraw rfl (by kernel_rfl) (by kernel_rfl) ?_
          refine Dv rfl rfl rfl (U_fieldAddr rfl) rfl rfl ?_
          refine Dv rfl rfl rfl (U_load1 rfl rfl rfl) rfl rfl ?_
          refine Dv rfl rfl rfl (U_move rfl) rfl rfl ?_
          refine Dv rfl rfl rfl (U_fieldAddrR rfl) rfl rfl ?_
          refine Dv rfl rfl rfl (U_load1 rfl rfl rfl) rfl rfl ?_
          refine Dv rfl rfl rfl (U_fieldAddrR rfl) rfl rfl ?_
          refine Dv rfl rfl rfl (U_load1 rfl rfl rfl) rfl rfl ?_
          refine Dv rfl rfl rfl (U_call rfl rfl (runsOf_p H Z F (by omega) (givP H ls b a (Z * H) j) hgf (by omega) (by omega)) rfl) rfl rfl ?_
          refine Dv rfl rfl rfl (U_buildSliceF (by rfl) (by decide) rfl rfl rfl) rfl rfl ?_
          refine Da rfl rfl rfl (U_appO (b := 2) (m := 0) (cs' := (D ++ [rnsK H (givP H ls b a (Z * H) j) Z]).map boxesL) (n' := (D ++ [rnsK H (givP H ls b a (Z * H) j) Z]).length) rfl rfl (by simp) rfl (map_len1 _) rfl rfl (by omega) (by rw [List.map_append]; rfl) (len1 _ _)) rfl rfl rfl (upsO rfl hz3) ?_
          refine Dv rfl rfl rfl (U_fieldAddr rfl) rfl rfl ?_
          refine Dn_ rfl rfl rfl (U_store rfl rfl rfl rfl rfl (Nat.le_of_ble_eq_true rfl) rfl rfl) rfl rfl ?_
          refine Dr.nil rfl ?_
          exact joinTo id ⟨eD rfl rfl, eD rfl rfl, eD rfl rfl, e_ rfl rfl, e_ rfl rfl, eD rfl rfl, trivial⟩ ⟨rD rfl rfl rfl, r_ rfl rfl rfl, rO (mapD (fun _ => rfl) _) rfl rfl, trivial⟩ rfl rfl rfl rfl (fun _ _ => rfl)
      refine blkQ_n ?_
      refine thenQ_n ?_
      refine W_reg rfl ?_
      refine Rv rfl rfl rfl (U_move rfl) rfl rfl ?_
      refine Rv rfl rfl rfl (U_add rfl rfl (w64e (m := ((j + 1 : Nat) : Int)) (by omega) (by omega) (by omega))) rfl rfl ?_
      refine Rv rfl rfl rfl (U_assign rfl) rfl rfl ?_
      refine Re rfl ?_
      refine thenQ_n ?_
      exact againTo (T' := [(1, i64 ((a : Nat) : Int)), (3, .rop [i64 ((H : Nat) : Int), i64 ((Z : Nat) : Int), .ros (ls.map boxesL) ls.length c] 0), (5, .rop [i64 b.fr, i64 b.wd, i64 b.lo, i64 b.hi] 0), (6, .ptr 0 0), (8, .ptr 1 0), (9, i64 (((j + 1) : Nat) : Int))]) (H' := [(0, some (.cells [i64 0, i64 0, .nils] 24)), (1, some (.cells [i64 ((H : Nat) : Int), i64 ((Z : Nat) : Int), .out 2 (D ++ [rnsK H (givP H ls b a (Z * H) j) Z]).length 1] 24)), (2, outB ((D ++ [rnsK H (givP H ls b a (Z * H) j) Z]).map boxesL) 46 (D ++ [rnsK H (givP H ls b a (Z * H) j) Z]).length)]) (n := 3) (ls.length - (j + 1)) ⟨j + 1, D ++ [rnsK H (givP H ls b a (Z * H) j) Z], (by omega), (by rw [givK_succ, ← hi0_1]), rfl, rfl⟩ (by omega) (mapN [0, 1, 4]) ⟨eD rfl rfl, eD rfl rfl, eD rfl rfl, e_ rfl rfl, e_ rfl rfl, eD rfl rfl, trivial⟩ ⟨rD rfl rfl rfl, r_ rfl rfl rfl, rO (mapD (fun _ => rfl) _) rfl rfl, trivial⟩ rfl rfl rfl rfl (fun _ h => absurd h (Nat.not_lt_zero _))
  · refine W_exit rfl ?_
    refine thenQ_x ?_
    refine thenQ_x ?_
    refine blkQ_x rfl ?_
    refine thenQ_n ?_
    refine W_seq rfl ?_
    refine W_reg rfl ?_
    refine Rv rfl rfl rfl (U_load3 rfl rfl rfl rfl rfl) rfl rfl ?_
    refine Rn rfl rfl rfl (U_storeAll rfl rfl rfl rfl rfl rfl) rfl ?_
    refine Rv rfl rfl rfl (U_assign rfl) rfl rfl ?_
    refine Re rfl ?_
    refine thenQ_n ?_
    refine WfrO 2 (D.map boxesL) rfl (mapD (fun _ => rfl) _) (T' := [(6, .ptr 0 0), (7, i64 0)]) (H' := [(0, some (.cells [i64 ((H : Nat) : Int), i64 ((Z : Nat) : Int), .ros (D.map boxesL) D.length none] 24))]) ⟨fS rfl rfl, fD rfl rfl, trivial⟩ ⟨⟨rfl, .cells (.cons (.same rfl) (.cons (.same rfl) (.cons .out .nil)))⟩, trivial⟩ ?_
    refine W_ret rfl ?_
    exact retL (rlA rfl rfl rfl (rlT rfl rl0)) (by first | rfl | (simp only [packA]; rw [hi0_1, show j = ls.length by omega]; rfl; first | done | rfl)) rfl
theorem givRfA_p (s : Sk) (c : Option Nat) (hl : s.ls.length ≤ 1000000) (hbl : ∀ l ∈ s.ls, l.length ≤ 1000000) (a : Int) (b : Bx) : Pure Try.prog 44 [.agg [i64 s.h, i64 s.z, landsA s.ls c], i64 a, bxA b] (.tup [.agg [i64 (gvR s a b).h, i64 (gvR s a b).z, landsA (gvR s a b).ls none], i64 (boxE s a b)]) := by
  by_cases hE : boxE s a b = 0
  · obtain ⟨H, Z, ls, a, rfl, hc, hv, rfl, ha, hb⟩ := boxE_ok hE
    rw [gvR_g hc ha hb, hE]
    exact givRf_g H Z ls c hc hv a ha b hb
  · rw [gvR_e hE]
    exact givRf_e s c hl hbl a b hE
end Go.Proofs.Ythlolelbmhfdbaa
end

section
namespace Go.Proofs.Ythlolelbmhfdbaa
set_option maxRecDepth 20000
open Go.AE
def mostQ (ls : List (List Bx)) : Int := ls.foldl (fun m l => max m (l.length : Int)) 0
theorem mostQ_take {ls : List (List Bx)} {i : Nat} (hi : i < ls.length) : mostQ (ls.take (i + 1)) = max (mostQ (ls.take i)) (ls[i].length : Int) := by
  unfold mostQ; rw [List.take_succ_eq_append_getElem hi, List.foldl_append]; rfl
theorem mostF_ge {ls : List (List Bx)} : ∀ {m : Int}, m ≤ ls.foldl (fun m l => max m (l.length : Int)) m := by
  induction ls with
  | nil => intro m; exact Int.le_refl m
  | cons a l ih => intro m; exact Int.le_trans (Int.le_max_left m _) ih
theorem mostF_mem {ls : List (List Bx)} : ∀ {m : Int} {l : List Bx}, l ∈ ls → (l.length : Int) ≤ ls.foldl (fun m l => max m (l.length : Int)) m := by
  induction ls with
  | nil => intro m l h; cases h
  | cons a r ih =>
    intro m l h
    cases h with
    | head => exact Int.le_trans (Int.le_max_right m _) mostF_ge
    | tail _ h => exact ih h
theorem mostQ_mem {ls : List (List Bx)} {l : List Bx} (h : l ∈ ls) : (l.length : Int) ≤ mostQ ls := mostF_mem h
def grt (s : Sk) : Bool := decide (14 < s.ls.length) || (decide (610 < mostQ s.ls) || (decide (chkS s = 0) && (decide (120 < s.h * s.z) || decide (30 < mostQ s.ls))))
theorem chkS_hz {s : Sk} (h : chkS s = 0) : 1 ≤ s.h ∧ s.h ≤ 48 ∧ 1 ≤ s.z ∧ s.z ≤ 24 ∧ 1 ≤ s.h * s.z ∧ s.h * s.z ≤ 1152 := by
  obtain ⟨H, Z, e1, e2, hH, hZ, _⟩ := vs_of h
  have := Int.mul_le_mul (show s.h ≤ 48 by omega) (show s.z ≤ 24 by omega) (by omega) (by omega)
  have := Int.mul_pos (show 0 < s.h by omega) (show 0 < s.z by omega)
  omega
theorem grt_ls {s : Sk} (h : grt s = false) : s.ls.length ≤ 1000000 := by
  simp [grt] at h; omega
theorem grt_bl {s : Sk} (h : grt s = false) : ∀ l ∈ s.ls, l.length ≤ 1000000 := by
  intro l hl; have := mostQ_mem hl; simp [grt] at h; omega
theorem bl_most {ls : List (List Bx)} (h : mostQ ls ≤ 610) : ∀ l ∈ ls, l.length ≤ 1000000 := by
  intro l hl; have := mostQ_mem hl; omega
theorem great_p (s : Sk) (c : Option Nat) : Pure Try.prog 16 [.agg [i64 s.h, i64 s.z, landsA s.ls c]] (.bool (grt s)) := by
  refine pure_of_body Try.func16 (c := body Try.f16) rfl (by simp [Try.ntmps16]) fun w0 Φ0 => ?_
  refine W_seq rfl ?_
  refine W_reg rfl ?_
  refine Rv rfl rfl rfl (U_boxF rfl rfl rfl) rfl rfl ?_
  refine Rv rfl rfl rfl (U_assign rfl) rfl rfl ?_
  refine Re rfl ?_
  refine thenQ_n ?_
  refine W_seq rfl ?_
  refine W_seq rfl ?_
  refine W_reg rfl ?_
  refine Rv rfl rfl rfl (U_fieldAddrR rfl) rfl rfl ?_
  refine Rv rfl rfl rfl (U_load1 rfl rfl rfl) rfl rfl ?_
  refine Rv rfl rfl rfl (U_lenOf rfl len_ros) rfl rfl ?_
  refine Rv rfl rfl rfl (U_gtr rfl rfl) rfl rfl ?_
  refine Re rfl ?_
  refine thenQ_n ?_
  refine WcondP rfl rfl (fun hc0 => ?_) (fun hc0 => ?_)
  · refine W_seq rfl ?_
    refine W_reg rfl ?_
    refine Rv rfl rfl rfl (U_assign rfl) rfl rfl ?_
    refine Re rfl ?_
    refine thenQ_n ?_
    refine W_ret rfl ?_
    refine thenQ_r ?_
    exact retL (rlT rfl rl0) (by first | rfl | (exact congrArg AV.bool (by unfold grt; first | (rw [show decide (14 < s.ls.length) = true from decide_eq_true (by omega)]; rfl) | (rw [show decide (14 < s.ls.length) = false from decide_eq_false (by omega), hmq, Bool.false_or])); done)) rfl
  · refine W_skip rfl ?_
    refine thenQ_n ?_
    refine W_seq rfl ?_
    refine W_reg rfl ?_
    refine Rv rfl rfl rfl (U_assign rfl) rfl rfl ?_
    refine Re rfl ?_
    refine thenQ_n ?_
    refine W_seq rfl ?_
    refine W_seq rfl ?_
    refine W_reg rfl ?_
    refine Rv rfl rfl rfl (U_assign rfl) rfl rfl ?_
    refine Re rfl ?_
    refine thenQ_n ?_
    refine W_block rfl ?_
    refine LoopTo (T' := [(1, .rop [i64 s.h, i64 s.z, .ros (s.ls.map boxesL) s.ls.length c] 0), (3, i64 0), (4, i64 ((0 : Nat) : Int))]) (H' := []) (n := 0) rfl (fun mz_ qz_ => ∃ (i : Nat) (m : Int), i ≤ s.ls.length ∧ m = mostQ (s.ls.take i) ∧ mz_ = s.ls.length - i ∧ qz_ = ⟨[(1, .rop [i64 s.h, i64 s.z, .ros (s.ls.map boxesL) s.ls.length c] 0), (3, i64 m), (4, i64 ((i : Nat) : Int))], [], 0, []⟩) ⟨0, 0, (by omega), rfl, rfl, rfl⟩ id ⟨eD rfl rfl, eD rfl rfl, eD rfl rfl, trivial⟩ trivial rfl rfl rfl rfl (fun _ _ => rfl) ?_
    rintro _ _ ⟨i, m, hi0_0, hi0_1, rfl, rfl⟩
    refine W_seq rfl ?_
    refine W_seq rfl ?_
    refine W_reg rfl ?_
    refine Rv rfl rfl rfl (U_move rfl) rfl rfl ?_
    refine Rv rfl rfl rfl (U_fieldAddrR rfl) rfl rfl ?_
    refine Rv rfl rfl rfl (U_load1 rfl rfl rfl) rfl rfl ?_
    refine Rv rfl rfl rfl (U_lenOf rfl len_ros) rfl rfl ?_
    refine Rv rfl rfl rfl (U_lss rfl rfl) rfl rfl ?_
    refine Re rfl ?_
    refine thenQ_n ?_
    refine WcondP rfl rfl (fun hc1 => ?_) (fun hc1 => ?_)
    · refine W_skip rfl ?_
      refine thenQ_n ?_
      refine W_seq rfl ?_
      refine W_block rfl ?_
      refine W_reg rfl ?_
      refine Rv rfl rfl rfl (U_move rfl) rfl rfl ?_
      refine Rv rfl rfl rfl (U_fieldAddrR rfl) rfl rfl ?_
      refine Rv rfl rfl rfl (U_load1 rfl rfl rfl) rfl rfl ?_
      refine Rv rfl rfl rfl (U_move rfl) rfl rfl ?_
      have hx1 : i < s.ls.length := by omega
      refine Rv rfl rfl rfl (U_indexR (j := i) rfl rfl rfl hx1) rfl rfl ?_
      refine Rv rfl rfl rfl (U_load1 rfl rfl (getM hx1)) rfl rfl ?_
      refine Rv rfl rfl rfl (U_lenOf rfl len_ros) rfl rfl ?_
      refine Rv rfl rfl rfl (U_max rfl rfl rfl) rfl rfl ?_
      refine Rv rfl rfl rfl (U_assign rfl) rfl rfl ?_
      refine Re rfl ?_
      refine blkQ_n ?_
      refine thenQ_n ?_
      refine W_reg rfl ?_
      refine Rv rfl rfl rfl (U_move rfl) rfl rfl ?_
      refine Rv rfl rfl rfl (U_add rfl rfl (w64e (m := ((i + 1 : Nat) : Int)) (by omega) (by omega) (by omega))) rfl rfl ?_
      refine Rv rfl rfl rfl (U_assign rfl) rfl rfl ?_
      refine Re rfl ?_
      refine thenQ_n ?_
      exact againTo (T' := [(1, .rop [i64 s.h, i64 s.z, .ros (s.ls.map boxesL) s.ls.length c] 0), (3, i64 (max m ((s.ls[i].length : Nat) : Int))), (4, i64 (((i + 1) : Nat) : Int))]) (H' := []) (n := 0) (s.ls.length - (i + 1)) ⟨i + 1, max m ((s.ls[i].length : Nat) : Int), (by omega), (by rw [mostQ_take (by omega), ← hi0_1]), rfl, rfl⟩ (by omega) id ⟨eD rfl rfl, eD rfl rfl, eD rfl rfl, trivial⟩ trivial rfl rfl rfl rfl (fun _ _ => rfl)
    · have hmq : m = mostQ s.ls := by rw [hi0_1, show i = s.ls.length by omega, List.take_length]
      refine W_exit rfl ?_
      refine thenQ_x ?_
      refine thenQ_x ?_
      refine blkQ_x rfl ?_
      refine thenQ_n ?_
      refine W_seq rfl ?_
      refine Wjoin ⟨[(2, .bool ((decide (610 < m)) || ((decide ((chkS s) = 0)) && ((decide (120 < (s.h * s.z))) || (decide (30 < m))))))], [], 0, []⟩ ?_ ?_
      · refine W_reg rfl ?_
        refine Rv rfl rfl rfl (U_move rfl) rfl rfl ?_
        refine Rv rfl rfl rfl (U_gtr rfl rfl) rfl rfl ?_
        refine Rv rfl rfl rfl (U_move rfl) rfl rfl ?_
        refine Rsplit (t := 26) rfl (fun hg2 => ?_) (fun hg2 => ?_)
        · rw [hg2]
          have hg2' : 610 < m := of_decide_eq_true hg2
          refine Rs rfl rfl rfl rfl rfl ?_
          refine Rs rfl rfl rfl rfl rfl ?_
          refine Rs rfl rfl rfl rfl rfl ?_
          refine Rs rfl rfl rfl rfl rfl ?_
          refine Rs rfl rfl rfl rfl rfl ?_
          refine Rs rfl rfl rfl rfl rfl ?_
          refine Rs rfl rfl rfl rfl rfl ?_
          refine Rs rfl rfl rfl rfl rfl ?_
          refine Rs rfl rfl rfl rfl rfl ?_
          refine Rs rfl rfl rfl rfl rfl ?_
          refine Rs rfl rfl rfl rfl rfl ?_
          refine Rs rfl rfl rfl rfl rfl ?_
          refine Rs rfl rfl rfl rfl rfl ?_
          refine Rs rfl rfl rfl rfl rfl ?_
          refine Rs rfl rfl rfl rfl rfl ?_
          refine Rv rfl rfl rfl (U_pick_t rfl rfl) rfl rfl ?_
          refine Rv rfl rfl rfl (U_assign rfl) rfl rfl ?_
          refine Re rfl ?_
          exact joinTo id ⟨eD rfl rfl, trivial⟩ trivial rfl rfl rfl rfl (fun _ _ => rfl)
        · rw [hg2]
          have hg2' : ¬ (610 < m) := of_decide_eq_false hg2
          have hbl := bl_most (ls := s.ls) (by omega)
          have hl : s.ls.length ≤ 1000000 := by omega
          refine Rv rfl rfl rfl (U_load3 rfl rfl rfl rfl rfl) rfl rfl ?_
          refine Rv rfl rfl rfl (U_call rfl rfl (chkSR_p s c hl hbl) rfl) rfl rfl ?_
          refine Rv rfl rfl rfl (U_eql rfl rfl) rfl rfl ?_
          refine Rv rfl rfl rfl (U_move rfl) rfl rfl ?_
          refine Rsplit (t := 30) rfl (fun hg3 => ?_) (fun hg3 => ?_)
          · rw [hg3]
            have hg3' : (chkS s) = 0 := of_decide_eq_true hg3
            have hhz := chkS_hz hg3'
            refine Rv rfl rfl rfl (U_fieldAddrR rfl) rfl rfl ?_
            refine Rv rfl rfl rfl (U_load1 rfl rfl rfl) rfl rfl ?_
            refine Rv rfl rfl rfl (U_fieldAddrR rfl) rfl rfl ?_
            refine Rv rfl rfl rfl (U_load1 rfl rfl rfl) rfl rfl ?_
            refine Rv rfl rfl rfl (U_mul rfl rfl (w64 (by omega) (by omega))) rfl rfl ?_
            refine Rv rfl rfl rfl (U_gtr rfl rfl) rfl rfl ?_
            refine Rv rfl rfl rfl (U_move rfl) rfl rfl ?_
            refine Rsplit (t := 37) rfl (fun hg4 => ?_) (fun hg4 => ?_)
            · rw [hg4]
              have hg4' : 120 < (s.h * s.z) := of_decide_eq_true hg4
              refine Rs rfl rfl rfl rfl rfl ?_
              refine Rs rfl rfl rfl rfl rfl ?_
              refine Rv rfl rfl rfl (U_pick_t rfl rfl) rfl rfl ?_
              refine Rv rfl rfl rfl (U_pick_t rfl rfl) rfl rfl ?_
              refine Rv rfl rfl rfl (U_pick_f rfl rfl) rfl rfl ?_
              refine Rv rfl rfl rfl (U_assign rfl) rfl rfl ?_
              refine Re rfl ?_
              exact joinTo id ⟨eD rfl rfl, trivial⟩ trivial rfl rfl rfl rfl (fun _ _ => rfl)
            · rw [hg4]
              have hg4' : ¬ (120 < (s.h * s.z)) := of_decide_eq_false hg4
              refine Rv rfl rfl rfl (U_move rfl) rfl rfl ?_
              refine Rv rfl rfl rfl (U_gtr rfl rfl) rfl rfl ?_
              refine Rv rfl rfl rfl (U_pick_f rfl rfl) rfl rfl ?_
              refine Rv rfl rfl rfl (U_pick_t rfl rfl) rfl rfl ?_
              refine Rv rfl rfl rfl (U_pick_f rfl rfl) rfl rfl ?_
              refine Rv rfl rfl rfl (U_assign rfl) rfl rfl ?_
              refine Re rfl ?_
              exact joinTo id ⟨eD rfl rfl, trivial⟩ trivial rfl rfl rfl rfl (fun _ _ => rfl)
          · rw [hg3]
            have hg3' : ¬ ((chkS s) = 0) := of_decide_eq_false hg3
            refine Rs rfl rfl rfl rfl rfl ?_
            refine Rs rfl rfl rfl rfl rfl ?_
            refine Rs rfl rfl rfl rfl rfl ?_
            refine Rs rfl rfl rfl rfl rfl ?_
            refine Rs rfl rfl rfl rfl rfl ?_
            refine Rs rfl rfl rfl rfl rfl ?_
            refine Rs rfl rfl rfl rfl rfl ?_
            refine Rs rfl rfl rfl rfl rfl ?_
            refine Rs rfl rfl rfl rfl rfl ?_
            refine Rs rfl rfl rfl rfl rfl ?_
            refine Rv rfl rfl rfl (U_pick_f rfl rfl) rfl rfl ?_
            refine Rv rfl rfl rfl (U_pick_f rfl rfl) rfl rfl ?_
            refine Rv rfl rfl rfl (U_assign rfl) rfl rfl ?_
            refine Re rfl ?_
            exact joinTo id ⟨eD rfl rfl, trivial⟩ trivial rfl rfl rfl rfl (fun _ _ => rfl)
      refine thenQ_n ?_
      refine W_ret rfl ?_
      exact retL (rlT rfl rl0) (by first | rfl | (exact congrArg AV.bool (by unfold grt; first | (rw [show decide (14 < s.ls.length) = true from decide_eq_true (by omega)]; rfl) | (rw [show decide (14 < s.ls.length) = false from decide_eq_false (by omega), hmq, Bool.false_or])); done)) rfl
theorem samBS_p (a : List Bx) (c d : Option Nat) (ha : a.length ≤ 1000000) : Pure Try.prog 45 [boxesA a c, boxesA a d] (.bool true) := by
  have := samB_p a a c d ha ha; rwa [decide_eq_true rfl] at this
theorem skiesS_p (s : Sk) (c d : Option Nat) (hl : s.ls.length ≤ 1000000) (hbl : ∀ l ∈ s.ls, l.length ≤ 1000000) : Pure Try.prog 46 [.agg [i64 s.h, i64 s.z, landsA s.ls c], .agg [i64 s.h, i64 s.z, landsA s.ls d]] (.bool true) := by
  refine pure_of_body Try.func46 (c := body Try.f46) rfl (by simp [Try.ntmps46]) fun w0 Φ0 => ?_
  refine W_seq rfl ?_
  refine W_reg rfl ?_
  refine Rv rfl rfl rfl (U_boxF rfl rfl rfl) rfl rfl ?_
  refine Rv rfl rfl rfl (U_boxF rfl rfl rfl) rfl rfl ?_
  refine Rv rfl rfl rfl (U_assign rfl) rfl rfl ?_
  refine Re rfl ?_
  refine thenQ_n ?_
  refine W_seq rfl ?_
  refine W_seq rfl ?_
  refine W_reg rfl ?_
  refine Rv rfl rfl rfl (U_fieldAddrR rfl) rfl rfl ?_
  refine Rv rfl rfl rfl (U_load1 rfl rfl rfl) rfl rfl ?_
  refine Rv rfl rfl rfl (U_fieldAddrR rfl) rfl rfl ?_
  refine Rv rfl rfl rfl (U_load1 rfl rfl rfl) rfl rfl ?_
  refine Rv rfl rfl rfl (U_neqS rfl rfl) rfl rfl ?_
  refine Rv rfl rfl rfl (U_move rfl) rfl rfl ?_
  refine Rv rfl rfl rfl (U_fieldAddrR rfl) rfl rfl ?_
  refine Rv rfl rfl rfl (U_load1 rfl rfl rfl) rfl rfl ?_
  refine Rv rfl rfl rfl (U_fieldAddrR rfl) rfl rfl ?_
  refine Rv rfl rfl rfl (U_load1 rfl rfl rfl) rfl rfl ?_
  refine Rv rfl rfl rfl (U_neqS rfl rfl) rfl rfl ?_
  refine Rv rfl rfl rfl (U_pick_f rfl rfl) rfl rfl ?_
  refine Rv rfl rfl rfl (U_move rfl) rfl rfl ?_
  refine Rv rfl rfl rfl (U_fieldAddrR rfl) rfl rfl ?_
  refine Rv rfl rfl rfl (U_load1 rfl rfl rfl) rfl rfl ?_
  refine Rv rfl rfl rfl (U_lenOf rfl len_ros) rfl rfl ?_
  refine Rv rfl rfl rfl (U_fieldAddrR rfl) rfl rfl ?_
  refine Rv rfl rfl rfl (U_load1 rfl rfl rfl) rfl rfl ?_
  refine Rv rfl rfl rfl (U_lenOf rfl len_ros) rfl rfl ?_
  refine Rv rfl rfl rfl (U_neqS rfl rfl) rfl rfl ?_
  refine Rv rfl rfl rfl (U_pick_f rfl rfl) rfl rfl ?_
  refine Re rfl ?_
  refine thenQ_n ?_
  refine Wcond rfl rfl (fun h => nomatch h) (fun _ => ?_)
  refine W_skip rfl ?_
  refine thenQ_n ?_
  refine W_seq rfl ?_
  refine W_seq rfl ?_
  refine W_reg rfl ?_
  refine Rv rfl rfl rfl (U_assign rfl) rfl rfl ?_
  refine Re rfl ?_
  refine thenQ_n ?_
  refine W_block rfl ?_
  refine LoopTo (T' := [(2, .rop [i64 s.h, i64 s.z, .ros (s.ls.map boxesL) s.ls.length c] 0), (3, .rop [i64 s.h, i64 s.z, .ros (s.ls.map boxesL) s.ls.length d] 0), (5, i64 ((0 : Nat) : Int))]) (H' := []) (n := 0) rfl (fun mz_ qz_ => ∃ (i : Nat), i ≤ s.ls.length ∧ mz_ = s.ls.length - i ∧ qz_ = ⟨[(2, .rop [i64 s.h, i64 s.z, .ros (s.ls.map boxesL) s.ls.length c] 0), (3, .rop [i64 s.h, i64 s.z, .ros (s.ls.map boxesL) s.ls.length d] 0), (5, i64 ((i : Nat) : Int))], [], 0, []⟩) ⟨0, (by omega), rfl, rfl⟩ id ⟨eD rfl rfl, eD rfl rfl, eD rfl rfl, trivial⟩ trivial rfl rfl rfl rfl (fun _ _ => rfl) ?_
  rintro _ _ ⟨i, hi0_0, rfl, rfl⟩
  refine W_seq rfl ?_
  refine W_seq rfl ?_
  refine W_reg rfl ?_
  refine Rv rfl rfl rfl (U_move rfl) rfl rfl ?_
  refine Rv rfl rfl rfl (U_fieldAddrR rfl) rfl rfl ?_
  refine Rv rfl rfl rfl (U_load1 rfl rfl rfl) rfl rfl ?_
  refine Rv rfl rfl rfl (U_lenOf rfl len_ros) rfl rfl ?_
  refine Rv rfl rfl rfl (U_lss rfl rfl) rfl rfl ?_
  refine Re rfl ?_
  refine thenQ_n ?_
  refine WcondP rfl rfl (fun hc1 => ?_) (fun hc1 => ?_)
  · refine W_skip rfl ?_
    refine thenQ_n ?_
    refine W_seq rfl ?_
    refine W_block rfl ?_
    refine W_seq rfl ?_
    refine Wdraw rfl (by kernel_rfl) (by kernel_rfl) ?_
    refine Dv rfl rfl rfl (U_fieldAddrR rfl) rfl rfl ?_
    refine Dv rfl rfl rfl (U_load1 rfl rfl rfl) rfl rfl ?_
    refine Dv rfl rfl rfl (U_move rfl) rfl rfl ?_
    have hx1 : i < s.ls.length := by omega
    refine Dv rfl rfl rfl (U_indexR (j := i) rfl rfl rfl hx1) rfl rfl ?_
    refine Dv rfl rfl rfl (U_load1 rfl rfl (getM hx1)) rfl rfl ?_
    refine Dv rfl rfl rfl (U_fieldAddrR rfl) rfl rfl ?_
    refine Dv rfl rfl rfl (U_load1 rfl rfl rfl) rfl rfl ?_
    refine Dv rfl rfl rfl (U_move rfl) rfl rfl ?_
    refine Dv rfl rfl rfl (U_indexR (j := i) rfl rfl rfl hx1) rfl rfl ?_
    refine Dv rfl rfl rfl (U_load1 rfl rfl (getM hx1)) rfl rfl ?_
    refine Dv rfl rfl rfl (U_call rfl rfl (samBS_p s.ls[i] none none (by first | assumption | omega | exact hbl _ (List.getElem_mem _))) rfl) rfl rfl ?_
    refine Dv rfl rfl rfl (U_not rfl) rfl rfl ?_
    refine Dr.nil rfl ?_
    refine thenQ_n ?_
    refine Wcond rfl rfl (fun h => nomatch h) (fun _ => ?_)
    refine W_skip rfl ?_
    refine blkQ_n ?_
    refine thenQ_n ?_
    refine W_reg rfl ?_
    refine Rv rfl rfl rfl (U_move rfl) rfl rfl ?_
    refine Rv rfl rfl rfl (U_add rfl rfl (w64e (m := ((i + 1 : Nat) : Int)) (by omega) (by omega) (by omega))) rfl rfl ?_
    refine Rv rfl rfl rfl (U_assign rfl) rfl rfl ?_
    refine Re rfl ?_
    refine thenQ_n ?_
    exact againTo (T' := [(2, .rop [i64 s.h, i64 s.z, .ros (s.ls.map boxesL) s.ls.length c] 0), (3, .rop [i64 s.h, i64 s.z, .ros (s.ls.map boxesL) s.ls.length d] 0), (5, i64 (((i + 1) : Nat) : Int))]) (H' := []) (n := 0) (s.ls.length - (i + 1)) ⟨i + 1, (by omega), rfl, rfl⟩ (by omega) id ⟨eD rfl rfl, eD rfl rfl, eD rfl rfl, trivial⟩ trivial rfl rfl rfl rfl (fun _ _ => rfl)
  · refine W_exit rfl ?_
    refine thenQ_x ?_
    refine thenQ_x ?_
    refine blkQ_x rfl ?_
    refine thenQ_n ?_
    refine W_seq rfl ?_
    refine W_reg rfl ?_
    refine Rv rfl rfl rfl (U_assign rfl) rfl rfl ?_
    refine Re rfl ?_
    refine thenQ_n ?_
    refine W_ret rfl ?_
    exact retL (rlT rfl rl0) rfl rfl
end Go.Proofs.Ythlolelbmhfdbaa
end

section
namespace Go.Proofs.Ythlolelbmhfdbaa
set_option maxRecDepth 20000
open Go.AE
theorem borderKinds_p (s : Sk) (c : Option Nat) (a : Int) (b : Bx) : Pure Try.prog 6 [.agg [i64 s.h, i64 s.z, landsA s.ls c], i64 a, bxA b] (.bool true) := by
  refine pure_of_body Try.func6 (c := body Try.f6) rfl (by simp [Try.ntmps6]) fun w0 Φ0 => ?_
  refine W_seq rfl ?_
  refine W_reg rfl ?_
  refine Rv rfl rfl rfl (U_boxF rfl rfl rfl) rfl rfl ?_
  refine Rv rfl rfl rfl (U_boxF rfl rfl rfl) rfl rfl ?_
  refine Rv rfl rfl rfl (U_assign rfl) rfl rfl ?_
  refine Re rfl ?_
  refine thenQ_n ?_
  refine W_seq rfl ?_
  refine W_seq rfl ?_
  refine W_reg rfl ?_
  refine Rv rfl rfl rfl (U_load3 rfl rfl rfl rfl rfl) rfl rfl ?_
  refine Rv rfl rfl rfl (U_call rfl rfl (great_p s c) rfl) rfl rfl ?_
  refine Re rfl ?_
  refine thenQ_n ?_
  refine Wcond rfl rfl (fun hc0 => ?_) (fun hc0 => ?_)
  · refine W_seq rfl ?_
    refine W_reg rfl ?_
    refine Rv rfl rfl rfl (U_call rfl rfl (works_p) rfl) rfl rfl ?_
    refine Rv rfl rfl rfl (U_assign rfl) rfl rfl ?_
    refine Re rfl ?_
    refine thenQ_n ?_
    refine W_ret rfl ?_
    refine thenQ_r ?_
    exact retL (rlT rfl rl0) rfl rfl
  · have hc0' := Bool.eq_false_iff.1 hc0
    have hgr : grt s = false := by simpa using hc0
    have hl := grt_ls hgr
    have hbl := grt_bl hgr
    refine W_skip rfl ?_
    refine thenQ_n ?_
    refine W_seq rfl ?_
    refine W_reg rfl ?_
    refine Rv rfl rfl rfl (U_load3 rfl rfl rfl rfl rfl) rfl rfl ?_
    refine Rv rfl rfl rfl (U_move rfl) rfl rfl ?_
    refine Rv rfl rfl rfl (U_load4 rfl rfl rfl rfl rfl rfl) rfl rfl ?_
    refine Rv rfl rfl rfl (U_call rfl rfl (kinA_p s c (by first | assumption | exact hl) (by first | assumption | exact hbl) a b) rfl) rfl rfl ?_
    refine Rv rfl rfl rfl (U_move rfl) rfl rfl ?_
    refine Rv rfl rfl rfl (U_extract rfl rfl) rfl rfl ?_
    refine Rv rfl rfl rfl (U_extract rfl rfl) rfl rfl ?_
    refine Rv rfl rfl rfl (U_assign rfl) rfl rfl ?_
    refine Rv rfl rfl rfl (U_assign rfl) rfl rfl ?_
    refine Re rfl ?_
    refine thenQ_n ?_
    refine W_seq rfl ?_
    refine W_reg rfl ?_
    refine Rv rfl rfl rfl (U_load3 rfl rfl rfl rfl rfl) rfl rfl ?_
    refine Rv rfl rfl rfl (U_move rfl) rfl rfl ?_
    refine Rv rfl rfl rfl (U_load4 rfl rfl rfl rfl rfl rfl) rfl rfl ?_
    refine Rv rfl rfl rfl (U_call rfl rfl (kinRfA_p s c (by first | assumption | exact hl) (by first | assumption | exact hbl) a b) rfl) rfl rfl ?_
    refine Rv rfl rfl rfl (U_move rfl) rfl rfl ?_
    refine Rv rfl rfl rfl (U_extract rfl rfl) rfl rfl ?_
    refine Rv rfl rfl rfl (U_extract rfl rfl) rfl rfl ?_
    refine Rv rfl rfl rfl (U_assign rfl) rfl rfl ?_
    refine Rv rfl rfl rfl (U_assign rfl) rfl rfl ?_
    refine Re rfl ?_
    refine thenQ_n ?_
    refine W_seq rfl ?_
    refine W_reg rfl ?_
    refine Rv rfl rfl rfl (U_load3 rfl rfl rfl rfl rfl) rfl rfl ?_
    refine Rv rfl rfl rfl (U_move rfl) rfl rfl ?_
    refine Rv rfl rfl rfl (U_call rfl rfl (runA_p s c (by first | assumption | exact hl) (by first | assumption | exact hbl) a) rfl) rfl rfl ?_
    refine Rv rfl rfl rfl (U_move rfl) rfl rfl ?_
    refine Rv rfl rfl rfl (U_extract rfl rfl) rfl rfl ?_
    refine Rv rfl rfl rfl (U_extract rfl rfl) rfl rfl ?_
    refine Rv rfl rfl rfl (U_assign rfl) rfl rfl ?_
    refine Rv rfl rfl rfl (U_assign rfl) rfl rfl ?_
    refine Re rfl ?_
    refine thenQ_n ?_
    refine W_seq rfl ?_
    refine W_reg rfl ?_
    refine Rv rfl rfl rfl (U_load3 rfl rfl rfl rfl rfl) rfl rfl ?_
    refine Rv rfl rfl rfl (U_move rfl) rfl rfl ?_
    refine Rv rfl rfl rfl (U_call rfl rfl (runRfA_p s c (by first | assumption | exact hl) (by first | assumption | exact hbl) a) rfl) rfl rfl ?_
    refine Rv rfl rfl rfl (U_move rfl) rfl rfl ?_
    refine Rv rfl rfl rfl (U_extract rfl rfl) rfl rfl ?_
    refine Rv rfl rfl rfl (U_extract rfl rfl) rfl rfl ?_
    refine Rv rfl rfl rfl (U_assign rfl) rfl rfl ?_
    refine Rv rfl rfl rfl (U_assign rfl) rfl rfl ?_
    refine Re rfl ?_
    refine thenQ_n ?_
    refine W_seq rfl ?_
    refine W_reg rfl ?_
    refine Rv rfl rfl rfl (U_load3 rfl rfl rfl rfl rfl) rfl rfl ?_
    refine Rv rfl rfl rfl (U_move rfl) rfl rfl ?_
    refine Rv rfl rfl rfl (U_load4 rfl rfl rfl rfl rfl rfl) rfl rfl ?_
    refine Rv rfl rfl rfl (U_call rfl rfl (givA_p s c (by first | assumption | exact hl) (by first | assumption | exact hbl) a b) rfl) rfl rfl ?_
    refine Rv rfl rfl rfl (U_move rfl) rfl rfl ?_
    refine Rv rfl rfl rfl (U_extract rfl rfl) rfl rfl ?_
    refine Rv rfl rfl rfl (U_extract rfl rfl) rfl rfl ?_
    refine Ra rfl rfl rfl (U_alloc) rfl rfl rfl ?_
    refine Rn rfl rfl rfl (U_storeAll rfl rfl rfl rfl rfl rfl) rfl ?_
    refine Rv rfl rfl rfl (U_assign rfl) rfl rfl ?_
    refine Re rfl ?_
    refine thenQ_n ?_
    refine WfrN 0 rfl rfl (T' := [(1, i64 a), (3, .rop [i64 s.h, i64 s.z, .ros (s.ls.map boxesL) s.ls.length c] 0), (5, .rop [i64 b.fr, i64 b.wd, i64 b.lo, i64 b.hi] 0), (7, i64 (kinR s a b)), (8, i64 (boxE s a b)), (9, i64 (kinR s a b)), (10, i64 (boxE s a b)), (11, .ros ((runR s a).flatMap bxC) ((runR s a).length) none), (12, i64 (opS s [a])), (13, .ros ((runR s a).flatMap bxC) ((runR s a).length) none), (14, i64 (opS s [a])), (15, .rop [i64 ((gvR s a b).h), i64 ((gvR s a b).z), .ros (((gvR s a b).ls).map boxesL) (((gvR s a b).ls).length) none] 0), (16, i64 (boxE s a b))]) (H' := []) ⟨⟨_, rfl, rfl⟩, ⟨_, rfl, rfl⟩, ⟨_, rfl, rfl⟩, ⟨_, rfl, rfl⟩, ⟨_, rfl, rfl⟩, ⟨_, rfl, rfl⟩, ⟨_, rfl, rfl⟩, ⟨_, rfl, rfl⟩, ⟨_, rfl, rfl⟩, ⟨_, rfl, rfl⟩, ⟨_, rfl, rfl⟩, ⟨_, rfl, rfl⟩, ⟨_, rfl, rfl⟩, trivial⟩ trivial ?_
    refine W_seq rfl ?_
    refine W_reg rfl ?_
    refine Rv rfl rfl rfl (U_load3 rfl rfl rfl rfl rfl) rfl rfl ?_
    refine Rv rfl rfl rfl (U_move rfl) rfl rfl ?_
    refine Rv rfl rfl rfl (U_load4 rfl rfl rfl rfl rfl rfl) rfl rfl ?_
    refine Rv rfl rfl rfl (U_call rfl rfl (givRfA_p s c (by first | assumption | exact hl) (by first | assumption | exact hbl) a b) rfl) rfl rfl ?_
    refine Rv rfl rfl rfl (U_move rfl) rfl rfl ?_
    refine Rv rfl rfl rfl (U_extract rfl rfl) rfl rfl ?_
    refine Rv rfl rfl rfl (U_extract rfl rfl) rfl rfl ?_
    refine Ra rfl rfl rfl (U_alloc) rfl rfl rfl ?_
    refine Rn rfl rfl rfl (U_storeAll rfl rfl rfl rfl rfl rfl) rfl ?_
    refine Rv rfl rfl rfl (U_assign rfl) rfl rfl ?_
    refine Re rfl ?_
    refine thenQ_n ?_
    refine WfrN 1 rfl rfl (T' := [(7, i64 (kinR s a b)), (8, i64 (boxE s a b)), (9, i64 (kinR s a b)), (10, i64 (boxE s a b)), (11, .ros ((runR s a).flatMap bxC) ((runR s a).length) none), (12, i64 (opS s [a])), (13, .ros ((runR s a).flatMap bxC) ((runR s a).length) none), (14, i64 (opS s [a])), (15, .rop [i64 ((gvR s a b).h), i64 ((gvR s a b).z), .ros (((gvR s a b).ls).map boxesL) (((gvR s a b).ls).length) none] 0), (16, i64 (boxE s a b)), (17, .rop [i64 ((gvR s a b).h), i64 ((gvR s a b).z), .ros (((gvR s a b).ls).map boxesL) (((gvR s a b).ls).length) none] 0), (18, i64 (boxE s a b))]) (H' := []) ⟨⟨_, rfl, rfl⟩, ⟨_, rfl, rfl⟩, ⟨_, rfl, rfl⟩, ⟨_, rfl, rfl⟩, ⟨_, rfl, rfl⟩, ⟨_, rfl, rfl⟩, ⟨_, rfl, rfl⟩, ⟨_, rfl, rfl⟩, ⟨_, rfl, rfl⟩, ⟨_, rfl, rfl⟩, ⟨_, rfl, rfl⟩, ⟨_, rfl, rfl⟩, trivial⟩ trivial ?_
    refine W_seq rfl ?_
    refine W_reg rfl ?_
    refine Rv rfl rfl rfl (U_move rfl) rfl rfl ?_
    refine Rv rfl rfl rfl (U_move rfl) rfl rfl ?_
    refine Rv rfl rfl rfl (U_eqlS rfl rfl) rfl rfl ?_
    refine Rv rfl rfl rfl (U_move rfl) rfl rfl ?_
    refine Rv rfl rfl rfl (U_move rfl) rfl rfl ?_
    refine Rv rfl rfl rfl (U_move rfl) rfl rfl ?_
    refine Rv rfl rfl rfl (U_eqlS rfl rfl) rfl rfl ?_
    refine Rv rfl rfl rfl (U_pick_t rfl rfl) rfl rfl ?_
    refine Rv rfl rfl rfl (U_move rfl) rfl rfl ?_
    refine Rv rfl rfl rfl (U_move rfl) rfl rfl ?_
    refine Rv rfl rfl rfl (U_move rfl) rfl rfl ?_
    refine Rv rfl rfl rfl (U_call rfl rfl (samBS_p (runR s a) none none (by first | assumption | omega | exact Sz.le | (simp; done) | (simp; omega))) rfl) rfl rfl ?_
    refine Rv rfl rfl rfl (U_pick_t rfl rfl) rfl rfl ?_
    refine Rv rfl rfl rfl (U_move rfl) rfl rfl ?_
    refine Rv rfl rfl rfl (U_move rfl) rfl rfl ?_
    refine Rv rfl rfl rfl (U_move rfl) rfl rfl ?_
    refine Rv rfl rfl rfl (U_eqlS rfl rfl) rfl rfl ?_
    refine Rv rfl rfl rfl (U_pick_t rfl rfl) rfl rfl ?_
    refine Rv rfl rfl rfl (U_move rfl) rfl rfl ?_
    refine Rv rfl rfl rfl (U_load3 rfl rfl rfl rfl rfl) rfl rfl ?_
    refine Rv rfl rfl rfl (U_load3 rfl rfl rfl rfl rfl) rfl rfl ?_
    refine Rv rfl rfl rfl (U_call rfl rfl (skiesS_p (gvR s a b) none none (by first | assumption | exact Sz.le) (by first | assumption | exact Szs.le)) rfl) rfl rfl ?_
    refine Rv rfl rfl rfl (U_pick_t rfl rfl) rfl rfl ?_
    refine Rv rfl rfl rfl (U_move rfl) rfl rfl ?_
    refine Rv rfl rfl rfl (U_move rfl) rfl rfl ?_
    refine Rv rfl rfl rfl (U_move rfl) rfl rfl ?_
    refine Rv rfl rfl rfl (U_eqlS rfl rfl) rfl rfl ?_
    refine Rv rfl rfl rfl (U_pick_t rfl rfl) rfl rfl ?_
    refine Rv rfl rfl rfl (U_move rfl) rfl rfl ?_
    refine Rv rfl rfl rfl (U_call rfl rfl (works_p) rfl) rfl rfl ?_
    refine Rv rfl rfl rfl (U_pick_t rfl rfl) rfl rfl ?_
    refine Rv rfl rfl rfl (U_assign rfl) rfl rfl ?_
    refine Re rfl ?_
    refine thenQ_n ?_
    refine W_ret rfl ?_
    exact retL (rlT rfl rl0) rfl rfl
end Go.Proofs.Ythlolelbmhfdbaa
end
