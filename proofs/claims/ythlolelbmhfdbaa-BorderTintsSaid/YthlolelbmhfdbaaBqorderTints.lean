import Derived.Test.YthlolelbmhfdbaaM5
set_option linter.all false
section
namespace Go.AE
open Go.RowKit
section
variable {ρ : Env} {Φ : Fz} {w : World}
end
section
variable {C : Ctx} {o : Oper} {T : AT} {H : AH} {nx nx' : Nat} {v : AV} {ups : AH}
end
section ops
variable {C : Ctx} {T : AT} {H : AH} {nx : Nat} {d : Option Tmp} {ty : TypeId} {pos : String} {after : Array Edge} {g : Option (Nat × Bool)}
section num
variable {x y : Operand} {k : IntKind} {a b c : Int} {t t' : TypeId}
theorem U_mul (hx : ev T x = some (.int k a)) (hy : ev T y = some (.int k b)) (hc : k.wrap (a * b) = c) : OpU C ⟨d, .binOp .mul t x y t', ty, pos, after, g⟩ T H nx (.int k c) [] nx :=
  binInt hx hy rfl (by simp) fun w => ⟨.int k c, by simp [binOp, Op.intArith, hc], fun _ _ => mk_int⟩
theorem U_quo (hx : ev T x = some (.int k a)) (hy : ev T y = some (.int k b)) (h0 : b ≠ 0) (hc : k.wrap (a.tdiv b) = c) : OpU C ⟨d, .binOp .quo t x y t', ty, pos, after, g⟩ T H nx (.int k c) [] nx :=
  binInt hx hy rfl (by simp) fun w => ⟨.int k c, by simp [binOp, Op.intDiv, h0, hc], fun _ _ => mk_int⟩
end num
end ops
end Go.AE
end

section
namespace Go.AE
open Go.RowKit
theorem le_nils' {cs : List AV} {n : Nat} (hn : n = 0) : AV.le .nils (.ros cs n none) := by subst hn; exact le_nils
section
variable {C : Ctx} {c : Code} {Q : Exit → St → Prop} {T : AT} {H : AH} {nx : Nat} {df : List Nat} {ops : Array Oper} {i : Nat} {K : St → Prop}
end
end Go.AE
end

section
namespace Go.AE
open Go.RowKit
section
variable {C : Ctx} {c : Code} {Q : Exit → St → Prop} {T T' : AT} {H H' : AH} {nx : Nat} {df : List Nat} {cs : List AV} {t : TypeId}
end
section ops
variable {C : Ctx} {T : AT} {H : AH} {nx : Nat} {d : Option Tmp} {ty : TypeId} {pos : String} {after : Array Edge} {g : Option (Nat × Bool)}
end ops
theorem setM {α : Type} {g : α → AV} {l : List α} {k : Nat} {x : α} : setC (l.map g) (0 + k * 1) [g x] = (l.set k x).map g := by simp [setC, List.map_set]
end Go.AE
end

section
namespace Go.AE
open Go.RowKit
theorem tdivN (a b : Nat) : (a : Int).tdiv b = ((a / b : Nat) : Int) := by rw [Int.tdiv_eq_ediv_of_nonneg (by omega)]; rfl
theorem wquoN {a b : Nat} (h : a ≤ 9223372036854775807) : IntKind.i64.wrap ((a : Int).tdiv b) = ((a / b : Nat) : Int) := by
  rw [tdivN]; have := Nat.div_le_self a b; generalize a / b = q at *; exact w64 (by omega) (by omega)
section
variable {P : Program} {T : AT} {H : AH} {nx : Nat}
end
section ops
variable {C : Ctx} {T : AT} {H : AH} {nx : Nat} {d : Option Tmp} {ty : TypeId} {pos : String} {after : Array Edge} {g : Option (Nat × Bool)}
end ops
end Go.AE
end

section
namespace Go.AE
open Go.RowKit
section
variable {C : Ctx} {T : AT} {H : AH} {nx : Nat} {d : Option Tmp} {ty : TypeId} {pos : String} {after : Array Edge} {g : Option (Nat × Bool)}
theorem U_eqlS {t t' : TypeId} {x y : Operand} {k : IntKind} {a : Int} (hx : ev T x = some (.int k a)) (hy : ev T y = some (.int k a)) : OpU C ⟨d, .binOp .eql t x y t', ty, pos, after, g⟩ T H nx (.bool true) [] nx := by
  have h := U_eql (C := C) (t := t) (t' := t') (d := d) (ty := ty) (pos := pos) (after := after) (g := g) (H := H) (nx := nx) hx hy
  rwa [decide_eq_true rfl] at h
theorem U_app0G {sT xT e e' z z' n : Nat} {x y : Operand} {s v : AV} [hT : TySl C.P sT e z] [hX : TySl C.P xT e' z'] (hx : ev T x = some s) (hy : ev T y = some v) (hs : ∀ ρ Φ w a, Con ρ Φ w s a → ∃ ad k, a = .slice ad n k ∧ n ≤ k) (hv : ∀ ρ Φ w a, Con ρ Φ w v a → ∃ ad k, a = .slice ad 0 k) :
    OpU C ⟨d, .call ⟨.builtin .append, #[x, y], #[sT, xT]⟩, ty, pos, after, g⟩ T H nx s [] nx :=
  OpU.of_value (by intro c; simp) fun ρ Φ a w h3 h4 => by
    obtain ⟨ad, k, e1, hnk⟩ := hs ρ Φ w _ (ev_con h3 hx)
    obtain ⟨ad', k', e4⟩ := hv ρ Φ w _ (ev_con h3 hy)
    refine ⟨a.eval x, ?_, ev_con h3 hx⟩
    have e5' : (Builtin.firstCells z 0 (.slice ad' 0 k')).run C.P w = .ok #[] w := by cases ad' <;> simp [Builtin.firstCells, loadCells, loadCellsFrom]
    have : (Builtin.append_ #[sT, xT] ty #[a.eval x, a.eval y]).run C.P w = .ok (a.eval x) w := by
      rw [e1, e4]
      unfold Builtin.append_
      cases ad with
      | none => simp only [List.getElem?_toArray, List.getElem?_cons_zero, List.getElem?_cons_succ, Sem.run_bind, run_underlying hT.un, run_underlying hX.un, Result.andThen_ok, Sem.run_pure, hT.size, Bool.false_eq_true, if_false, Builtin.lenOf, Nat.add_zero, hnk, if_true, Bool.not_false, e5']
      | some ad => simp only [List.getElem?_toArray, List.getElem?_cons_zero, List.getElem?_cons_succ, Sem.run_bind, run_underlying hT.un, run_underlying hX.un, Result.andThen_ok, Sem.run_pure, hT.size, Bool.false_eq_true, if_false, Builtin.lenOf, Nat.add_zero, hnk, if_true, Bool.not_false, e5', storeCells]
    simp only [execOp, resolve, Sem.run_bind, Sem.run_pure, Result.andThen_ok, invoke, builtin]
    simp [this]
theorem lenk_ros {cs : List AV} {n : Nat} {c : Option Nat} : ∀ (ρ : Env) Φ w y, Con ρ Φ w (.ros cs n c) y → ∃ a k, y = .slice a n k ∧ n ≤ k := fun _ _ _ _ h => by
  simp only [Con] at h; rcases h with ⟨rfl, ⟨_, h⟩, _⟩ | ⟨_, _, _, _, _, h, h2, _⟩
  · exact ⟨_, _, h, Nat.le_refl _⟩
  · exact ⟨_, _, h, h2⟩
theorem len0_ros {cs : List AV} {n : Nat} {c : Option Nat} (hn : n = 0) : ∀ (ρ : Env) Φ w y, Con ρ Φ w (.ros cs n c) y → ∃ a k, y = .slice a 0 k := fun ρ Φ w y h => by
  obtain ⟨a, k, h1, _⟩ := lenk_ros ρ Φ w y h; subst hn; exact ⟨a, k, h1⟩
end
end Go.AE
end

section
namespace Go.AE
open Go.RowKit
section
variable {C : Ctx} {T : AT} {H : AH} {nx : Nat} {d : Option Tmp} {ty : TypeId} {pos : String} {after : Array Edge} {g : Option (Nat × Bool)}
theorem stLt {α : Type} {f : α → AV} {l : List α} {j : Nat} (h : j < l.length) : 0 + j * 1 + 1 ≤ (l.map f).length := by simp; omega
end
end Go.AE
end

section
namespace Go.AE
open Go.RowKit
section
variable {C : Ctx} {T : AT} {H : AH} {nx : Nat} {d : Option Tmp} {ty : TypeId} {pos : String} {after : Array Edge} {g : Option (Nat × Bool)}
theorem U_appL {sT xT e e' z n n' : Nat} {x y : Operand} {s v : AV} {news : List AV} [hT : TySl C.P sT e z] [hX : TySl C.P xT e' z] [hE : TyElem C.P e z] (hx : ev T x = some s) (hs : srcS z H s = some ([], 0)) (hc0 : capOf s = some 0) (hy : ev T y = some v) (h2 : srcS z H v = some (news, n)) (hn : 0 < n) (hlim : n ≤ 1000000) (hn' : n = n') :
    OpU C ⟨d, .call ⟨.builtin .append, #[x, y], #[sT, xT]⟩, ty, pos, after, g⟩ T H nx (.out nx n' z) [(nx, outB news e n')] (nx + 1) := by
  subst hn'
  cases n with
  | zero => cases hn
  | succ m =>
    have h := U_appendGrow (C := C) (T := T) (H := H) (nx := nx) (d := d) (ty := ty) (pos := pos) (after := after) (g := g) (sT := sT) (xT := xT) hx hy hs h2 hc0 (by omega) (by omega)
    rw [Nat.zero_add] at h
    exact OpU.weakV (fun _ _ _ _ h => con_outS.2 h) h
end
end Go.AE
end

section
namespace Go.Proofs.Ythlolelbmhfdbaa
set_option maxRecDepth 20000
open Go.AE
theorem any_false {α : Type} {p : α → Bool} {l : List α} (h : ∀ j (hj : j < l.length), p l[j] = false) : l.any p = false := by
  rw [List.any_eq_false]; intro x hx; obtain ⟨j, hj, rfl⟩ := List.getElem_of_mem hx; rw [h j hj]; simp
end Go.Proofs.Ythlolelbmhfdbaa
end

section
namespace Go.Proofs.Ythlolelbmhfdbaa
set_option maxRecDepth 20000
open Go.AE
theorem any_f {α : Type} {p : α → Bool} {l : List α} (h : ∀ j (hj : j < l.length), p l[j] = false) : l.any p = false := any_false h
theorem bef_succ {α : Type} {p : α → Bool} {l : List α} {k : Nat} (h : ∀ j (hj : j < l.length), j < k → p l[j] = false) (hk : k < l.length) (hp : p l[k] = false) : ∀ j (hj : j < l.length), j < k + 1 → p l[j] = false := fun j hj h2 => by
  rcases Nat.lt_succ_iff_lt_or_eq.1 h2 with h2 | rfl
  · exact h j hj h2
  · exact hp
theorem isBR_p (b : Bx) (H Z : Int) (hH : 1 ≤ H ∧ H ≤ 48) (hZ : 1 ≤ Z ∧ Z ≤ 24) : Pure Try.prog 74 [bxA b, i64 H, i64 Z] (.bool (isB b H Z)) := by
  refine pure_of_body Try.func74 (c := body Try.f74) rfl (by simp [Try.ntmps74]) fun w0 Φ0 => ?_
  refine W_seq rfl ?_
  refine W_reg rfl ?_
  refine Rv rfl rfl rfl (U_boxF rfl rfl rfl) rfl rfl ?_
  refine Rv rfl rfl rfl (U_assign rfl) rfl rfl ?_
  refine Re rfl ?_
  refine thenQ_n ?_
  refine W_seq rfl ?_
  refine W_seq rfl ?_
  refine Wjoin ⟨[(2, i64 Z), (3, .rop [i64 b.fr, i64 b.wd, i64 b.lo, i64 b.hi] 0), (26, .bool ((decide (b.fr < 0)) || ((decide (H ≤ b.fr)) || ((decide (b.wd < 1)) || (decide (H < b.wd))))))], [], 0, []⟩ ?_ ?_
  · refine W_reg rfl ?_
    refine Rv rfl rfl rfl (U_fieldAddrR rfl) rfl rfl ?_
    refine Rv rfl rfl rfl (U_load1 rfl rfl rfl) rfl rfl ?_
    refine Rv rfl rfl rfl (U_lss rfl rfl) rfl rfl ?_
    refine Rv rfl rfl rfl (U_move rfl) rfl rfl ?_
    refine Rsplit (t := 10) rfl (fun hg1 => ?_) (fun hg1 => ?_)
    · rw [hg1]
      have hg1' : b.fr < 0 := of_decide_eq_true hg1
      refine Rs rfl rfl rfl rfl rfl ?_
      refine Rs rfl rfl rfl rfl rfl ?_
      refine Rs rfl rfl rfl rfl rfl ?_
      refine Rs rfl rfl rfl rfl rfl ?_
      refine Rv rfl rfl rfl (U_pick_t rfl rfl) rfl rfl ?_
      refine Rv rfl rfl rfl (U_move rfl) rfl rfl ?_
      refine Rs rfl rfl rfl rfl rfl ?_
      refine Rs rfl rfl rfl rfl rfl ?_
      refine Rs rfl rfl rfl rfl rfl ?_
      refine Rv rfl rfl rfl (U_pick_t rfl rfl) rfl rfl ?_
      refine Rv rfl rfl rfl (U_move rfl) rfl rfl ?_
      refine Rs rfl rfl rfl rfl rfl ?_
      refine Rs rfl rfl rfl rfl rfl ?_
      refine Rs rfl rfl rfl rfl rfl ?_
      refine Rs rfl rfl rfl rfl rfl ?_
      refine Rv rfl rfl rfl (U_pick_t rfl rfl) rfl rfl ?_
      refine Re rfl ?_
      exact joinTo id ⟨eD rfl rfl, eD rfl rfl, eD rfl rfl, trivial⟩ trivial rfl rfl rfl rfl (fun _ _ => rfl)
    · rw [hg1]
      have hg1' : ¬ (b.fr < 0) := of_decide_eq_false hg1
      refine Rv rfl rfl rfl (U_fieldAddrR rfl) rfl rfl ?_
      refine Rv rfl rfl rfl (U_load1 rfl rfl rfl) rfl rfl ?_
      refine Rv rfl rfl rfl (U_move rfl) rfl rfl ?_
      refine Rv rfl rfl rfl (U_geq rfl rfl) rfl rfl ?_
      refine Rv rfl rfl rfl (U_pick_f rfl rfl) rfl rfl ?_
      refine Rv rfl rfl rfl (U_move rfl) rfl rfl ?_
      refine Rsplit (t := 16) rfl (fun hg2 => ?_) (fun hg2 => ?_)
      · rw [hg2]
        have hg2' : H ≤ b.fr := of_decide_eq_true hg2
        refine Rs rfl rfl rfl rfl rfl ?_
        refine Rs rfl rfl rfl rfl rfl ?_
        refine Rs rfl rfl rfl rfl rfl ?_
        refine Rv rfl rfl rfl (U_pick_t rfl rfl) rfl rfl ?_
        refine Rv rfl rfl rfl (U_move rfl) rfl rfl ?_
        refine Rs rfl rfl rfl rfl rfl ?_
        refine Rs rfl rfl rfl rfl rfl ?_
        refine Rs rfl rfl rfl rfl rfl ?_
        refine Rs rfl rfl rfl rfl rfl ?_
        refine Rv rfl rfl rfl (U_pick_t rfl rfl) rfl rfl ?_
        refine Re rfl ?_
        exact joinTo id ⟨eD rfl rfl, eD rfl rfl, eD rfl rfl, trivial⟩ trivial rfl rfl rfl rfl (fun _ _ => rfl)
      · rw [hg2]
        have hg2' : ¬ (H ≤ b.fr) := of_decide_eq_false hg2
        refine Rv rfl rfl rfl (U_fieldAddrR rfl) rfl rfl ?_
        refine Rv rfl rfl rfl (U_load1 rfl rfl rfl) rfl rfl ?_
        refine Rv rfl rfl rfl (U_lss rfl rfl) rfl rfl ?_
        refine Rv rfl rfl rfl (U_pick_f rfl rfl) rfl rfl ?_
        refine Rv rfl rfl rfl (U_move rfl) rfl rfl ?_
        refine Rsplit (t := 21) rfl (fun hg3 => ?_) (fun hg3 => ?_)
        · rw [hg3]
          have hg3' : b.wd < 1 := of_decide_eq_true hg3
          refine Rs rfl rfl rfl rfl rfl ?_
          refine Rs rfl rfl rfl rfl rfl ?_
          refine Rs rfl rfl rfl rfl rfl ?_
          refine Rs rfl rfl rfl rfl rfl ?_
          refine Rv rfl rfl rfl (U_pick_t rfl rfl) rfl rfl ?_
          refine Re rfl ?_
          exact joinTo id ⟨eD rfl rfl, eD rfl rfl, eD rfl rfl, trivial⟩ trivial rfl rfl rfl rfl (fun _ _ => rfl)
        · rw [hg3]
          have hg3' : ¬ (b.wd < 1) := of_decide_eq_false hg3
          refine Rv rfl rfl rfl (U_fieldAddrR rfl) rfl rfl ?_
          refine Rv rfl rfl rfl (U_load1 rfl rfl rfl) rfl rfl ?_
          refine Rv rfl rfl rfl (U_move rfl) rfl rfl ?_
          refine Rv rfl rfl rfl (U_gtr rfl rfl) rfl rfl ?_
          refine Rv rfl rfl rfl (U_pick_f rfl rfl) rfl rfl ?_
          refine Re rfl ?_
          exact joinTo id ⟨eD rfl rfl, eD rfl rfl, eD rfl rfl, trivial⟩ trivial rfl rfl rfl rfl (fun _ _ => rfl)
  refine thenQ_n ?_
  refine Wcond rfl rfl (fun hc0 => ?_) (fun hc0 => ?_)
  · refine W_seq rfl ?_
    refine W_reg rfl ?_
    refine Rv rfl rfl rfl (U_assign rfl) rfl rfl ?_
    refine Re rfl ?_
    refine thenQ_n ?_
    refine W_ret rfl ?_
    refine thenQ_r ?_
    exact retL (rlT rfl rl0) (by first | rfl | (simp only [packA]; congr 1; symm; unfold isB; rw [inL1, inL1, inL1, inL1, Bool.eq_false_iff]; intro h; simp at h hc0; omega; first | done | rfl) | (simp only [packA]; congr 1; unfold isB; rw [inL1, inL1, inL1, inL1, Bool.eq_iff_iff]; simp at hc0 ⊢; omega; first | done | rfl)) rfl
  · have hc0' := Bool.eq_false_iff.1 hc0
    refine W_skip rfl ?_
    refine thenQ_n ?_
    refine W_seq rfl ?_
    refine Wjoin ⟨[(6, .bool ((decide (0 ≤ b.lo)) && ((decide (b.lo < b.hi)) && (decide (b.hi ≤ Z)))))], [], 0, []⟩ ?_ ?_
    · refine W_reg rfl ?_
      refine Rv rfl rfl rfl (U_fieldAddrR rfl) rfl rfl ?_
      refine Rv rfl rfl rfl (U_load1 rfl rfl rfl) rfl rfl ?_
      refine Rv rfl rfl rfl (U_geq rfl rfl) rfl rfl ?_
      refine Rv rfl rfl rfl (U_move rfl) rfl rfl ?_
      refine Rsplit (t := 30) rfl (fun hg4 => ?_) (fun hg4 => ?_)
      · rw [hg4]
        have hg4' : 0 ≤ b.lo := of_decide_eq_true hg4
        refine Rv rfl rfl rfl (U_fieldAddrR rfl) rfl rfl ?_
        refine Rv rfl rfl rfl (U_load1 rfl rfl rfl) rfl rfl ?_
        refine Rv rfl rfl rfl (U_fieldAddrR rfl) rfl rfl ?_
        refine Rv rfl rfl rfl (U_load1 rfl rfl rfl) rfl rfl ?_
        refine Rv rfl rfl rfl (U_lss rfl rfl) rfl rfl ?_
        refine Rv rfl rfl rfl (U_pick_t rfl rfl) rfl rfl ?_
        refine Rv rfl rfl rfl (U_move rfl) rfl rfl ?_
        refine Rsplit (t := 37) rfl (fun hg5 => ?_) (fun hg5 => ?_)
        · rw [hg5]
          have hg5' : b.lo < b.hi := of_decide_eq_true hg5
          refine Rv rfl rfl rfl (U_fieldAddrR rfl) rfl rfl ?_
          refine Rv rfl rfl rfl (U_load1 rfl rfl rfl) rfl rfl ?_
          refine Rv rfl rfl rfl (U_move rfl) rfl rfl ?_
          refine Rv rfl rfl rfl (U_leq rfl rfl) rfl rfl ?_
          refine Rv rfl rfl rfl (U_pick_t rfl rfl) rfl rfl ?_
          refine Rv rfl rfl rfl (U_assign rfl) rfl rfl ?_
          refine Re rfl ?_
          exact joinTo id ⟨eD rfl rfl, trivial⟩ trivial rfl rfl rfl rfl (fun _ _ => rfl)
        · rw [hg5]
          have hg5' : ¬ (b.lo < b.hi) := of_decide_eq_false hg5
          refine Rs rfl rfl rfl rfl rfl ?_
          refine Rs rfl rfl rfl rfl rfl ?_
          refine Rs rfl rfl rfl rfl rfl ?_
          refine Rs rfl rfl rfl rfl rfl ?_
          refine Rv rfl rfl rfl (U_pick_f rfl rfl) rfl rfl ?_
          refine Rv rfl rfl rfl (U_assign rfl) rfl rfl ?_
          refine Re rfl ?_
          exact joinTo id ⟨eD rfl rfl, trivial⟩ trivial rfl rfl rfl rfl (fun _ _ => rfl)
      · rw [hg4]
        have hg4' : ¬ (0 ≤ b.lo) := of_decide_eq_false hg4
        refine Rs rfl rfl rfl rfl rfl ?_
        refine Rs rfl rfl rfl rfl rfl ?_
        refine Rs rfl rfl rfl rfl rfl ?_
        refine Rs rfl rfl rfl rfl rfl ?_
        refine Rs rfl rfl rfl rfl rfl ?_
        refine Rv rfl rfl rfl (U_pick_f rfl rfl) rfl rfl ?_
        refine Rv rfl rfl rfl (U_move rfl) rfl rfl ?_
        refine Rs rfl rfl rfl rfl rfl ?_
        refine Rs rfl rfl rfl rfl rfl ?_
        refine Rs rfl rfl rfl rfl rfl ?_
        refine Rs rfl rfl rfl rfl rfl ?_
        refine Rv rfl rfl rfl (U_pick_f rfl rfl) rfl rfl ?_
        refine Rv rfl rfl rfl (U_assign rfl) rfl rfl ?_
        refine Re rfl ?_
        exact joinTo id ⟨eD rfl rfl, trivial⟩ trivial rfl rfl rfl rfl (fun _ _ => rfl)
    refine thenQ_n ?_
    refine W_ret rfl ?_
    exact retL (rlT rfl rl0) (by first | rfl | (simp only [packA]; congr 1; symm; unfold isB; rw [inL1, inL1, inL1, inL1, Bool.eq_false_iff]; intro h; simp at h hc0; omega; first | done | rfl) | (simp only [packA]; congr 1; unfold isB; rw [inL1, inL1, inL1, inL1, Bool.eq_iff_iff]; simp at hc0 ⊢; omega; first | done | rfl)) rfl
theorem chkSR_p (s : Sk) (c : Option Nat) (hl : s.ls.length ≤ 1000000) (hbl : ∀ l ∈ s.ls, l.length ≤ 1000000) : Pure Try.prog 23 [.agg [i64 s.h, i64 s.z, landsA s.ls c]] (i64 (chkS s)) := by
  refine pure_of_body Try.func23 (c := body Try.f23) rfl (by simp [Try.ntmps23]) fun w0 Φ0 => ?_
  refine W_seq rfl ?_
  refine W_reg rfl ?_
  refine Rv rfl rfl rfl (U_boxF rfl rfl rfl) rfl rfl ?_
  refine Rv rfl rfl rfl (U_assign rfl) rfl rfl ?_
  refine Re rfl ?_
  refine thenQ_n ?_
  refine W_seq rfl ?_
  refine W_seq rfl ?_
  refine Wjoin ⟨[(1, .rop [i64 s.h, i64 s.z, .ros (s.ls.map boxesL) s.ls.length c] 0), (23, .bool ((decide (s.h < 1)) || ((decide (48 < s.h)) || ((decide (s.z < 1)) || (decide (24 < s.z))))))], [], 0, []⟩ ?_ ?_
  · refine W_reg rfl ?_
    refine Rv rfl rfl rfl (U_fieldAddrR rfl) rfl rfl ?_
    refine Rv rfl rfl rfl (U_load1 rfl rfl rfl) rfl rfl ?_
    refine Rv rfl rfl rfl (U_lss rfl rfl) rfl rfl ?_
    refine Rv rfl rfl rfl (U_move rfl) rfl rfl ?_
    refine Rsplit (t := 9) rfl (fun hg1 => ?_) (fun hg1 => ?_)
    · rw [hg1]
      have hg1' : s.h < 1 := of_decide_eq_true hg1
      refine Rs rfl rfl rfl rfl rfl ?_
      refine Rs rfl rfl rfl rfl rfl ?_
      refine Rs rfl rfl rfl rfl rfl ?_
      refine Rv rfl rfl rfl (U_pick_t rfl rfl) rfl rfl ?_
      refine Rv rfl rfl rfl (U_move rfl) rfl rfl ?_
      refine Rs rfl rfl rfl rfl rfl ?_
      refine Rs rfl rfl rfl rfl rfl ?_
      refine Rs rfl rfl rfl rfl rfl ?_
      refine Rv rfl rfl rfl (U_pick_t rfl rfl) rfl rfl ?_
      refine Rv rfl rfl rfl (U_move rfl) rfl rfl ?_
      refine Rs rfl rfl rfl rfl rfl ?_
      refine Rs rfl rfl rfl rfl rfl ?_
      refine Rs rfl rfl rfl rfl rfl ?_
      refine Rv rfl rfl rfl (U_pick_t rfl rfl) rfl rfl ?_
      refine Re rfl ?_
      exact joinTo id ⟨eD rfl rfl, eD rfl rfl, trivial⟩ trivial rfl rfl rfl rfl (fun _ _ => rfl)
    · rw [hg1]
      have hg1' : ¬ (s.h < 1) := of_decide_eq_false hg1
      refine Rv rfl rfl rfl (U_fieldAddrR rfl) rfl rfl ?_
      refine Rv rfl rfl rfl (U_load1 rfl rfl rfl) rfl rfl ?_
      refine Rv rfl rfl rfl (U_gtr rfl rfl) rfl rfl ?_
      refine Rv rfl rfl rfl (U_pick_f rfl rfl) rfl rfl ?_
      refine Rv rfl rfl rfl (U_move rfl) rfl rfl ?_
      refine Rsplit (t := 14) rfl (fun hg2 => ?_) (fun hg2 => ?_)
      · rw [hg2]
        have hg2' : 48 < s.h := of_decide_eq_true hg2
        refine Rs rfl rfl rfl rfl rfl ?_
        refine Rs rfl rfl rfl rfl rfl ?_
        refine Rs rfl rfl rfl rfl rfl ?_
        refine Rv rfl rfl rfl (U_pick_t rfl rfl) rfl rfl ?_
        refine Rv rfl rfl rfl (U_move rfl) rfl rfl ?_
        refine Rs rfl rfl rfl rfl rfl ?_
        refine Rs rfl rfl rfl rfl rfl ?_
        refine Rs rfl rfl rfl rfl rfl ?_
        refine Rv rfl rfl rfl (U_pick_t rfl rfl) rfl rfl ?_
        refine Re rfl ?_
        exact joinTo id ⟨eD rfl rfl, eD rfl rfl, trivial⟩ trivial rfl rfl rfl rfl (fun _ _ => rfl)
      · rw [hg2]
        have hg2' : ¬ (48 < s.h) := of_decide_eq_false hg2
        refine Rv rfl rfl rfl (U_fieldAddrR rfl) rfl rfl ?_
        refine Rv rfl rfl rfl (U_load1 rfl rfl rfl) rfl rfl ?_
        refine Rv rfl rfl rfl (U_lss rfl rfl) rfl rfl ?_
        refine Rv rfl rfl rfl (U_pick_f rfl rfl) rfl rfl ?_
        refine Rv rfl rfl rfl (U_move rfl) rfl rfl ?_
        refine Rsplit (t := 19) rfl (fun hg3 => ?_) (fun hg3 => ?_)
        · rw [hg3]
          have hg3' : s.z < 1 := of_decide_eq_true hg3
          refine Rs rfl rfl rfl rfl rfl ?_
          refine Rs rfl rfl rfl rfl rfl ?_
          refine Rs rfl rfl rfl rfl rfl ?_
          refine Rv rfl rfl rfl (U_pick_t rfl rfl) rfl rfl ?_
          refine Re rfl ?_
          exact joinTo id ⟨eD rfl rfl, eD rfl rfl, trivial⟩ trivial rfl rfl rfl rfl (fun _ _ => rfl)
        · rw [hg3]
          have hg3' : ¬ (s.z < 1) := of_decide_eq_false hg3
          refine Rv rfl rfl rfl (U_fieldAddrR rfl) rfl rfl ?_
          refine Rv rfl rfl rfl (U_load1 rfl rfl rfl) rfl rfl ?_
          refine Rv rfl rfl rfl (U_gtr rfl rfl) rfl rfl ?_
          refine Rv rfl rfl rfl (U_pick_f rfl rfl) rfl rfl ?_
          refine Re rfl ?_
          exact joinTo id ⟨eD rfl rfl, eD rfl rfl, trivial⟩ trivial rfl rfl rfl rfl (fun _ _ => rfl)
  refine thenQ_n ?_
  refine Wcond rfl rfl (fun hc0 => ?_) (fun hc0 => ?_)
  · have hce : chkS s = 3 := by rw [chkS, if_pos (by rw [inL1, inL1]; simp at hc0 ⊢; omega)]
    refine W_seq rfl ?_
    refine W_reg rfl ?_
    refine Rv rfl rfl rfl (U_assign rfl) rfl rfl ?_
    refine Re rfl ?_
    refine thenQ_n ?_
    refine W_ret rfl ?_
    refine thenQ_r ?_
    exact retL (rlT rfl rl0) (by first | rfl | (simp only [packA]; rw [hce]; first | done | rfl)) rfl
  · have hc0' := Bool.eq_false_iff.1 hc0
    have hr : (1 ≤ s.h ∧ s.h ≤ 48) ∧ 1 ≤ s.z ∧ s.z ≤ 24 := by simp at hc0; omega
    obtain ⟨hh, hz⟩ := hr
    refine W_skip rfl ?_
    refine thenQ_n ?_
    refine W_seq rfl ?_
    refine W_seq rfl ?_
    refine W_reg rfl ?_
    refine Rv rfl rfl rfl (U_fieldAddrR rfl) rfl rfl ?_
    refine Rv rfl rfl rfl (U_load1 rfl rfl rfl) rfl rfl ?_
    refine Rv rfl rfl rfl (U_lenOf rfl len_ros) rfl rfl ?_
    refine Rv rfl rfl rfl (U_gtr rfl rfl) rfl rfl ?_
    refine Re rfl ?_
    refine thenQ_n ?_
    refine WcondP rfl rfl (fun hc1 => ?_) (fun hc1 => ?_)
    · have hce : chkS s = 6 := by rw [chkS, if_neg (by rw [inL1, inL1]; simp; omega), if_pos (by simp; omega)]
      refine W_seq rfl ?_
      refine W_reg rfl ?_
      refine Rv rfl rfl rfl (U_assign rfl) rfl rfl ?_
      refine Re rfl ?_
      refine thenQ_n ?_
      refine W_ret rfl ?_
      refine thenQ_r ?_
      exact retL (rlT rfl rl0) (by first | rfl | (simp only [packA]; rw [hce]; first | done | rfl)) rfl
    · refine W_skip rfl ?_
      refine thenQ_n ?_
      refine W_seq rfl ?_
      refine W_seq rfl ?_
      refine W_reg rfl ?_
      refine Rv rfl rfl rfl (U_assign rfl) rfl rfl ?_
      refine Re rfl ?_
      refine thenQ_n ?_
      refine W_block rfl ?_
      refine LoopTo (T' := [(1, .rop [i64 s.h, i64 s.z, .ros (s.ls.map boxesL) s.ls.length c] 0), (3, i64 ((0 : Nat) : Int))]) (H' := []) (n := 0) rfl (fun mz_ qz_ => ∃ (k : Nat), k ≤ s.ls.length ∧ (∀ j (hj : j < s.ls.length), j < k → decide ((600 : Int) < ((s.ls[j].length : Nat) : Int)) = false) ∧ mz_ = s.ls.length - k ∧ qz_ = ⟨[(1, .rop [i64 s.h, i64 s.z, .ros (s.ls.map boxesL) s.ls.length c] 0), (3, i64 ((k : Nat) : Int))], [], 0, []⟩) ⟨0, (by omega), (fun j hj h => absurd h (Nat.not_lt_zero _)), rfl, rfl⟩ id ⟨eD rfl rfl, eD rfl rfl, trivial⟩ trivial rfl rfl rfl rfl (fun _ _ => rfl) ?_
      rintro _ _ ⟨k, hi0_0, hi0_1, rfl, rfl⟩
      refine W_seq rfl ?_
      refine W_seq rfl ?_
      refine W_reg rfl ?_
      refine Rv rfl rfl rfl (U_move rfl) rfl rfl ?_
      refine Rv rfl rfl rfl (U_fieldAddrR rfl) rfl rfl ?_
      refine Rv rfl rfl rfl (U_load1 rfl rfl rfl) rfl rfl ?_
      refine Rv rfl rfl rfl (U_lenOf rfl len_ros) rfl rfl ?_
      refine Rv rfl rfl rfl (U_lss rfl rfl) rfl rfl ?_
      refine Re rfl ?_
      refine thenQ_n ?_
      refine WcondP rfl rfl (fun hc2 => ?_) (fun hc2 => ?_)
      · have hck : k < s.ls.length := by omega
        refine W_skip rfl ?_
        refine thenQ_n ?_
        refine W_seq rfl ?_
        refine W_block rfl ?_
        refine W_seq rfl ?_
        refine W_reg rfl ?_
        refine Rv rfl rfl rfl (U_fieldAddrR rfl) rfl rfl ?_
        refine Rv rfl rfl rfl (U_load1 rfl rfl rfl) rfl rfl ?_
        refine Rv rfl rfl rfl (U_move rfl) rfl rfl ?_
        have hx4 : k < s.ls.length := by omega
        refine Rv rfl rfl rfl (U_indexR (j := k) rfl rfl rfl hx4) rfl rfl ?_
        refine Rv rfl rfl rfl (U_load1 rfl rfl (getM hx4)) rfl rfl ?_
        refine Rv rfl rfl rfl (U_lenOf rfl len_ros) rfl rfl ?_
        refine Rv rfl rfl rfl (U_gtr rfl rfl) rfl rfl ?_
        refine Re rfl ?_
        refine thenQ_n ?_
        refine WcondP rfl rfl (fun hc3 => ?_) (fun hc3 => ?_)
        · have h600 : (s.ls.any fun l => decide ((600 : Int) < ((l.length : Nat) : Int))) = true := any_true hck (by simpa using hc3)
          have hce : chkS s = 6 := by rw [chkS, if_neg (by rw [inL1, inL1]; simp; omega), if_pos (by rw [h600]; simp)]
          refine W_seq rfl ?_
          refine W_reg rfl ?_
          refine Rv rfl rfl rfl (U_assign rfl) rfl rfl ?_
          refine Re rfl ?_
          refine thenQ_n ?_
          refine W_ret rfl ?_
          refine blkQ_r ?_
          refine thenQ_r ?_
          refine thenQ_r ?_
          refine blkQ_r ?_
          refine thenQ_r ?_
          exact retL (rlT rfl rl0) (by first | rfl | (simp only [packA]; rw [hce]; first | done | rfl)) rfl
        · refine W_skip rfl ?_
          refine blkQ_n ?_
          refine thenQ_n ?_
          refine W_reg rfl ?_
          refine Rv rfl rfl rfl (U_move rfl) rfl rfl ?_
          refine Rv rfl rfl rfl (U_add rfl rfl (w64e (m := ((k + 1 : Nat) : Int)) (by omega) (by omega) (by omega))) rfl rfl ?_
          refine Rv rfl rfl rfl (U_assign rfl) rfl rfl ?_
          refine Re rfl ?_
          refine thenQ_n ?_
          exact againTo (T' := [(1, .rop [i64 s.h, i64 s.z, .ros (s.ls.map boxesL) s.ls.length c] 0), (3, i64 (((k + 1) : Nat) : Int))]) (H' := []) (n := 0) (s.ls.length - (k + 1)) ⟨k + 1, (by omega), (bef_succ (p := fun l : List Bx => decide ((600 : Int) < ((l.length : Nat) : Int))) hi0_1 hck (by simp; omega)), rfl, rfl⟩ (by omega) id ⟨eD rfl rfl, eD rfl rfl, trivial⟩ trivial rfl rfl rfl rfl (fun _ _ => rfl)
      · have h600 : (s.ls.any fun l => decide ((600 : Int) < ((l.length : Nat) : Int))) = false := any_f fun j hj => hi0_1 j hj (by omega)
        refine W_exit rfl ?_
        refine thenQ_x ?_
        refine thenQ_x ?_
        refine blkQ_x rfl ?_
        refine thenQ_n ?_
        refine W_seq rfl ?_
        refine W_seq rfl ?_
        refine W_reg rfl ?_
        refine Rv rfl rfl rfl (U_assign rfl) rfl rfl ?_
        refine Re rfl ?_
        refine thenQ_n ?_
        refine W_block rfl ?_
        refine LoopTo (T' := [(1, .rop [i64 s.h, i64 s.z, .ros (s.ls.map boxesL) s.ls.length c] 0), (4, i64 ((0 : Nat) : Int))]) (H' := []) (n := 0) rfl (fun mz_ qz_ => ∃ (m : Nat), m ≤ s.ls.length ∧ (∀ j (hj : j < s.ls.length), j < m → (s.ls[j].any fun b => !isB b s.h s.z) = false) ∧ mz_ = s.ls.length - m ∧ qz_ = ⟨[(1, .rop [i64 s.h, i64 s.z, .ros (s.ls.map boxesL) s.ls.length c] 0), (4, i64 ((m : Nat) : Int))], [], 0, []⟩) ⟨0, (by omega), (fun j hj h => absurd h (Nat.not_lt_zero _)), rfl, rfl⟩ id ⟨eD rfl rfl, eD rfl rfl, trivial⟩ trivial rfl rfl rfl rfl (fun _ _ => rfl) ?_
        rintro _ _ ⟨m, hi1_0, hi1_1, rfl, rfl⟩
        refine W_seq rfl ?_
        refine W_seq rfl ?_
        refine W_reg rfl ?_
        refine Rv rfl rfl rfl (U_move rfl) rfl rfl ?_
        refine Rv rfl rfl rfl (U_fieldAddrR rfl) rfl rfl ?_
        refine Rv rfl rfl rfl (U_load1 rfl rfl rfl) rfl rfl ?_
        refine Rv rfl rfl rfl (U_lenOf rfl len_ros) rfl rfl ?_
        refine Rv rfl rfl rfl (U_lss rfl rfl) rfl rfl ?_
        refine Re rfl ?_
        refine thenQ_n ?_
        refine WcondP rfl rfl (fun hc4 => ?_) (fun hc4 => ?_)
        · have hcm : m < s.ls.length := by omega
          have hbm := hbl _ (List.getElem_mem hcm)
          refine W_skip rfl ?_
          refine thenQ_n ?_
          refine W_seq rfl ?_
          refine W_block rfl ?_
          refine W_seq rfl ?_
          refine W_reg rfl ?_
          refine Rv rfl rfl rfl (U_assign rfl) rfl rfl ?_
          refine Re rfl ?_
          refine thenQ_n ?_
          refine W_block rfl ?_
          refine LoopTo (T' := [(1, .rop [i64 s.h, i64 s.z, .ros (s.ls.map boxesL) s.ls.length c] 0), (4, i64 ((m : Nat) : Int)), (5, i64 ((0 : Nat) : Int))]) (H' := []) (n := 0) rfl (fun mz_ qz_ => ∃ (i : Nat), i ≤ s.ls[m].length ∧ (∀ j (hj : j < s.ls[m].length), j < i → (!isB s.ls[m][j] s.h s.z) = false) ∧ mz_ = s.ls[m].length - i ∧ qz_ = ⟨[(1, .rop [i64 s.h, i64 s.z, .ros (s.ls.map boxesL) s.ls.length c] 0), (4, i64 ((m : Nat) : Int)), (5, i64 ((i : Nat) : Int))], [], 0, []⟩) ⟨0, (by omega), (fun j hj h => absurd h (Nat.not_lt_zero _)), rfl, rfl⟩ id ⟨eD rfl rfl, eD rfl rfl, eD rfl rfl, trivial⟩ trivial rfl rfl rfl rfl (fun _ _ => rfl) ?_
          rintro _ _ ⟨i, hi2_0, hi2_1, rfl, rfl⟩
          refine W_seq rfl ?_
          refine W_seq rfl ?_
          refine W_reg rfl ?_
          refine Rv rfl rfl rfl (U_move rfl) rfl rfl ?_
          refine Rv rfl rfl rfl (U_fieldAddrR rfl) rfl rfl ?_
          refine Rv rfl rfl rfl (U_load1 rfl rfl rfl) rfl rfl ?_
          refine Rv rfl rfl rfl (U_move rfl) rfl rfl ?_
          have hx5 : m < s.ls.length := by omega
          refine Rv rfl rfl rfl (U_indexR (j := m) rfl rfl rfl hx5) rfl rfl ?_
          refine Rv rfl rfl rfl (U_load1 rfl rfl (getM hx5)) rfl rfl ?_
          refine Rv rfl rfl rfl (U_lenOf rfl len_ros) rfl rfl ?_
          refine Rv rfl rfl rfl (U_lss rfl rfl) rfl rfl ?_
          refine Re rfl ?_
          refine thenQ_n ?_
          refine WcondP rfl rfl (fun hc5 => ?_) (fun hc5 => ?_)
          · have hci : i < s.ls[m].length := by omega
            refine W_skip rfl ?_
            refine thenQ_n ?_
            refine W_seq rfl ?_
            refine W_block rfl ?_
            refine W_seq rfl ?_
            refine Wdraw rfl (by kernel_rfl) (by kernel_rfl) ?_
            refine Dv rfl rfl rfl (U_fieldAddrR rfl) rfl rfl ?_
            refine Dv rfl rfl rfl (U_load1 rfl rfl rfl) rfl rfl ?_
            refine Dv rfl rfl rfl (U_move rfl) rfl rfl ?_
            refine Dv rfl rfl rfl (U_indexR (j := m) rfl rfl rfl hx5) rfl rfl ?_
            refine Dv rfl rfl rfl (U_load1 rfl rfl (getM hx5)) rfl rfl ?_
            refine Dv rfl rfl rfl (U_move rfl) rfl rfl ?_
            have hx6 : i < s.ls[m].length := by omega
            refine Dv rfl rfl rfl (U_indexR (j := i) rfl rfl rfl hx6) rfl rfl ?_
            refine Dv rfl rfl rfl (U_load4 rfl rfl (bxG0 hx6) (bxG1 hx6) (bxG2 hx6) (bxG3 hx6)) rfl rfl ?_
            refine Dv rfl rfl rfl (U_fieldAddrR rfl) rfl rfl ?_
            refine Dv rfl rfl rfl (U_load1 rfl rfl rfl) rfl rfl ?_
            refine Dv rfl rfl rfl (U_fieldAddrR rfl) rfl rfl ?_
            refine Dv rfl rfl rfl (U_load1 rfl rfl rfl) rfl rfl ?_
            refine Dv rfl rfl rfl (U_call rfl rfl (isBR_p (s.ls[m][i]) s.h s.z (by assumption) (by assumption)) rfl) rfl rfl ?_
            refine Dv rfl rfl rfl (U_not rfl) rfl rfl ?_
            refine Dr.nil rfl ?_
            refine thenQ_n ?_
            refine Wcond rfl rfl (fun hc6 => ?_) (fun hc6 => ?_)
            · have hst : (s.ls.any fun l => l.any fun b => !isB b s.h s.z) = true := any_true hcm (any_true hci (by simpa using hc6))
              have hce : chkS s = 2 := by rw [chkS, if_neg (by rw [inL1, inL1]; simp; omega), if_neg (by rw [h600]; simp; omega), if_pos hst]
              refine W_seq rfl ?_
              refine W_reg rfl ?_
              refine Rv rfl rfl rfl (U_assign rfl) rfl rfl ?_
              refine Re rfl ?_
              refine thenQ_n ?_
              refine W_ret rfl ?_
              refine blkQ_r ?_
              refine thenQ_r ?_
              refine thenQ_r ?_
              refine blkQ_r ?_
              refine blkQ_r ?_
              refine thenQ_r ?_
              refine thenQ_r ?_
              refine blkQ_r ?_
              refine thenQ_r ?_
              exact retL (rlT rfl rl0) (by first | rfl | (simp only [packA]; rw [hce]; first | done | rfl)) rfl
            · have hc6' := Bool.eq_false_iff.1 hc6
              refine W_skip rfl ?_
              refine blkQ_n ?_
              refine thenQ_n ?_
              refine W_reg rfl ?_
              refine Rv rfl rfl rfl (U_move rfl) rfl rfl ?_
              refine Rv rfl rfl rfl (U_add rfl rfl (w64e (m := ((i + 1 : Nat) : Int)) (by omega) (by omega) (by omega))) rfl rfl ?_
              refine Rv rfl rfl rfl (U_assign rfl) rfl rfl ?_
              refine Re rfl ?_
              refine thenQ_n ?_
              exact againTo (T' := [(1, .rop [i64 s.h, i64 s.z, .ros (s.ls.map boxesL) s.ls.length c] 0), (4, i64 ((m : Nat) : Int)), (5, i64 (((i + 1) : Nat) : Int))]) (H' := []) (n := 0) (s.ls[m].length - (i + 1)) ⟨i + 1, (by omega), (bef_succ (p := fun b : Bx => !isB b s.h s.z) hi2_1 hci (by simpa using hc6)), rfl, rfl⟩ (by omega) id ⟨eD rfl rfl, eD rfl rfl, eD rfl rfl, trivial⟩ trivial rfl rfl rfl rfl (fun _ _ => rfl)
          · have hla : (s.ls[m].any fun b => !isB b s.h s.z) = false := any_f fun j hj => hi2_1 j hj (by omega)
            refine W_exit rfl ?_
            refine thenQ_x ?_
            refine thenQ_x ?_
            refine blkQ_x rfl ?_
            refine blkQ_n ?_
            refine thenQ_n ?_
            refine W_reg rfl ?_
            refine Rv rfl rfl rfl (U_move rfl) rfl rfl ?_
            refine Rv rfl rfl rfl (U_add rfl rfl (w64e (m := ((m + 1 : Nat) : Int)) (by omega) (by omega) (by omega))) rfl rfl ?_
            refine Rv rfl rfl rfl (U_assign rfl) rfl rfl ?_
            refine Re rfl ?_
            refine thenQ_n ?_
            exact againTo (T' := [(1, .rop [i64 s.h, i64 s.z, .ros (s.ls.map boxesL) s.ls.length c] 0), (4, i64 (((m + 1) : Nat) : Int))]) (H' := []) (n := 0) (s.ls.length - (m + 1)) ⟨m + 1, (by omega), (bef_succ (p := fun l : List Bx => l.any fun b => !isB b s.h s.z) hi1_1 hcm hla), rfl, rfl⟩ (by omega) id ⟨eD rfl rfl, eD rfl rfl, trivial⟩ trivial rfl rfl rfl rfl (fun _ _ => rfl)
        · have hst : (s.ls.any fun l => l.any fun b => !isB b s.h s.z) = false := any_f fun j hj => hi1_1 j hj (by omega)
          have hce : chkS s = 0 := by rw [chkS, if_neg (by rw [inL1, inL1]; simp; omega), if_neg (by rw [h600]; simp; omega), if_neg (by rw [hst]; simp)]
          refine W_exit rfl ?_
          refine thenQ_x ?_
          refine thenQ_x ?_
          refine blkQ_x rfl ?_
          refine thenQ_n ?_
          refine W_seq rfl ?_
          refine W_reg rfl ?_
          refine Rv rfl rfl rfl (U_assign rfl) rfl rfl ?_
          refine Re rfl ?_
          refine thenQ_n ?_
          refine W_ret rfl ?_
          exact retL (rlT rfl rl0) (by first | rfl | (simp only [packA]; rw [hce]; first | done | rfl)) rfl
end Go.Proofs.Ythlolelbmhfdbaa
end

section
namespace Go.Proofs.Ythlolelbmhfdbaa
set_option maxRecDepth 20000
open Go.AE
abbrev natsA (l : List Nat) (c : Option Nat) : AV := .ros (l.map n64) l.length c
end Go.Proofs.Ythlolelbmhfdbaa
end

section
namespace Go.Proofs.Ythlolelbmhfdbaa
set_option maxRecDepth 20000
open Go.AE
theorem inBoxR_p (b : Bx) (H z h : Nat) (hH : 1 ≤ H ∧ H ≤ 48) (hf : 0 ≤ b.fr ∧ b.fr < H) (hh : h < H) : Pure Try.prog 92 [bxA b, i64 (H : Nat), i64 (h : Nat), i64 (z : Nat)] (.bool (inN b H z h)) := by
  refine pure_of_body Try.func92 (c := body Try.f92) rfl (by simp [Try.ntmps92]) fun w0 Φ0 => ?_
  refine W_seq rfl ?_
  refine W_reg rfl ?_
  refine Rv rfl rfl rfl (U_boxF rfl rfl rfl) rfl rfl ?_
  refine Rv rfl rfl rfl (U_assign rfl) rfl rfl ?_
  refine Re rfl ?_
  refine thenQ_n ?_
  refine W_seq rfl ?_
  refine Wjoin ⟨[(8, .bool ((decide ((((((h : Nat) : Int) - b.fr) + ((H : Nat) : Int)) % ((H : Nat) : Int)) < b.wd)) && ((decide (b.lo ≤ ((z : Nat) : Int))) && (decide (((z : Nat) : Int) < b.hi)))))], [], 0, []⟩ ?_ ?_
  · refine Wdraw rfl (by kernel_rfl) (by kernel_rfl) ?_
    refine Dv rfl rfl rfl (U_move rfl) rfl rfl ?_
    refine Dv rfl rfl rfl (U_fieldAddrR rfl) rfl rfl ?_
    refine Dv rfl rfl rfl (U_load1 rfl rfl rfl) rfl rfl ?_
    refine Dv rfl rfl rfl (U_sub rfl rfl (w64 (by omega) (by omega))) rfl rfl ?_
    refine Dv rfl rfl rfl (U_move rfl) rfl rfl ?_
    refine Dv rfl rfl rfl (U_add rfl rfl (w64 (by omega) (by omega))) rfl rfl ?_
    refine Dv rfl rfl rfl (U_move rfl) rfl rfl ?_
    refine Dv rfl rfl rfl (U_rem (c := (((((h : Nat) : Int) - b.fr) + ((H : Nat) : Int)) % ((H : Nat) : Int))) rfl rfl (by omega) (tmodP (by omega))) rfl rfl ?_
    refine Dv rfl rfl rfl (U_fieldAddrR rfl) rfl rfl ?_
    refine Dv rfl rfl rfl (U_load1 rfl rfl rfl) rfl rfl ?_
    refine Dv rfl rfl rfl (U_lss rfl rfl) rfl rfl ?_
    refine Dv rfl rfl rfl (U_move rfl) rfl rfl ?_
    refine Dsplit (t := 20) rfl (fun hg1 => ?_) (fun hg1 => ?_)
    · rw [hg1]
      have hg1' : (((((h : Nat) : Int) - b.fr) + ((H : Nat) : Int)) % ((H : Nat) : Int)) < b.wd := of_decide_eq_true hg1
      refine Dv rfl rfl rfl (U_move rfl) rfl rfl ?_
      refine Dv rfl rfl rfl (U_fieldAddrR rfl) rfl rfl ?_
      refine Dv rfl rfl rfl (U_load1 rfl rfl rfl) rfl rfl ?_
      refine Dv rfl rfl rfl (U_geq rfl rfl) rfl rfl ?_
      refine Dv rfl rfl rfl (U_pick_t rfl rfl) rfl rfl ?_
      refine Dv rfl rfl rfl (U_move rfl) rfl rfl ?_
      refine Dsplit (t := 26) rfl (fun hg2 => ?_) (fun hg2 => ?_)
      · rw [hg2]
        have hg2' : b.lo ≤ ((z : Nat) : Int) := of_decide_eq_true hg2
        refine Dv rfl rfl rfl (U_move rfl) rfl rfl ?_
        refine Dv rfl rfl rfl (U_fieldAddrR rfl) rfl rfl ?_
        refine Dv rfl rfl rfl (U_load1 rfl rfl rfl) rfl rfl ?_
        refine Dv rfl rfl rfl (U_lss rfl rfl) rfl rfl ?_
        refine Dv rfl rfl rfl (U_pick_t rfl rfl) rfl rfl ?_
        refine Dv rfl rfl rfl (U_assign rfl) rfl rfl ?_
        refine Dr.nil rfl ?_
        exact joinTo id ⟨eD rfl rfl, trivial⟩ trivial rfl rfl rfl rfl (fun _ _ => rfl)
      · rw [hg2]
        have hg2' : ¬ (b.lo ≤ ((z : Nat) : Int)) := of_decide_eq_false hg2
        refine Ds rfl rfl rfl rfl rfl ?_
        refine Ds rfl rfl rfl rfl rfl ?_
        refine Ds rfl rfl rfl rfl rfl ?_
        refine Ds rfl rfl rfl rfl rfl ?_
        refine Dv rfl rfl rfl (U_pick_f rfl rfl) rfl rfl ?_
        refine Dv rfl rfl rfl (U_assign rfl) rfl rfl ?_
        refine Dr.nil rfl ?_
        exact joinTo id ⟨eD rfl rfl, trivial⟩ trivial rfl rfl rfl rfl (fun _ _ => rfl)
    · rw [hg1]
      have hg1' : ¬ ((((((h : Nat) : Int) - b.fr) + ((H : Nat) : Int)) % ((H : Nat) : Int)) < b.wd) := of_decide_eq_false hg1
      refine Ds rfl rfl rfl rfl rfl ?_
      refine Ds rfl rfl rfl rfl rfl ?_
      refine Ds rfl rfl rfl rfl rfl ?_
      refine Ds rfl rfl rfl rfl rfl ?_
      refine Dv rfl rfl rfl (U_pick_f rfl rfl) rfl rfl ?_
      refine Dv rfl rfl rfl (U_move rfl) rfl rfl ?_
      refine Ds rfl rfl rfl rfl rfl ?_
      refine Ds rfl rfl rfl rfl rfl ?_
      refine Ds rfl rfl rfl rfl rfl ?_
      refine Ds rfl rfl rfl rfl rfl ?_
      refine Dv rfl rfl rfl (U_pick_f rfl rfl) rfl rfl ?_
      refine Dv rfl rfl rfl (U_assign rfl) rfl rfl ?_
      refine Dr.nil rfl ?_
      exact joinTo id ⟨eD rfl rfl, trivial⟩ trivial rfl rfl rfl rfl (fun _ _ => rfl)
  refine thenQ_n ?_
  refine W_ret rfl ?_
  exact retL (rlT rfl rl0) (by first | rfl | (simp only [packA]; congr 1; rw [Bool.eq_iff_iff]; simp only [inN, Bool.and_eq_true, decide_eq_true_eq]; simp; omega; first | done | rfl)) rfl
theorem inR_p (H Z : Nat) (ls : List (List Bx)) (c : Option Nat) (hv : VS ⟨H, Z, ls⟩ H Z) (a z h : Nat) (ha : a < ls.length) (hh : h < H) : Pure Try.prog 94 [.agg [i64 (H : Nat), i64 (Z : Nat), landsA ls c], i64 (a : Nat), i64 (h : Nat), i64 (z : Nat)] (.bool (inL' ls[a] H z h)) := by
  have hv' := hv
  obtain ⟨_, _, hH, hZ1, hln, hlb, hbx⟩ := hv'
  simp only at hln hlb hbx
  have hZ := hZ1.2
  have hHZ : Z * H ≤ 1152 := Nat.mul_le_mul hZ hH.2
  have hHZc : H * Z = Z * H := Nat.mul_comm _ _
  have hlba := hlb _ (List.getElem_mem ha)
  refine pure_of_body Try.func94 (c := body Try.f94) rfl (by simp [Try.ntmps94]) fun w0 Φ0 => ?_
  refine W_seq rfl ?_
  refine W_reg rfl ?_
  refine Rv rfl rfl rfl (U_boxF rfl rfl rfl) rfl rfl ?_
  refine Rv rfl rfl rfl (U_assign rfl) rfl rfl ?_
  refine Re rfl ?_
  refine thenQ_n ?_
  refine W_seq rfl ?_
  refine W_reg rfl ?_
  refine Rv rfl rfl rfl (U_fieldAddrR rfl) rfl rfl ?_
  refine Rv rfl rfl rfl (U_load1 rfl rfl rfl) rfl rfl ?_
  refine Rv rfl rfl rfl (U_move rfl) rfl rfl ?_
  have hx1 : a < ls.length := by omega
  refine Rv rfl rfl rfl (U_indexR (j := a) rfl rfl rfl hx1) rfl rfl ?_
  refine Rv rfl rfl rfl (U_load1 rfl rfl (getM hx1)) rfl rfl ?_
  refine Rv rfl rfl rfl (U_assign rfl) rfl rfl ?_
  refine Re rfl ?_
  refine thenQ_n ?_
  refine W_seq rfl ?_
  refine W_seq rfl ?_
  refine W_reg rfl ?_
  refine Rv rfl rfl rfl (U_assign rfl) rfl rfl ?_
  refine Re rfl ?_
  refine thenQ_n ?_
  refine W_block rfl ?_
  refine LoopTo (T' := [(2, i64 ((h : Nat) : Int)), (3, i64 ((z : Nat) : Int)), (4, .rop [i64 ((H : Nat) : Int), i64 ((Z : Nat) : Int), .ros (ls.map boxesL) ls.length c] 0), (9, .ros (ls[a].flatMap bxC) ls[a].length none), (10, i64 ((0 : Nat) : Int))]) (H' := []) (n := 0) rfl (fun mz_ qz_ => ∃ (k : Nat), k ≤ ls[a].length ∧ ((∀ j (hj : j < ls[a].length), j < k → inN ls[a][j] H z h = false)) ∧ mz_ = ls[a].length - k ∧ qz_ = ⟨[(2, i64 ((h : Nat) : Int)), (3, i64 ((z : Nat) : Int)), (4, .rop [i64 ((H : Nat) : Int), i64 ((Z : Nat) : Int), .ros (ls.map boxesL) ls.length c] 0), (9, .ros (ls[a].flatMap bxC) ls[a].length none), (10, i64 ((k : Nat) : Int))], [], 0, []⟩) ⟨0, (by omega), (fun j hj h => absurd h (Nat.not_lt_zero _)), rfl, rfl⟩ id ⟨eD rfl rfl, eD rfl rfl, eD rfl rfl, eD rfl rfl, eD rfl rfl, trivial⟩ trivial rfl rfl rfl rfl (fun _ _ => rfl) ?_
  rintro _ _ ⟨k, hi0_0, hi0_1, rfl, rfl⟩
  refine W_seq rfl ?_
  refine W_seq rfl ?_
  refine W_reg rfl ?_
  refine Rv rfl rfl rfl (U_move rfl) rfl rfl ?_
  refine Rv rfl rfl rfl (U_move rfl) rfl rfl ?_
  refine Rv rfl rfl rfl (U_lenOf rfl len_ros) rfl rfl ?_
  refine Rv rfl rfl rfl (U_lss rfl rfl) rfl rfl ?_
  refine Re rfl ?_
  refine thenQ_n ?_
  refine WcondP rfl rfl (fun hc0 => ?_) (fun hc0 => ?_)
  · have hck : k < ls[a].length := by omega
    have hbb := hbx _ (List.getElem_mem ha) _ (List.getElem_mem hck)
    refine W_skip rfl ?_
    refine thenQ_n ?_
    refine W_seq rfl ?_
    refine W_block rfl ?_
    refine W_seq rfl ?_
    refine Wdraw rfl (by kernel_rfl) (by kernel_rfl) ?_
    refine Dv rfl rfl rfl (U_move rfl) rfl rfl ?_
    refine Dv rfl rfl rfl (U_move rfl) rfl rfl ?_
    have hx2 : k < ls[a].length := by omega
    refine Dv rfl rfl rfl (U_indexR (j := k) rfl rfl rfl hx2) rfl rfl ?_
    refine Dv rfl rfl rfl (U_load4 rfl rfl (bxG0 hx2) (bxG1 hx2) (bxG2 hx2) (bxG3 hx2)) rfl rfl ?_
    refine Dv rfl rfl rfl (U_fieldAddrR rfl) rfl rfl ?_
    refine Dv rfl rfl rfl (U_load1 rfl rfl rfl) rfl rfl ?_
    refine Dv rfl rfl rfl (U_move rfl) rfl rfl ?_
    refine Dv rfl rfl rfl (U_move rfl) rfl rfl ?_
    refine Dv rfl rfl rfl (U_call rfl rfl (inBoxR_p (ls[a][k]) H z h (by omega) hbb.1 (by omega)) rfl) rfl rfl ?_
    refine Dr.nil rfl ?_
    refine thenQ_n ?_
    refine Wcond rfl rfl (fun hc1 => ?_) (fun hc1 => ?_)
    · refine W_seq rfl ?_
      refine W_reg rfl ?_
      refine Rv rfl rfl rfl (U_assign rfl) rfl rfl ?_
      refine Re rfl ?_
      refine thenQ_n ?_
      refine W_ret rfl ?_
      refine blkQ_r ?_
      refine thenQ_r ?_
      refine thenQ_r ?_
      refine blkQ_r ?_
      refine thenQ_r ?_
      exact retL (rlT rfl rl0) (by first | rfl | (simp only [packA]; rw [inL', show ls[a].any (fun b => inN b H z h) = true from any_true hck hc1]; simp [hh]; first | done | rfl) | (simp only [packA]; rw [inL', any_false fun j hj => hi0_1 j hj (by omega)]; simp; first | done | rfl)) rfl
    · have hc1' := Bool.eq_false_iff.1 hc1
      refine W_skip rfl ?_
      refine blkQ_n ?_
      refine thenQ_n ?_
      refine W_reg rfl ?_
      refine Rv rfl rfl rfl (U_move rfl) rfl rfl ?_
      refine Rv rfl rfl rfl (U_add rfl rfl (w64e (m := ((k + 1 : Nat) : Int)) (by omega) (by omega) (by omega))) rfl rfl ?_
      refine Rv rfl rfl rfl (U_assign rfl) rfl rfl ?_
      refine Re rfl ?_
      refine thenQ_n ?_
      exact againTo (T' := [(2, i64 ((h : Nat) : Int)), (3, i64 ((z : Nat) : Int)), (4, .rop [i64 ((H : Nat) : Int), i64 ((Z : Nat) : Int), .ros (ls.map boxesL) ls.length c] 0), (9, .ros (ls[a].flatMap bxC) ls[a].length none), (10, i64 (((k + 1) : Nat) : Int))]) (H' := []) (n := 0) (ls[a].length - (k + 1)) ⟨k + 1, (by omega), (by intro j hj h; rcases Nat.lt_succ_iff_lt_or_eq.1 h with h | rfl; exact hi0_1 j hj h; simpa using hc1), rfl, rfl⟩ (by omega) id ⟨eD rfl rfl, eD rfl rfl, eD rfl rfl, eD rfl rfl, eD rfl rfl, trivial⟩ trivial rfl rfl rfl rfl (fun _ _ => rfl)
  · refine W_exit rfl ?_
    refine thenQ_x ?_
    refine thenQ_x ?_
    refine blkQ_x rfl ?_
    refine thenQ_n ?_
    refine W_seq rfl ?_
    refine W_reg rfl ?_
    refine Rv rfl rfl rfl (U_assign rfl) rfl rfl ?_
    refine Re rfl ?_
    refine thenQ_n ?_
    refine W_ret rfl ?_
    exact retL (rlT rfl rl0) (by first | rfl | (simp only [packA]; rw [inL', show ls[a].any (fun b => inN b H z h) = true from any_true hck hc1]; simp [hh]; first | done | rfl) | (simp only [packA]; rw [inL', any_false fun j hj => hi0_1 j hj (by omega)]; simp; first | done | rfl)) rfl
abbrev fldA (l : List Nat) (n : Nat) : AV := .ros (l.map n64) n (some n)
def fldK (Z H : Nat) (l : List Bx) (m : Nat) : List Nat := (List.range (Z * H)).map fun i => if i < m then bitQ l H (i / H) (i % H) else 0
theorem fldK_len {Z H m : Nat} {l : List Bx} : (fldK Z H l m).length = Z * H := by simp [fldK]
theorem fldK_0 {Z H : Nat} {l : List Bx} : fldK Z H l 0 = List.replicate (H * Z) 0 := by
  apply List.ext_getElem (by simp [fldK, Nat.mul_comm])
  intro i h1 h2
  simp [fldK]
theorem fldK_all {Z H m : Nat} {l : List Bx} (h : Z * H ≤ m) : fldK Z H l m = fldQ Z H l := by
  refine List.map_congr_left fun i hi => ?_
  rw [if_pos (by have := List.mem_range.1 hi; omega)]
theorem zh_lt {Z H z h : Nat} (hz : z < Z) (hh : h < H) : z * H + h < Z * H := by
  have := Nat.mul_le_mul_right H (show z + 1 ≤ Z by omega)
  rw [Nat.add_mul] at this; omega
theorem fldK_t {Z H z h : Nat} {l : List Bx} (hz : z < Z) (hh : h < H) (e : inL' l H z h = true) : (fldK Z H l (z * H + h)).set (z * H + h) 1 = fldK Z H l (z * H + (h + 1)) := by
  apply List.ext_getElem (by simp [fldK])
  intro i h1 h2
  rw [List.getElem_set]
  have hd := zh_div (z := z) hh
  simp only [fldK, List.getElem_map, List.getElem_range]
  by_cases hi : z * H + h = i
  · subst hi; rw [if_pos rfl, if_pos (by omega), hd.1, hd.2, bitQ, if_pos e]
  · rw [if_neg hi]
    by_cases h3 : i < z * H + h
    · rw [if_pos h3, if_pos (by omega)]
    · rw [if_neg h3, if_neg (by omega)]
theorem fldK_f {Z H z h : Nat} {l : List Bx} (hz : z < Z) (hh : h < H) (e : ¬ inL' l H z h = true) : fldK Z H l (z * H + h) = fldK Z H l (z * H + (h + 1)) := by
  refine List.map_congr_left fun i hi => ?_
  have hd := zh_div (z := z) hh
  by_cases hi : z * H + h = i
  · subst hi; rw [if_neg (by omega), if_pos (by omega), hd.1, hd.2, bitQ, if_neg e]
  · by_cases h3 : i < z * H + h
    · rw [if_pos h3, if_pos (by omega)]
    · rw [if_neg h3, if_neg (by omega)]
theorem field_p (H Z : Nat) (ls : List (List Bx)) (c : Option Nat) (hv : VS ⟨H, Z, ls⟩ H Z) (a : Nat) (ha : a < ls.length) : Pure Try.prog 53 [.agg [i64 (H : Nat), i64 (Z : Nat), landsA ls c], i64 (a : Nat)] (fldA (fldQ Z H ls[a]) (H * Z)) := by
  have hv' := hv
  obtain ⟨_, _, hH, hZ1, hln, hlb, hbx⟩ := hv'
  simp only at hln hlb hbx
  have hZ := hZ1.2
  have hHZ : Z * H ≤ 1152 := Nat.mul_le_mul hZ hH.2
  have hHZc : H * Z = Z * H := Nat.mul_comm _ _
  refine pure_of_body Try.func53 (c := body Try.f53) rfl (by simp [Try.ntmps53]) fun w0 Φ0 => ?_
  refine W_seq rfl ?_
  refine W_reg rfl ?_
  refine Rv rfl rfl rfl (U_boxF rfl rfl rfl) rfl rfl ?_
  refine Rv rfl rfl rfl (U_assign rfl) rfl rfl ?_
  refine Re rfl ?_
  refine thenQ_n ?_
  refine W_seq rfl ?_
  refine W_reg rfl ?_
  refine Rv rfl rfl rfl (U_fieldAddrR rfl) rfl rfl ?_
  refine Rv rfl rfl rfl (U_load1 rfl rfl rfl) rfl rfl ?_
  refine Rv rfl rfl rfl (U_fieldAddrR rfl) rfl rfl ?_
  refine Rv rfl rfl rfl (U_load1 rfl rfl rfl) rfl rfl ?_
  refine Rv rfl rfl rfl (U_mul rfl rfl (w64e (m := ((H * Z : Nat) : Int)) (by omega) (by omega) (by omega))) rfl rfl ?_
  refine Ra rfl rfl rfl (U_mkL (n := H * Z) (cs' := (List.replicate (H * Z) (0 : Nat)).map n64) rfl rfl rfl (by omega) (replM rfl _)) rfl rfl rfl ?_
  refine Rv rfl rfl rfl (U_assign rfl) rfl rfl ?_
  refine Re rfl ?_
  refine thenQ_n ?_
  refine W_seq rfl ?_
  refine W_seq rfl ?_
  refine W_reg rfl ?_
  refine Rv rfl rfl rfl (U_assign rfl) rfl rfl ?_
  refine Re rfl ?_
  refine thenQ_n ?_
  refine W_block rfl ?_
  refine LoopTo (T' := [(1, i64 ((a : Nat) : Int)), (2, .rop [i64 ((H : Nat) : Int), i64 ((Z : Nat) : Int), .ros (ls.map boxesL) ls.length c] 0), (5, .slice 0 0 (H * Z) (H * Z)), (6, i64 ((0 : Nat) : Int))]) (H' := [(0, some (.cells ((List.replicate (H * Z) 0).map n64) 3))]) (n := 1) rfl (fun mz_ qz_ => ∃ (z : Nat) (f : List Nat), z ≤ Z ∧ f = fldK Z H ls[a] (z * H) ∧ mz_ = Z - z ∧ qz_ = ⟨[(1, i64 ((a : Nat) : Int)), (2, .rop [i64 ((H : Nat) : Int), i64 ((Z : Nat) : Int), .ros (ls.map boxesL) ls.length c] 0), (5, .slice 0 0 (H * Z) (H * Z)), (6, i64 ((z : Nat) : Int))], [(0, some (.cells (f.map n64) 3))], 1, []⟩) ⟨0, List.replicate (H * Z) 0, (by omega), (by rw [Nat.zero_mul, fldK_0]), rfl, rfl⟩ id ⟨eD rfl rfl, eD rfl rfl, e_ rfl rfl, eD rfl rfl, trivial⟩ ⟨rD (mapD (fun _ => rfl) _) rfl rfl, trivial⟩ rfl rfl rfl rfl (fun _ _ => rfl) ?_
  rintro _ _ ⟨z, f, hi0_0, hi0_1, rfl, rfl⟩
  refine W_seq rfl ?_
  refine W_seq rfl ?_
  refine W_reg rfl ?_
  refine Rv rfl rfl rfl (U_move rfl) rfl rfl ?_
  refine Rv rfl rfl rfl (U_fieldAddrR rfl) rfl rfl ?_
  refine Rv rfl rfl rfl (U_load1 rfl rfl rfl) rfl rfl ?_
  refine Rv rfl rfl rfl (U_lss rfl rfl) rfl rfl ?_
  refine Re rfl ?_
  refine thenQ_n ?_
  refine WcondP rfl rfl (fun hc0 => ?_) (fun hc0 => ?_)
  · have hcz : z < Z := by omega
    refine W_skip rfl ?_
    refine thenQ_n ?_
    refine W_seq rfl ?_
    refine W_block rfl ?_
    refine W_seq rfl ?_
    refine W_reg rfl ?_
    refine Rv rfl rfl rfl (U_assign rfl) rfl rfl ?_
    refine Re rfl ?_
    refine thenQ_n ?_
    refine W_block rfl ?_
    refine LoopTo (T' := [(1, i64 ((a : Nat) : Int)), (2, .rop [i64 ((H : Nat) : Int), i64 ((Z : Nat) : Int), .ros (ls.map boxesL) ls.length c] 0), (5, .slice 0 0 (H * Z) (H * Z)), (6, i64 ((z : Nat) : Int)), (7, i64 ((0 : Nat) : Int))]) (H' := [(0, some (.cells (f.map n64) 3))]) (n := 1) rfl (fun mz_ qz_ => ∃ (h : Nat) (f2 : List Nat), h ≤ H ∧ f2 = fldK Z H ls[a] (z * H + h) ∧ mz_ = H - h ∧ qz_ = ⟨[(1, i64 ((a : Nat) : Int)), (2, .rop [i64 ((H : Nat) : Int), i64 ((Z : Nat) : Int), .ros (ls.map boxesL) ls.length c] 0), (5, .slice 0 0 (H * Z) (H * Z)), (6, i64 ((z : Nat) : Int)), (7, i64 ((h : Nat) : Int))], [(0, some (.cells (f2.map n64) 3))], 1, []⟩) ⟨0, f, (by omega), (by rw [hi0_1]; rfl), rfl, rfl⟩ id ⟨eD rfl rfl, eD rfl rfl, e_ rfl rfl, eD rfl rfl, eD rfl rfl, trivial⟩ ⟨rD (mapD (fun _ => rfl) _) rfl rfl, trivial⟩ rfl rfl rfl rfl (fun _ _ => rfl) ?_
    rintro _ _ ⟨h, f2, hi1_0, hi1_1, rfl, rfl⟩
    have hfl : f2.length = Z * H := by rw [hi1_1, fldK_len]
    refine W_seq rfl ?_
    refine W_seq rfl ?_
    refine W_reg rfl ?_
    refine Rv rfl rfl rfl (U_move rfl) rfl rfl ?_
    refine Rv rfl rfl rfl (U_fieldAddrR rfl) rfl rfl ?_
    refine Rv rfl rfl rfl (U_load1 rfl rfl rfl) rfl rfl ?_
    refine Rv rfl rfl rfl (U_lss rfl rfl) rfl rfl ?_
    refine Re rfl ?_
    refine thenQ_n ?_
    refine WcondP rfl rfl (fun hc1 => ?_) (fun hc1 => ?_)
    · have hch : h < H := by omega
      have hzh := zh_lt hcz hch
      refine W_skip rfl ?_
      refine thenQ_n ?_
      refine W_seq rfl ?_
      refine W_block rfl ?_
      refine W_seq rfl ?_
      refine W_reg rfl ?_
      refine Rv rfl rfl rfl (U_load3 rfl rfl rfl rfl rfl) rfl rfl ?_
      refine Rv rfl rfl rfl (U_move rfl) rfl rfl ?_
      refine Rv rfl rfl rfl (U_move rfl) rfl rfl ?_
      refine Rv rfl rfl rfl (U_move rfl) rfl rfl ?_
      refine Rv rfl rfl rfl (U_call rfl rfl (inR_p H Z ls c hv a z h (by omega) (by omega)) rfl) rfl rfl ?_
      refine Re rfl ?_
      refine thenQ_n ?_
      refine Wcond rfl rfl (fun hc2 => ?_) (fun hc2 => ?_)
      · refine W_reg rfl ?_
        refine Rv rfl rfl rfl (U_move rfl) rfl rfl ?_
        refine Rv rfl rfl rfl (U_move rfl) rfl rfl ?_
        refine Rv rfl rfl rfl (U_fieldAddrR rfl) rfl rfl ?_
        refine Rv rfl rfl rfl (U_load1 rfl rfl rfl) rfl rfl ?_
        refine Rv rfl rfl rfl (U_mul rfl rfl (w64e (m := ((z * H : Nat) : Int)) (by omega) (by omega) (by omega))) rfl rfl ?_
        refine Rv rfl rfl rfl (U_move rfl) rfl rfl ?_
        refine Rv rfl rfl rfl (U_add rfl rfl (w64e (m := ((z * H + h : Nat) : Int)) (by omega) (by omega) (by omega))) rfl rfl ?_
        have hx1 : (z * H + h) < f2.length := by omega
        refine Rv rfl rfl rfl (U_indexS (j := (z * H + h)) rfl rfl rfl (by omega)) rfl rfl ?_
        refine Rn rfl rfl rfl (U_store (n := 1) (cs' := (f2.set (z * H + h) 1).map n64) rfl rfl rfl rfl rfl (stLt hx1) rfl setM) rfl ?_
        refine Re rfl ?_
        refine blkQ_n ?_
        refine thenQ_n ?_
        refine W_reg rfl ?_
        refine Rv rfl rfl rfl (U_move rfl) rfl rfl ?_
        refine Rv rfl rfl rfl (U_add rfl rfl (w64e (m := ((h + 1 : Nat) : Int)) (by omega) (by omega) (by omega))) rfl rfl ?_
        refine Rv rfl rfl rfl (U_assign rfl) rfl rfl ?_
        refine Re rfl ?_
        refine thenQ_n ?_
        exact againTo (T' := [(1, i64 ((a : Nat) : Int)), (2, .rop [i64 ((H : Nat) : Int), i64 ((Z : Nat) : Int), .ros (ls.map boxesL) ls.length c] 0), (5, .slice 0 0 (H * Z) (H * Z)), (6, i64 ((z : Nat) : Int)), (7, i64 (((h + 1) : Nat) : Int))]) (H' := [(0, some (.cells ((f2.set (z * H + h) 1).map n64) 3))]) (n := 1) (H - (h + 1)) ⟨h + 1, f2.set (z * H + h) 1, (by omega), (by first | (rw [hi1_1]; exact fldK_t (by omega) (by omega) hc2) | (rw [hi1_1]; exact fldK_f (by omega) (by omega) (by simpa using hc2))), rfl, rfl⟩ (by omega) id ⟨eD rfl rfl, eD rfl rfl, e_ rfl rfl, eD rfl rfl, eD rfl rfl, trivial⟩ ⟨rD (mapD (fun _ => rfl) _) rfl rfl, trivial⟩ rfl rfl rfl rfl (fun _ _ => rfl)
      · have hc2' := Bool.eq_false_iff.1 hc2
        refine W_skip rfl ?_
        refine blkQ_n ?_
        refine thenQ_n ?_
        refine W_reg rfl ?_
        refine Rv rfl rfl rfl (U_move rfl) rfl rfl ?_
        refine Rv rfl rfl rfl (U_add rfl rfl (w64e (m := ((h + 1 : Nat) : Int)) (by omega) (by omega) (by omega))) rfl rfl ?_
        refine Rv rfl rfl rfl (U_assign rfl) rfl rfl ?_
        refine Re rfl ?_
        refine thenQ_n ?_
        exact againTo (T' := [(1, i64 ((a : Nat) : Int)), (2, .rop [i64 ((H : Nat) : Int), i64 ((Z : Nat) : Int), .ros (ls.map boxesL) ls.length c] 0), (5, .slice 0 0 (H * Z) (H * Z)), (6, i64 ((z : Nat) : Int)), (7, i64 (((h + 1) : Nat) : Int))]) (H' := [(0, some (.cells (f2.map n64) 3))]) (n := 1) (H - (h + 1)) ⟨h + 1, f2, (by omega), (by first | (rw [hi1_1]; exact fldK_t (by omega) (by omega) hc2) | (rw [hi1_1]; exact fldK_f (by omega) (by omega) (by simpa using hc2))), rfl, rfl⟩ (by omega) id ⟨eD rfl rfl, eD rfl rfl, e_ rfl rfl, eD rfl rfl, eD rfl rfl, trivial⟩ ⟨rD (mapD (fun _ => rfl) _) rfl rfl, trivial⟩ rfl rfl rfl rfl (fun _ _ => rfl)
    · refine W_exit rfl ?_
      refine thenQ_x ?_
      refine thenQ_x ?_
      refine blkQ_x rfl ?_
      refine blkQ_n ?_
      refine thenQ_n ?_
      refine W_reg rfl ?_
      refine Rv rfl rfl rfl (U_move rfl) rfl rfl ?_
      refine Rv rfl rfl rfl (U_add rfl rfl (w64e (m := ((z + 1 : Nat) : Int)) (by omega) (by omega) (by omega))) rfl rfl ?_
      refine Rv rfl rfl rfl (U_assign rfl) rfl rfl ?_
      refine Re rfl ?_
      refine thenQ_n ?_
      exact againTo (T' := [(1, i64 ((a : Nat) : Int)), (2, .rop [i64 ((H : Nat) : Int), i64 ((Z : Nat) : Int), .ros (ls.map boxesL) ls.length c] 0), (5, .slice 0 0 (H * Z) (H * Z)), (6, i64 (((z + 1) : Nat) : Int))]) (H' := [(0, some (.cells (f2.map n64) 3))]) (n := 1) (Z - (z + 1)) ⟨z + 1, f2, (by omega), (by rw [hi1_1, show h = H by omega, Nat.succ_mul]), rfl, rfl⟩ (by omega) id ⟨eD rfl rfl, eD rfl rfl, e_ rfl rfl, eD rfl rfl, trivial⟩ ⟨rD (mapD (fun _ => rfl) _) rfl rfl, trivial⟩ rfl rfl rfl rfl (fun _ _ => rfl)
  · refine W_exit rfl ?_
    refine thenQ_x ?_
    refine thenQ_x ?_
    refine blkQ_x rfl ?_
    refine thenQ_n ?_
    refine W_seq rfl ?_
    refine W_reg rfl ?_
    refine Rv rfl rfl rfl (U_move rfl) rfl rfl ?_
    refine Rv rfl rfl rfl (U_assign rfl) rfl rfl ?_
    refine Re rfl ?_
    refine thenQ_n ?_
    refine WfrN 0 rfl (mapD (fun _ => rfl) _) (T' := [(4, .ros (f.map n64) (H * Z) (some (H * Z)))]) (H' := []) ⟨⟨_, rfl, fr_sl (Nat.le_refl _)⟩, trivial⟩ trivial ?_
    refine W_ret rfl ?_
    exact retL (rlT rfl rl0) (by first | rfl | (simp only [packA]; rw [hi0_1, fldK_all (by rw [show z = Z by omega]; exact Nat.le_refl _)]; first | done | rfl)) rfl
end Go.Proofs.Ythlolelbmhfdbaa
end

section
namespace Go.Proofs.Ythlolelbmhfdbaa
set_option maxRecDepth 20000
open Go.AE
def bsN (Z H i : Nat) : List Nat := (bsP Z H (i / H) (i % H)).map fun p => p.1 * H + p.2
theorem bsN_eq {Z H i : Nat} : bsN Z H i = (if 1 < H then [i / H * H + (i % H + 1) % H] else []) ++ (if 2 < H then [i / H * H + (i % H + H - 1) % H] else []) ++ (if 0 < i / H then [i - H] else []) ++ (if i / H + 1 < Z then [i + H] else []) := by
  have hd := Nat.div_add_mod i H
  rw [Nat.mul_comm] at hd
  have e1 : 0 < i / H → (i / H - 1) * H + i % H = i - H := fun h => by
    obtain ⟨m, hm⟩ : ∃ m, i / H = m + 1 := ⟨i / H - 1, by omega⟩
    rw [hm] at hd ⊢
    rw [Nat.succ_mul] at hd
    rw [Nat.add_sub_cancel]; omega
  have e2 : (i / H + 1) * H + i % H = i + H := by rw [Nat.succ_mul]; omega
  unfold bsN bsP
  simp only [List.map_append]
  congr 1
  · congr 1
    · congr 1 <;> (split <;> simp)
    · split
      · rename_i h; simp [e1 h]
      · simp
  · split
    · simp [e2]
    · simp
theorem bsN_lt {Z H i : Nat} (hi : i < Z * H) : ∀ j ∈ bsN Z H i, j < Z * H := by
  intro j hj
  obtain ⟨p, hp, rfl⟩ := List.mem_map.1 hj
  have hH : 0 < H := by rcases Nat.eq_zero_or_pos H with e | e; subst e; omega; exact e
  have := bsP_in (Nat.div_lt_of_lt_mul (by rw [Nat.mul_comm]; exact hi)) (Nat.mod_lt i hH) p hp
  exact zh_lt this.1 this.2
theorem bsN_len {Z H i : Nat} : (bsN Z H i).length ≤ 4 := by rw [bsN, List.length_map]; exact bsP_len
theorem besideR_p (H Z : Nat) (ls : List (List Bx)) (c : Option Nat) (hv : VS ⟨H, Z, ls⟩ H Z) (i : Nat) (hi : i < Z * H) : Pure Try.prog 79 [.agg [i64 (H : Nat), i64 (Z : Nat), landsA ls c], i64 (i : Nat)] (natsA (bsN Z H i) none) := by
  have hv' := hv
  obtain ⟨_, _, hH, hZ1, hln, hlb, hbx⟩ := hv'
  simp only at hln hlb hbx
  have hZ := hZ1.2
  have hHZ : Z * H ≤ 1152 := Nat.mul_le_mul hZ hH.2
  have hHZc : H * Z = Z * H := Nat.mul_comm _ _
  have hdm := Nat.div_add_mod i H
  have hdv : i / H < Z := Nat.div_lt_of_lt_mul (by rw [Nat.mul_comm]; exact hi)
  have hmd : i % H < H := Nat.mod_lt _ (by omega)
  rw [Nat.mul_comm] at hdm
  obtain ⟨z, hzq⟩ : ∃ z, i / H = z := ⟨_, rfl⟩
  obtain ⟨h, hhq⟩ : ∃ h, i % H = h := ⟨_, rfl⟩
  rw [hzq, hhq] at hdm
  rw [hzq] at hdv
  rw [hhq] at hmd
  have hm1 : (h + 1) % H < H := Nat.mod_lt _ (by omega)
  have hm2 : (h + H - 1) % H < H := Nat.mod_lt _ (by omega)
  have hz1 : 0 < z → H ≤ z * H := fun h0 => Nat.le_mul_of_pos_left H h0
  have hzc : H * z = z * H := Nat.mul_comm _ _
  refine pure_of_body Try.func79 (c := body Try.f79) rfl (by simp [Try.ntmps79]) fun w0 Φ0 => ?_
  refine W_seq rfl ?_
  refine W_reg rfl ?_
  refine Rv rfl rfl rfl (U_boxF rfl rfl rfl) rfl rfl ?_
  refine Rv rfl rfl rfl (U_assign rfl) rfl rfl ?_
  refine Re rfl ?_
  refine thenQ_n ?_
  refine W_seq rfl ?_
  refine Wdraw rfl (by kernel_rfl) (by kernel_rfl) ?_
  refine Dv rfl rfl rfl (U_move rfl) rfl rfl ?_
  refine Dv rfl rfl rfl (U_fieldAddrR rfl) rfl rfl ?_
  refine Dv rfl rfl rfl (U_load1 rfl rfl rfl) rfl rfl ?_
  refine Dv rfl rfl rfl (U_rem (c := ((h : Nat) : Int)) rfl rfl (by omega) (by rw [← hhq]; exact tmodN _ _)) rfl rfl ?_
  refine Dv rfl rfl rfl (U_move rfl) rfl rfl ?_
  refine Dv rfl rfl rfl (U_fieldAddrR rfl) rfl rfl ?_
  refine Dv rfl rfl rfl (U_load1 rfl rfl rfl) rfl rfl ?_
  refine Dv rfl rfl rfl (U_quo (c := ((z : Nat) : Int)) rfl rfl (by omega) (by rw [← hzq]; exact wquoN (by omega))) rfl rfl ?_
  refine Dv rfl rfl rfl (U_assign rfl) rfl rfl ?_
  refine Dv rfl rfl rfl (U_assign rfl) rfl rfl ?_
  refine Dr.nil rfl ?_
  refine thenQ_n ?_
  refine W_seq rfl ?_
  refine W_reg rfl ?_
  refine Rv rfl rfl rfl (U_assign rfl) rfl rfl ?_
  refine Re rfl ?_
  refine thenQ_n ?_
  refine W_seq rfl ?_
  refine W_seq rfl ?_
  refine W_reg rfl ?_
  refine Rv rfl rfl rfl (U_fieldAddrR rfl) rfl rfl ?_
  refine Rv rfl rfl rfl (U_load1 rfl rfl rfl) rfl rfl ?_
  refine Rv rfl rfl rfl (U_gtr rfl rfl) rfl rfl ?_
  refine Re rfl ?_
  refine thenQ_n ?_
  refine WcondP rfl rfl (fun hc0 => ?_) (fun hc0 => ?_)
  · refine Wdraw rfl (by kernel_rfl) (by kernel_rfl) ?_
    refine Dv rfl rfl rfl (U_move rfl) rfl rfl ?_
    refine Dv rfl rfl rfl (U_move rfl) rfl rfl ?_
    refine Dv rfl rfl rfl (U_fieldAddrR rfl) rfl rfl ?_
    refine Dv rfl rfl rfl (U_load1 rfl rfl rfl) rfl rfl ?_
    refine Dv rfl rfl rfl (U_mul rfl rfl (w64e (m := ((z * H : Nat) : Int)) (by omega) (by omega) (by omega))) rfl rfl ?_
    refine Dv rfl rfl rfl (U_move rfl) rfl rfl ?_
    refine Dv rfl rfl rfl (U_add rfl rfl (w64e (m := ((h + 1 : Nat) : Int)) (by omega) (by omega) (by omega))) rfl rfl ?_
    refine Dv rfl rfl rfl (U_fieldAddrR rfl) rfl rfl ?_
    refine Dv rfl rfl rfl (U_load1 rfl rfl rfl) rfl rfl ?_
    refine Dv rfl rfl rfl (U_rem (c := (((h + 1) % H : Nat) : Int)) rfl rfl (by omega) (tmodN _ _)) rfl rfl ?_
    refine Dv rfl rfl rfl (U_add rfl rfl (w64e (m := ((z * H + (h + 1) % H : Nat) : Int)) (by omega) (by omega) (by omega))) rfl rfl ?_
    refine Dv rfl rfl rfl (U_buildSliceF (by rfl) (by decide) rfl rfl rfl) rfl rfl ?_
    refine Da rfl rfl rfl (U_appN (m := 0) (cs' := [z * H + (h + 1) % H].map n64) (n' := [z * H + (h + 1) % H].length) rfl rfl rfl (by omega) rfl rfl) rfl rfl rfl rfl ?_
    refine Dv rfl rfl rfl (U_assign rfl) rfl rfl ?_
    refine Dr.nil rfl ?_
    refine thenQ_n ?_
    refine W_seq rfl ?_
    refine W_seq rfl ?_
    refine W_reg rfl ?_
    refine Rv rfl rfl rfl (U_fieldAddrR rfl) rfl rfl ?_
    refine Rv rfl rfl rfl (U_load1 rfl rfl rfl) rfl rfl ?_
    refine Rv rfl rfl rfl (U_gtr rfl rfl) rfl rfl ?_
    refine Re rfl ?_
    refine thenQ_n ?_
    refine WcondP rfl rfl (fun hc1 => ?_) (fun hc1 => ?_)
    · refine Wjoin ⟨[(1, i64 ((i : Nat) : Int)), (2, .rop [i64 ((H : Nat) : Int), i64 ((Z : Nat) : Int), .ros (ls.map boxesL) ls.length c] 0), (6, i64 ((z : Nat) : Int)), (7, .out 1 (([z * H + (h + 1) % H] ++ [z * H + (h + H - 1) % H]).length) 1)], [(1, outB (([z * H + (h + 1) % H] ++ [z * H + (h + H - 1) % H]).map n64) 3 (([z * H + (h + 1) % H] ++ [z * H + (h + H - 1) % H]).length))], 2, []⟩ ?_ ?_
      · rcases Nat.eq_zero_or_pos [z * H + (h + 1) % H].length with hz1 | hz1
        · refine Wdraw rfl (by kernel_rfl) (by kernel_rfl) ?_
          refine Dv rfl rfl rfl (U_move rfl) rfl rfl ?_
          refine Dv rfl rfl rfl (U_move rfl) rfl rfl ?_
          refine Dv rfl rfl rfl (U_fieldAddrR rfl) rfl rfl ?_
          refine Dv rfl rfl rfl (U_load1 rfl rfl rfl) rfl rfl ?_
          refine Dv rfl rfl rfl (U_mul rfl rfl (w64e (m := ((z * H : Nat) : Int)) (by omega) (by omega) (by omega))) rfl rfl ?_
          refine Dv rfl rfl rfl (U_move rfl) rfl rfl ?_
          refine Dv rfl rfl rfl (U_fieldAddrR rfl) rfl rfl ?_
          refine Dv rfl rfl rfl (U_load1 rfl rfl rfl) rfl rfl ?_
          refine Dv rfl rfl rfl (U_add rfl rfl (w64e (m := ((h + H : Nat) : Int)) (by omega) (by omega) (by omega))) rfl rfl ?_
          refine Dv rfl rfl rfl (U_sub rfl rfl (w64e (m := ((h + H - 1 : Nat) : Int)) (by omega) (by omega) (by omega))) rfl rfl ?_
          refine Dv rfl rfl rfl (U_fieldAddrR rfl) rfl rfl ?_
          refine Dv rfl rfl rfl (U_load1 rfl rfl rfl) rfl rfl ?_
          refine Dv rfl rfl rfl (U_rem (c := (((h + H - 1) % H : Nat) : Int)) rfl rfl (by omega) (tmodN _ _)) rfl rfl ?_
          refine Dv rfl rfl rfl (U_add rfl rfl (w64e (m := ((z * H + (h + H - 1) % H : Nat) : Int)) (by omega) (by omega) (by omega))) rfl rfl ?_
          refine Dv rfl rfl rfl (U_buildSliceF (by rfl) (by decide) rfl rfl rfl) rfl rfl ?_
          refine Da rfl rfl rfl (U_appO0 (b := 0) (cs := ([z * H + (h + 1) % H].map n64)) (m := 0) (cs' := ([z * H + (h + 1) % H] ++ [z * H + (h + H - 1) % H]).map n64) (n' := ([z * H + (h + 1) % H] ++ [z * H + (h + H - 1) % H]).length) rfl hz1 rfl (by simp) (map_len1 _) rfl (by simp) (appM _ _) (len1 _ _)) rfl rfl rfl rfl ?_
          refine Dv rfl rfl rfl (U_assign rfl) rfl rfl ?_
          refine Dr.nil rfl ?_
          exact joinTo id ⟨eD rfl rfl, eD rfl rfl, eD rfl rfl, e_ rfl rfl, trivial⟩ ⟨rO (mapD (fun _ => rfl) _) rfl rfl, trivial⟩ rfl rfl rfl rfl (fun _ _ => rfl)
        · refine Wdraw rfl (by kernel_rfl) (by kernel_rfl) ?_
          refine Dv rfl rfl rfl (U_move rfl) rfl rfl ?_
          refine Dv rfl rfl rfl (U_move rfl) rfl rfl ?_
          refine Dv rfl rfl rfl (U_fieldAddrR rfl) rfl rfl ?_
          refine Dv rfl rfl rfl (U_load1 rfl rfl rfl) rfl rfl ?_
          refine Dv rfl rfl rfl (U_mul rfl rfl (w64e (m := ((z * H : Nat) : Int)) (by omega) (by omega) (by omega))) rfl rfl ?_
          refine Dv rfl rfl rfl (U_move rfl) rfl rfl ?_
          refine Dv rfl rfl rfl (U_fieldAddrR rfl) rfl rfl ?_
          refine Dv rfl rfl rfl (U_load1 rfl rfl rfl) rfl rfl ?_
          refine Dv rfl rfl rfl (U_add rfl rfl (w64e (m := ((h + H : Nat) : Int)) (by omega) (by omega) (by omega))) rfl rfl ?_
          refine Dv rfl rfl rfl (U_sub rfl rfl (w64e (m := ((h + H - 1 : Nat) : Int)) (by omega) (by omega) (by omega))) rfl rfl ?_
          refine Dv rfl rfl rfl (U_fieldAddrR rfl) rfl rfl ?_
          refine Dv rfl rfl rfl (U_load1 rfl rfl rfl) rfl rfl ?_
          refine Dv rfl rfl rfl (U_rem (c := (((h + H - 1) % H : Nat) : Int)) rfl rfl (by omega) (tmodN _ _)) rfl rfl ?_
          refine Dv rfl rfl rfl (U_add rfl rfl (w64e (m := ((z * H + (h + H - 1) % H : Nat) : Int)) (by omega) (by omega) (by omega))) rfl rfl ?_
          refine Dv rfl rfl rfl (U_buildSliceF (by rfl) (by decide) rfl rfl rfl) rfl rfl ?_
          refine Da rfl rfl rfl (U_appO (b := 0) (m := 0) (cs' := ([z * H + (h + 1) % H] ++ [z * H + (h + H - 1) % H]).map n64) (n' := ([z * H + (h + 1) % H] ++ [z * H + (h + H - 1) % H]).length) rfl rfl (by simp) rfl (map_len1 _) rfl rfl (by simp) (appM _ _) (len1 _ _)) rfl rfl rfl (upsO rfl hz1) ?_
          refine Dv rfl rfl rfl (U_assign rfl) rfl rfl ?_
          refine Dr.nil rfl ?_
          exact joinTo id ⟨eD rfl rfl, eD rfl rfl, eD rfl rfl, e_ rfl rfl, trivial⟩ ⟨rO (mapD (fun _ => rfl) _) rfl rfl, trivial⟩ rfl rfl rfl rfl (fun _ _ => rfl)
      refine thenQ_n ?_
      refine W_seq rfl ?_
      refine W_seq rfl ?_
      refine W_reg rfl ?_
      refine Rv rfl rfl rfl (U_move rfl) rfl rfl ?_
      refine Rv rfl rfl rfl (U_gtr rfl rfl) rfl rfl ?_
      refine Re rfl ?_
      refine thenQ_n ?_
      refine WcondP rfl rfl (fun hc2 => ?_) (fun hc2 => ?_)
      · refine W_reg rfl ?_
        refine Rv rfl rfl rfl (U_move rfl) rfl rfl ?_
        refine Rv rfl rfl rfl (U_move rfl) rfl rfl ?_
        refine Rv rfl rfl rfl (U_fieldAddrR rfl) rfl rfl ?_
        refine Rv rfl rfl rfl (U_load1 rfl rfl rfl) rfl rfl ?_
        refine Rv rfl rfl rfl (U_sub rfl rfl (w64e (m := ((i - H : Nat) : Int)) (by omega) (by omega) (by omega))) rfl rfl ?_
        refine Rv rfl rfl rfl (U_buildSliceF (by rfl) (by decide) rfl rfl rfl) rfl rfl ?_
        refine Ra rfl rfl rfl (U_appO (b := 1) (m := 0) (cs' := (([z * H + (h + 1) % H] ++ [z * H + (h + H - 1) % H]) ++ [i - H]).map n64) (n' := (([z * H + (h + 1) % H] ++ [z * H + (h + H - 1) % H]) ++ [i - H]).length) rfl rfl (by simp) rfl (map_len1 _) rfl rfl (by simp) (appM _ _) (len1 _ _)) rfl rfl rfl ?_
        refine Rv rfl rfl rfl (U_assign rfl) rfl rfl ?_
        refine Re rfl ?_
        refine thenQ_n ?_
        refine W_seq rfl ?_
        refine W_seq rfl ?_
        refine W_reg rfl ?_
        refine Rv rfl rfl rfl (U_move rfl) rfl rfl ?_
        refine Rv rfl rfl rfl (U_add rfl rfl (w64e (m := ((z + 1 : Nat) : Int)) (by omega) (by omega) (by omega))) rfl rfl ?_
        refine Rv rfl rfl rfl (U_fieldAddrR rfl) rfl rfl ?_
        refine Rv rfl rfl rfl (U_load1 rfl rfl rfl) rfl rfl ?_
        refine Rv rfl rfl rfl (U_lss rfl rfl) rfl rfl ?_
        refine Re rfl ?_
        refine thenQ_n ?_
        refine WcondP rfl rfl (fun hc3 => ?_) (fun hc3 => ?_)
        · refine W_reg rfl ?_
          refine Rv rfl rfl rfl (U_move rfl) rfl rfl ?_
          refine Rv rfl rfl rfl (U_move rfl) rfl rfl ?_
          refine Rv rfl rfl rfl (U_fieldAddrR rfl) rfl rfl ?_
          refine Rv rfl rfl rfl (U_load1 rfl rfl rfl) rfl rfl ?_
          refine Rv rfl rfl rfl (U_add rfl rfl (w64e (m := ((i + H : Nat) : Int)) (by omega) (by omega) (by omega))) rfl rfl ?_
          refine Rv rfl rfl rfl (U_buildSliceF (by rfl) (by decide) rfl rfl rfl) rfl rfl ?_
          refine Ra rfl rfl rfl (U_appO (b := 2) (m := 0) (cs' := ((([z * H + (h + 1) % H] ++ [z * H + (h + H - 1) % H]) ++ [i - H]) ++ [i + H]).map n64) (n' := ((([z * H + (h + 1) % H] ++ [z * H + (h + H - 1) % H]) ++ [i - H]) ++ [i + H]).length) rfl rfl (by simp) rfl (map_len1 _) rfl rfl (by simp) (appM _ _) (len1 _ _)) rfl rfl rfl ?_
          refine Rv rfl rfl rfl (U_assign rfl) rfl rfl ?_
          refine Re rfl ?_
          refine thenQ_n ?_
          refine W_seq rfl ?_
          refine W_reg rfl ?_
          refine Rv rfl rfl rfl (U_move rfl) rfl rfl ?_
          refine Rv rfl rfl rfl (U_assign rfl) rfl rfl ?_
          refine Re rfl ?_
          refine thenQ_n ?_
          refine WfrO 3 (((([z * H + (h + 1) % H] ++ [z * H + (h + H - 1) % H]) ++ [i - H]) ++ [i + H]).map n64) rfl (mapD (fun _ => rfl) _) (T' := [(4, .ros (((([z * H + (h + 1) % H] ++ [z * H + (h + H - 1) % H]) ++ [i - H]) ++ [i + H]).map n64) (((([z * H + (h + 1) % H] ++ [z * H + (h + H - 1) % H]) ++ [i - H]) ++ [i + H]).length) none)]) (H' := []) ⟨fO rfl, trivial⟩ trivial ?_
          refine W_ret rfl ?_
          exact retL (rlT rfl rl0) (by first | rfl | (simp only [packA]; rw [bsN_eq, hzq, hhq]; (repeat' split) <;> first | rfl | omega; first | done | rfl)) rfl
        · refine W_skip rfl ?_
          refine thenQ_n ?_
          refine W_seq rfl ?_
          refine W_reg rfl ?_
          refine Rv rfl rfl rfl (U_move rfl) rfl rfl ?_
          refine Rv rfl rfl rfl (U_assign rfl) rfl rfl ?_
          refine Re rfl ?_
          refine thenQ_n ?_
          refine WfrO 2 ((([z * H + (h + 1) % H] ++ [z * H + (h + H - 1) % H]) ++ [i - H]).map n64) rfl (mapD (fun _ => rfl) _) (T' := [(4, .ros ((([z * H + (h + 1) % H] ++ [z * H + (h + H - 1) % H]) ++ [i - H]).map n64) ((([z * H + (h + 1) % H] ++ [z * H + (h + H - 1) % H]) ++ [i - H]).length) none)]) (H' := []) ⟨fO rfl, trivial⟩ trivial ?_
          refine W_ret rfl ?_
          exact retL (rlT rfl rl0) (by first | rfl | (simp only [packA]; rw [bsN_eq, hzq, hhq]; (repeat' split) <;> first | rfl | omega; first | done | rfl)) rfl
      · refine W_skip rfl ?_
        refine thenQ_n ?_
        refine W_seq rfl ?_
        refine W_seq rfl ?_
        refine W_reg rfl ?_
        refine Rv rfl rfl rfl (U_move rfl) rfl rfl ?_
        refine Rv rfl rfl rfl (U_add rfl rfl (w64e (m := ((z + 1 : Nat) : Int)) (by omega) (by omega) (by omega))) rfl rfl ?_
        refine Rv rfl rfl rfl (U_fieldAddrR rfl) rfl rfl ?_
        refine Rv rfl rfl rfl (U_load1 rfl rfl rfl) rfl rfl ?_
        refine Rv rfl rfl rfl (U_lss rfl rfl) rfl rfl ?_
        refine Re rfl ?_
        refine thenQ_n ?_
        refine WcondP rfl rfl (fun hc3 => ?_) (fun hc3 => ?_)
        · refine W_reg rfl ?_
          refine Rv rfl rfl rfl (U_move rfl) rfl rfl ?_
          refine Rv rfl rfl rfl (U_move rfl) rfl rfl ?_
          refine Rv rfl rfl rfl (U_fieldAddrR rfl) rfl rfl ?_
          refine Rv rfl rfl rfl (U_load1 rfl rfl rfl) rfl rfl ?_
          refine Rv rfl rfl rfl (U_add rfl rfl (w64e (m := ((i + H : Nat) : Int)) (by omega) (by omega) (by omega))) rfl rfl ?_
          refine Rv rfl rfl rfl (U_buildSliceF (by rfl) (by decide) rfl rfl rfl) rfl rfl ?_
          refine Ra rfl rfl rfl (U_appO (b := 1) (m := 0) (cs' := (([z * H + (h + 1) % H] ++ [z * H + (h + H - 1) % H]) ++ [i + H]).map n64) (n' := (([z * H + (h + 1) % H] ++ [z * H + (h + H - 1) % H]) ++ [i + H]).length) rfl rfl (by simp) rfl (map_len1 _) rfl rfl (by simp) (appM _ _) (len1 _ _)) rfl rfl rfl ?_
          refine Rv rfl rfl rfl (U_assign rfl) rfl rfl ?_
          refine Re rfl ?_
          refine thenQ_n ?_
          refine W_seq rfl ?_
          refine W_reg rfl ?_
          refine Rv rfl rfl rfl (U_move rfl) rfl rfl ?_
          refine Rv rfl rfl rfl (U_assign rfl) rfl rfl ?_
          refine Re rfl ?_
          refine thenQ_n ?_
          refine WfrO 2 ((([z * H + (h + 1) % H] ++ [z * H + (h + H - 1) % H]) ++ [i + H]).map n64) rfl (mapD (fun _ => rfl) _) (T' := [(4, .ros ((([z * H + (h + 1) % H] ++ [z * H + (h + H - 1) % H]) ++ [i + H]).map n64) ((([z * H + (h + 1) % H] ++ [z * H + (h + H - 1) % H]) ++ [i + H]).length) none)]) (H' := []) ⟨fO rfl, trivial⟩ trivial ?_
          refine W_ret rfl ?_
          exact retL (rlT rfl rl0) (by first | rfl | (simp only [packA]; rw [bsN_eq, hzq, hhq]; (repeat' split) <;> first | rfl | omega; first | done | rfl)) rfl
        · refine W_skip rfl ?_
          refine thenQ_n ?_
          refine W_seq rfl ?_
          refine W_reg rfl ?_
          refine Rv rfl rfl rfl (U_move rfl) rfl rfl ?_
          refine Rv rfl rfl rfl (U_assign rfl) rfl rfl ?_
          refine Re rfl ?_
          refine thenQ_n ?_
          refine WfrO 1 (([z * H + (h + 1) % H] ++ [z * H + (h + H - 1) % H]).map n64) rfl (mapD (fun _ => rfl) _) (T' := [(4, .ros (([z * H + (h + 1) % H] ++ [z * H + (h + H - 1) % H]).map n64) (([z * H + (h + 1) % H] ++ [z * H + (h + H - 1) % H]).length) none)]) (H' := []) ⟨fO rfl, trivial⟩ trivial ?_
          refine W_ret rfl ?_
          exact retL (rlT rfl rl0) (by first | rfl | (simp only [packA]; rw [bsN_eq, hzq, hhq]; (repeat' split) <;> first | rfl | omega; first | done | rfl)) rfl
    · refine W_skip rfl ?_
      refine thenQ_n ?_
      refine W_seq rfl ?_
      refine W_seq rfl ?_
      refine W_reg rfl ?_
      refine Rv rfl rfl rfl (U_move rfl) rfl rfl ?_
      refine Rv rfl rfl rfl (U_gtr rfl rfl) rfl rfl ?_
      refine Re rfl ?_
      refine thenQ_n ?_
      refine WcondP rfl rfl (fun hc2 => ?_) (fun hc2 => ?_)
      · refine W_reg rfl ?_
        refine Rv rfl rfl rfl (U_move rfl) rfl rfl ?_
        refine Rv rfl rfl rfl (U_move rfl) rfl rfl ?_
        refine Rv rfl rfl rfl (U_fieldAddrR rfl) rfl rfl ?_
        refine Rv rfl rfl rfl (U_load1 rfl rfl rfl) rfl rfl ?_
        refine Rv rfl rfl rfl (U_sub rfl rfl (w64e (m := ((i - H : Nat) : Int)) (by omega) (by omega) (by omega))) rfl rfl ?_
        refine Rv rfl rfl rfl (U_buildSliceF (by rfl) (by decide) rfl rfl rfl) rfl rfl ?_
        refine Ra rfl rfl rfl (U_appO (b := 0) (m := 0) (cs' := ([z * H + (h + 1) % H] ++ [i - H]).map n64) (n' := ([z * H + (h + 1) % H] ++ [i - H]).length) rfl rfl (by simp) rfl (map_len1 _) rfl rfl (by simp) (appM _ _) (len1 _ _)) rfl rfl rfl ?_
        refine Rv rfl rfl rfl (U_assign rfl) rfl rfl ?_
        refine Re rfl ?_
        refine thenQ_n ?_
        refine W_seq rfl ?_
        refine W_seq rfl ?_
        refine W_reg rfl ?_
        refine Rv rfl rfl rfl (U_move rfl) rfl rfl ?_
        refine Rv rfl rfl rfl (U_add rfl rfl (w64e (m := ((z + 1 : Nat) : Int)) (by omega) (by omega) (by omega))) rfl rfl ?_
        refine Rv rfl rfl rfl (U_fieldAddrR rfl) rfl rfl ?_
        refine Rv rfl rfl rfl (U_load1 rfl rfl rfl) rfl rfl ?_
        refine Rv rfl rfl rfl (U_lss rfl rfl) rfl rfl ?_
        refine Re rfl ?_
        refine thenQ_n ?_
        refine WcondP rfl rfl (fun hc3 => ?_) (fun hc3 => ?_)
        · refine W_reg rfl ?_
          refine Rv rfl rfl rfl (U_move rfl) rfl rfl ?_
          refine Rv rfl rfl rfl (U_move rfl) rfl rfl ?_
          refine Rv rfl rfl rfl (U_fieldAddrR rfl) rfl rfl ?_
          refine Rv rfl rfl rfl (U_load1 rfl rfl rfl) rfl rfl ?_
          refine Rv rfl rfl rfl (U_add rfl rfl (w64e (m := ((i + H : Nat) : Int)) (by omega) (by omega) (by omega))) rfl rfl ?_
          refine Rv rfl rfl rfl (U_buildSliceF (by rfl) (by decide) rfl rfl rfl) rfl rfl ?_
          refine Ra rfl rfl rfl (U_appO (b := 1) (m := 0) (cs' := (([z * H + (h + 1) % H] ++ [i - H]) ++ [i + H]).map n64) (n' := (([z * H + (h + 1) % H] ++ [i - H]) ++ [i + H]).length) rfl rfl (by simp) rfl (map_len1 _) rfl rfl (by simp) (appM _ _) (len1 _ _)) rfl rfl rfl ?_
          refine Rv rfl rfl rfl (U_assign rfl) rfl rfl ?_
          refine Re rfl ?_
          refine thenQ_n ?_
          refine W_seq rfl ?_
          refine W_reg rfl ?_
          refine Rv rfl rfl rfl (U_move rfl) rfl rfl ?_
          refine Rv rfl rfl rfl (U_assign rfl) rfl rfl ?_
          refine Re rfl ?_
          refine thenQ_n ?_
          refine WfrO 2 ((([z * H + (h + 1) % H] ++ [i - H]) ++ [i + H]).map n64) rfl (mapD (fun _ => rfl) _) (T' := [(4, .ros ((([z * H + (h + 1) % H] ++ [i - H]) ++ [i + H]).map n64) ((([z * H + (h + 1) % H] ++ [i - H]) ++ [i + H]).length) none)]) (H' := []) ⟨fO rfl, trivial⟩ trivial ?_
          refine W_ret rfl ?_
          exact retL (rlT rfl rl0) (by first | rfl | (simp only [packA]; rw [bsN_eq, hzq, hhq]; (repeat' split) <;> first | rfl | omega; first | done | rfl)) rfl
        · refine W_skip rfl ?_
          refine thenQ_n ?_
          refine W_seq rfl ?_
          refine W_reg rfl ?_
          refine Rv rfl rfl rfl (U_move rfl) rfl rfl ?_
          refine Rv rfl rfl rfl (U_assign rfl) rfl rfl ?_
          refine Re rfl ?_
          refine thenQ_n ?_
          refine WfrO 1 (([z * H + (h + 1) % H] ++ [i - H]).map n64) rfl (mapD (fun _ => rfl) _) (T' := [(4, .ros (([z * H + (h + 1) % H] ++ [i - H]).map n64) (([z * H + (h + 1) % H] ++ [i - H]).length) none)]) (H' := []) ⟨fO rfl, trivial⟩ trivial ?_
          refine W_ret rfl ?_
          exact retL (rlT rfl rl0) (by first | rfl | (simp only [packA]; rw [bsN_eq, hzq, hhq]; (repeat' split) <;> first | rfl | omega; first | done | rfl)) rfl
      · refine W_skip rfl ?_
        refine thenQ_n ?_
        refine W_seq rfl ?_
        refine W_seq rfl ?_
        refine W_reg rfl ?_
        refine Rv rfl rfl rfl (U_move rfl) rfl rfl ?_
        refine Rv rfl rfl rfl (U_add rfl rfl (w64e (m := ((z + 1 : Nat) : Int)) (by omega) (by omega) (by omega))) rfl rfl ?_
        refine Rv rfl rfl rfl (U_fieldAddrR rfl) rfl rfl ?_
        refine Rv rfl rfl rfl (U_load1 rfl rfl rfl) rfl rfl ?_
        refine Rv rfl rfl rfl (U_lss rfl rfl) rfl rfl ?_
        refine Re rfl ?_
        refine thenQ_n ?_
        refine WcondP rfl rfl (fun hc3 => ?_) (fun hc3 => ?_)
        · refine W_reg rfl ?_
          refine Rv rfl rfl rfl (U_move rfl) rfl rfl ?_
          refine Rv rfl rfl rfl (U_move rfl) rfl rfl ?_
          refine Rv rfl rfl rfl (U_fieldAddrR rfl) rfl rfl ?_
          refine Rv rfl rfl rfl (U_load1 rfl rfl rfl) rfl rfl ?_
          refine Rv rfl rfl rfl (U_add rfl rfl (w64e (m := ((i + H : Nat) : Int)) (by omega) (by omega) (by omega))) rfl rfl ?_
          refine Rv rfl rfl rfl (U_buildSliceF (by rfl) (by decide) rfl rfl rfl) rfl rfl ?_
          refine Ra rfl rfl rfl (U_appO (b := 0) (m := 0) (cs' := ([z * H + (h + 1) % H] ++ [i + H]).map n64) (n' := ([z * H + (h + 1) % H] ++ [i + H]).length) rfl rfl (by simp) rfl (map_len1 _) rfl rfl (by simp) (appM _ _) (len1 _ _)) rfl rfl rfl ?_
          refine Rv rfl rfl rfl (U_assign rfl) rfl rfl ?_
          refine Re rfl ?_
          refine thenQ_n ?_
          refine W_seq rfl ?_
          refine W_reg rfl ?_
          refine Rv rfl rfl rfl (U_move rfl) rfl rfl ?_
          refine Rv rfl rfl rfl (U_assign rfl) rfl rfl ?_
          refine Re rfl ?_
          refine thenQ_n ?_
          refine WfrO 1 (([z * H + (h + 1) % H] ++ [i + H]).map n64) rfl (mapD (fun _ => rfl) _) (T' := [(4, .ros (([z * H + (h + 1) % H] ++ [i + H]).map n64) (([z * H + (h + 1) % H] ++ [i + H]).length) none)]) (H' := []) ⟨fO rfl, trivial⟩ trivial ?_
          refine W_ret rfl ?_
          exact retL (rlT rfl rl0) (by first | rfl | (simp only [packA]; rw [bsN_eq, hzq, hhq]; (repeat' split) <;> first | rfl | omega; first | done | rfl)) rfl
        · refine W_skip rfl ?_
          refine thenQ_n ?_
          refine W_seq rfl ?_
          refine W_reg rfl ?_
          refine Rv rfl rfl rfl (U_move rfl) rfl rfl ?_
          refine Rv rfl rfl rfl (U_assign rfl) rfl rfl ?_
          refine Re rfl ?_
          refine thenQ_n ?_
          refine WfrO 0 ([z * H + (h + 1) % H].map n64) rfl (mapD (fun _ => rfl) _) (T' := [(4, .ros ([z * H + (h + 1) % H].map n64) ([z * H + (h + 1) % H].length) none)]) (H' := []) ⟨fO rfl, trivial⟩ trivial ?_
          refine W_ret rfl ?_
          exact retL (rlT rfl rl0) (by first | rfl | (simp only [packA]; rw [bsN_eq, hzq, hhq]; (repeat' split) <;> first | rfl | omega; first | done | rfl)) rfl
  · refine W_skip rfl ?_
    refine thenQ_n ?_
    refine W_seq rfl ?_
    refine W_seq rfl ?_
    refine W_reg rfl ?_
    refine Rv rfl rfl rfl (U_fieldAddrR rfl) rfl rfl ?_
    refine Rv rfl rfl rfl (U_load1 rfl rfl rfl) rfl rfl ?_
    refine Rv rfl rfl rfl (U_gtr rfl rfl) rfl rfl ?_
    refine Re rfl ?_
    refine thenQ_n ?_
    refine WcondP rfl rfl (fun hc1 => ?_) (fun hc1 => ?_)
    · refine Wdraw rfl (by kernel_rfl) (by kernel_rfl) ?_
      refine Dv rfl rfl rfl (U_move rfl) rfl rfl ?_
      refine Dv rfl rfl rfl (U_move rfl) rfl rfl ?_
      refine Dv rfl rfl rfl (U_fieldAddrR rfl) rfl rfl ?_
      refine Dv rfl rfl rfl (U_load1 rfl rfl rfl) rfl rfl ?_
      refine Dv rfl rfl rfl (U_mul rfl rfl (w64e (m := ((z * H : Nat) : Int)) (by omega) (by omega) (by omega))) rfl rfl ?_
      refine Dv rfl rfl rfl (U_move rfl) rfl rfl ?_
      refine Dv rfl rfl rfl (U_fieldAddrR rfl) rfl rfl ?_
      refine Dv rfl rfl rfl (U_load1 rfl rfl rfl) rfl rfl ?_
      refine Dv rfl rfl rfl (U_add rfl rfl (w64e (m := ((h + H : Nat) : Int)) (by omega) (by omega) (by omega))) rfl rfl ?_
      refine Dv rfl rfl rfl (U_sub rfl rfl (w64e (m := ((h + H - 1 : Nat) : Int)) (by omega) (by omega) (by omega))) rfl rfl ?_
      refine Dv rfl rfl rfl (U_fieldAddrR rfl) rfl rfl ?_
      refine Dv rfl rfl rfl (U_load1 rfl rfl rfl) rfl rfl ?_
      refine Dv rfl rfl rfl (U_rem (c := (((h + H - 1) % H : Nat) : Int)) rfl rfl (by omega) (tmodN _ _)) rfl rfl ?_
      refine Dv rfl rfl rfl (U_add rfl rfl (w64e (m := ((z * H + (h + H - 1) % H : Nat) : Int)) (by omega) (by omega) (by omega))) rfl rfl ?_
      refine Dv rfl rfl rfl (U_buildSliceF (by rfl) (by decide) rfl rfl rfl) rfl rfl ?_
      refine Da rfl rfl rfl (U_appN (m := 0) (cs' := [z * H + (h + H - 1) % H].map n64) (n' := [z * H + (h + H - 1) % H].length) rfl rfl rfl (by omega) rfl rfl) rfl rfl rfl rfl ?_
      refine Dv rfl rfl rfl (U_assign rfl) rfl rfl ?_
      refine Dr.nil rfl ?_
      refine thenQ_n ?_
      refine W_seq rfl ?_
      refine W_seq rfl ?_
      refine W_reg rfl ?_
      refine Rv rfl rfl rfl (U_move rfl) rfl rfl ?_
      refine Rv rfl rfl rfl (U_gtr rfl rfl) rfl rfl ?_
      refine Re rfl ?_
      refine thenQ_n ?_
      refine WcondP rfl rfl (fun hc2 => ?_) (fun hc2 => ?_)
      · refine W_reg rfl ?_
        refine Rv rfl rfl rfl (U_move rfl) rfl rfl ?_
        refine Rv rfl rfl rfl (U_move rfl) rfl rfl ?_
        refine Rv rfl rfl rfl (U_fieldAddrR rfl) rfl rfl ?_
        refine Rv rfl rfl rfl (U_load1 rfl rfl rfl) rfl rfl ?_
        refine Rv rfl rfl rfl (U_sub rfl rfl (w64e (m := ((i - H : Nat) : Int)) (by omega) (by omega) (by omega))) rfl rfl ?_
        refine Rv rfl rfl rfl (U_buildSliceF (by rfl) (by decide) rfl rfl rfl) rfl rfl ?_
        refine Ra rfl rfl rfl (U_appO (b := 0) (m := 0) (cs' := ([z * H + (h + H - 1) % H] ++ [i - H]).map n64) (n' := ([z * H + (h + H - 1) % H] ++ [i - H]).length) rfl rfl (by simp) rfl (map_len1 _) rfl rfl (by simp) (appM _ _) (len1 _ _)) rfl rfl rfl ?_
        refine Rv rfl rfl rfl (U_assign rfl) rfl rfl ?_
        refine Re rfl ?_
        refine thenQ_n ?_
        refine W_seq rfl ?_
        refine W_seq rfl ?_
        refine W_reg rfl ?_
        refine Rv rfl rfl rfl (U_move rfl) rfl rfl ?_
        refine Rv rfl rfl rfl (U_add rfl rfl (w64e (m := ((z + 1 : Nat) : Int)) (by omega) (by omega) (by omega))) rfl rfl ?_
        refine Rv rfl rfl rfl (U_fieldAddrR rfl) rfl rfl ?_
        refine Rv rfl rfl rfl (U_load1 rfl rfl rfl) rfl rfl ?_
        refine Rv rfl rfl rfl (U_lss rfl rfl) rfl rfl ?_
        refine Re rfl ?_
        refine thenQ_n ?_
        refine WcondP rfl rfl (fun hc3 => ?_) (fun hc3 => ?_)
        · refine W_reg rfl ?_
          refine Rv rfl rfl rfl (U_move rfl) rfl rfl ?_
          refine Rv rfl rfl rfl (U_move rfl) rfl rfl ?_
          refine Rv rfl rfl rfl (U_fieldAddrR rfl) rfl rfl ?_
          refine Rv rfl rfl rfl (U_load1 rfl rfl rfl) rfl rfl ?_
          refine Rv rfl rfl rfl (U_add rfl rfl (w64e (m := ((i + H : Nat) : Int)) (by omega) (by omega) (by omega))) rfl rfl ?_
          refine Rv rfl rfl rfl (U_buildSliceF (by rfl) (by decide) rfl rfl rfl) rfl rfl ?_
          refine Ra rfl rfl rfl (U_appO (b := 1) (m := 0) (cs' := (([z * H + (h + H - 1) % H] ++ [i - H]) ++ [i + H]).map n64) (n' := (([z * H + (h + H - 1) % H] ++ [i - H]) ++ [i + H]).length) rfl rfl (by simp) rfl (map_len1 _) rfl rfl (by simp) (appM _ _) (len1 _ _)) rfl rfl rfl ?_
          refine Rv rfl rfl rfl (U_assign rfl) rfl rfl ?_
          refine Re rfl ?_
          refine thenQ_n ?_
          refine W_seq rfl ?_
          refine W_reg rfl ?_
          refine Rv rfl rfl rfl (U_move rfl) rfl rfl ?_
          refine Rv rfl rfl rfl (U_assign rfl) rfl rfl ?_
          refine Re rfl ?_
          refine thenQ_n ?_
          refine WfrO 2 ((([z * H + (h + H - 1) % H] ++ [i - H]) ++ [i + H]).map n64) rfl (mapD (fun _ => rfl) _) (T' := [(4, .ros ((([z * H + (h + H - 1) % H] ++ [i - H]) ++ [i + H]).map n64) ((([z * H + (h + H - 1) % H] ++ [i - H]) ++ [i + H]).length) none)]) (H' := []) ⟨fO rfl, trivial⟩ trivial ?_
          refine W_ret rfl ?_
          exact retL (rlT rfl rl0) (by first | rfl | (simp only [packA]; rw [bsN_eq, hzq, hhq]; (repeat' split) <;> first | rfl | omega; first | done | rfl)) rfl
        · refine W_skip rfl ?_
          refine thenQ_n ?_
          refine W_seq rfl ?_
          refine W_reg rfl ?_
          refine Rv rfl rfl rfl (U_move rfl) rfl rfl ?_
          refine Rv rfl rfl rfl (U_assign rfl) rfl rfl ?_
          refine Re rfl ?_
          refine thenQ_n ?_
          refine WfrO 1 (([z * H + (h + H - 1) % H] ++ [i - H]).map n64) rfl (mapD (fun _ => rfl) _) (T' := [(4, .ros (([z * H + (h + H - 1) % H] ++ [i - H]).map n64) (([z * H + (h + H - 1) % H] ++ [i - H]).length) none)]) (H' := []) ⟨fO rfl, trivial⟩ trivial ?_
          refine W_ret rfl ?_
          exact retL (rlT rfl rl0) (by first | rfl | (simp only [packA]; rw [bsN_eq, hzq, hhq]; (repeat' split) <;> first | rfl | omega; first | done | rfl)) rfl
      · refine W_skip rfl ?_
        refine thenQ_n ?_
        refine W_seq rfl ?_
        refine W_seq rfl ?_
        refine W_reg rfl ?_
        refine Rv rfl rfl rfl (U_move rfl) rfl rfl ?_
        refine Rv rfl rfl rfl (U_add rfl rfl (w64e (m := ((z + 1 : Nat) : Int)) (by omega) (by omega) (by omega))) rfl rfl ?_
        refine Rv rfl rfl rfl (U_fieldAddrR rfl) rfl rfl ?_
        refine Rv rfl rfl rfl (U_load1 rfl rfl rfl) rfl rfl ?_
        refine Rv rfl rfl rfl (U_lss rfl rfl) rfl rfl ?_
        refine Re rfl ?_
        refine thenQ_n ?_
        refine WcondP rfl rfl (fun hc3 => ?_) (fun hc3 => ?_)
        · refine W_reg rfl ?_
          refine Rv rfl rfl rfl (U_move rfl) rfl rfl ?_
          refine Rv rfl rfl rfl (U_move rfl) rfl rfl ?_
          refine Rv rfl rfl rfl (U_fieldAddrR rfl) rfl rfl ?_
          refine Rv rfl rfl rfl (U_load1 rfl rfl rfl) rfl rfl ?_
          refine Rv rfl rfl rfl (U_add rfl rfl (w64e (m := ((i + H : Nat) : Int)) (by omega) (by omega) (by omega))) rfl rfl ?_
          refine Rv rfl rfl rfl (U_buildSliceF (by rfl) (by decide) rfl rfl rfl) rfl rfl ?_
          refine Ra rfl rfl rfl (U_appO (b := 0) (m := 0) (cs' := ([z * H + (h + H - 1) % H] ++ [i + H]).map n64) (n' := ([z * H + (h + H - 1) % H] ++ [i + H]).length) rfl rfl (by simp) rfl (map_len1 _) rfl rfl (by simp) (appM _ _) (len1 _ _)) rfl rfl rfl ?_
          refine Rv rfl rfl rfl (U_assign rfl) rfl rfl ?_
          refine Re rfl ?_
          refine thenQ_n ?_
          refine W_seq rfl ?_
          refine W_reg rfl ?_
          refine Rv rfl rfl rfl (U_move rfl) rfl rfl ?_
          refine Rv rfl rfl rfl (U_assign rfl) rfl rfl ?_
          refine Re rfl ?_
          refine thenQ_n ?_
          refine WfrO 1 (([z * H + (h + H - 1) % H] ++ [i + H]).map n64) rfl (mapD (fun _ => rfl) _) (T' := [(4, .ros (([z * H + (h + H - 1) % H] ++ [i + H]).map n64) (([z * H + (h + H - 1) % H] ++ [i + H]).length) none)]) (H' := []) ⟨fO rfl, trivial⟩ trivial ?_
          refine W_ret rfl ?_
          exact retL (rlT rfl rl0) (by first | rfl | (simp only [packA]; rw [bsN_eq, hzq, hhq]; (repeat' split) <;> first | rfl | omega; first | done | rfl)) rfl
        · refine W_skip rfl ?_
          refine thenQ_n ?_
          refine W_seq rfl ?_
          refine W_reg rfl ?_
          refine Rv rfl rfl rfl (U_move rfl) rfl rfl ?_
          refine Rv rfl rfl rfl (U_assign rfl) rfl rfl ?_
          refine Re rfl ?_
          refine thenQ_n ?_
          refine WfrO 0 ([z * H + (h + H - 1) % H].map n64) rfl (mapD (fun _ => rfl) _) (T' := [(4, .ros ([z * H + (h + H - 1) % H].map n64) ([z * H + (h + H - 1) % H].length) none)]) (H' := []) ⟨fO rfl, trivial⟩ trivial ?_
          refine W_ret rfl ?_
          exact retL (rlT rfl rl0) (by first | rfl | (simp only [packA]; rw [bsN_eq, hzq, hhq]; (repeat' split) <;> first | rfl | omega; first | done | rfl)) rfl
    · refine W_skip rfl ?_
      refine thenQ_n ?_
      refine W_seq rfl ?_
      refine W_seq rfl ?_
      refine W_reg rfl ?_
      refine Rv rfl rfl rfl (U_move rfl) rfl rfl ?_
      refine Rv rfl rfl rfl (U_gtr rfl rfl) rfl rfl ?_
      refine Re rfl ?_
      refine thenQ_n ?_
      refine WcondP rfl rfl (fun hc2 => ?_) (fun hc2 => ?_)
      · refine W_reg rfl ?_
        refine Rv rfl rfl rfl (U_move rfl) rfl rfl ?_
        refine Rv rfl rfl rfl (U_move rfl) rfl rfl ?_
        refine Rv rfl rfl rfl (U_fieldAddrR rfl) rfl rfl ?_
        refine Rv rfl rfl rfl (U_load1 rfl rfl rfl) rfl rfl ?_
        refine Rv rfl rfl rfl (U_sub rfl rfl (w64e (m := ((i - H : Nat) : Int)) (by omega) (by omega) (by omega))) rfl rfl ?_
        refine Rv rfl rfl rfl (U_buildSliceF (by rfl) (by decide) rfl rfl rfl) rfl rfl ?_
        refine Ra rfl rfl rfl (U_appN (m := 0) (cs' := [i - H].map n64) (n' := [i - H].length) rfl rfl rfl (by omega) rfl rfl) rfl rfl rfl ?_
        refine Rv rfl rfl rfl (U_assign rfl) rfl rfl ?_
        refine Re rfl ?_
        refine thenQ_n ?_
        refine W_seq rfl ?_
        refine W_seq rfl ?_
        refine W_reg rfl ?_
        refine Rv rfl rfl rfl (U_move rfl) rfl rfl ?_
        refine Rv rfl rfl rfl (U_add rfl rfl (w64e (m := ((z + 1 : Nat) : Int)) (by omega) (by omega) (by omega))) rfl rfl ?_
        refine Rv rfl rfl rfl (U_fieldAddrR rfl) rfl rfl ?_
        refine Rv rfl rfl rfl (U_load1 rfl rfl rfl) rfl rfl ?_
        refine Rv rfl rfl rfl (U_lss rfl rfl) rfl rfl ?_
        refine Re rfl ?_
        refine thenQ_n ?_
        refine WcondP rfl rfl (fun hc3 => ?_) (fun hc3 => ?_)
        · refine W_reg rfl ?_
          refine Rv rfl rfl rfl (U_move rfl) rfl rfl ?_
          refine Rv rfl rfl rfl (U_move rfl) rfl rfl ?_
          refine Rv rfl rfl rfl (U_fieldAddrR rfl) rfl rfl ?_
          refine Rv rfl rfl rfl (U_load1 rfl rfl rfl) rfl rfl ?_
          refine Rv rfl rfl rfl (U_add rfl rfl (w64e (m := ((i + H : Nat) : Int)) (by omega) (by omega) (by omega))) rfl rfl ?_
          refine Rv rfl rfl rfl (U_buildSliceF (by rfl) (by decide) rfl rfl rfl) rfl rfl ?_
          refine Ra rfl rfl rfl (U_appO (b := 0) (m := 0) (cs' := ([i - H] ++ [i + H]).map n64) (n' := ([i - H] ++ [i + H]).length) rfl rfl (by simp) rfl (map_len1 _) rfl rfl (by simp) (appM _ _) (len1 _ _)) rfl rfl rfl ?_
          refine Rv rfl rfl rfl (U_assign rfl) rfl rfl ?_
          refine Re rfl ?_
          refine thenQ_n ?_
          refine W_seq rfl ?_
          refine W_reg rfl ?_
          refine Rv rfl rfl rfl (U_move rfl) rfl rfl ?_
          refine Rv rfl rfl rfl (U_assign rfl) rfl rfl ?_
          refine Re rfl ?_
          refine thenQ_n ?_
          refine WfrO 1 (([i - H] ++ [i + H]).map n64) rfl (mapD (fun _ => rfl) _) (T' := [(4, .ros (([i - H] ++ [i + H]).map n64) (([i - H] ++ [i + H]).length) none)]) (H' := []) ⟨fO rfl, trivial⟩ trivial ?_
          refine W_ret rfl ?_
          exact retL (rlT rfl rl0) (by first | rfl | (simp only [packA]; rw [bsN_eq, hzq, hhq]; (repeat' split) <;> first | rfl | omega; first | done | rfl)) rfl
        · refine W_skip rfl ?_
          refine thenQ_n ?_
          refine W_seq rfl ?_
          refine W_reg rfl ?_
          refine Rv rfl rfl rfl (U_move rfl) rfl rfl ?_
          refine Rv rfl rfl rfl (U_assign rfl) rfl rfl ?_
          refine Re rfl ?_
          refine thenQ_n ?_
          refine WfrO 0 ([i - H].map n64) rfl (mapD (fun _ => rfl) _) (T' := [(4, .ros ([i - H].map n64) ([i - H].length) none)]) (H' := []) ⟨fO rfl, trivial⟩ trivial ?_
          refine W_ret rfl ?_
          exact retL (rlT rfl rl0) (by first | rfl | (simp only [packA]; rw [bsN_eq, hzq, hhq]; (repeat' split) <;> first | rfl | omega; first | done | rfl)) rfl
      · refine W_skip rfl ?_
        refine thenQ_n ?_
        refine W_seq rfl ?_
        refine W_seq rfl ?_
        refine W_reg rfl ?_
        refine Rv rfl rfl rfl (U_move rfl) rfl rfl ?_
        refine Rv rfl rfl rfl (U_add rfl rfl (w64e (m := ((z + 1 : Nat) : Int)) (by omega) (by omega) (by omega))) rfl rfl ?_
        refine Rv rfl rfl rfl (U_fieldAddrR rfl) rfl rfl ?_
        refine Rv rfl rfl rfl (U_load1 rfl rfl rfl) rfl rfl ?_
        refine Rv rfl rfl rfl (U_lss rfl rfl) rfl rfl ?_
        refine Re rfl ?_
        refine thenQ_n ?_
        refine WcondP rfl rfl (fun hc3 => ?_) (fun hc3 => ?_)
        · refine W_reg rfl ?_
          refine Rv rfl rfl rfl (U_move rfl) rfl rfl ?_
          refine Rv rfl rfl rfl (U_move rfl) rfl rfl ?_
          refine Rv rfl rfl rfl (U_fieldAddrR rfl) rfl rfl ?_
          refine Rv rfl rfl rfl (U_load1 rfl rfl rfl) rfl rfl ?_
          refine Rv rfl rfl rfl (U_add rfl rfl (w64e (m := ((i + H : Nat) : Int)) (by omega) (by omega) (by omega))) rfl rfl ?_
          refine Rv rfl rfl rfl (U_buildSliceF (by rfl) (by decide) rfl rfl rfl) rfl rfl ?_
          refine Ra rfl rfl rfl (U_appN (m := 0) (cs' := [i + H].map n64) (n' := [i + H].length) rfl rfl rfl (by omega) rfl rfl) rfl rfl rfl ?_
          refine Rv rfl rfl rfl (U_assign rfl) rfl rfl ?_
          refine Re rfl ?_
          refine thenQ_n ?_
          refine W_seq rfl ?_
          refine W_reg rfl ?_
          refine Rv rfl rfl rfl (U_move rfl) rfl rfl ?_
          refine Rv rfl rfl rfl (U_assign rfl) rfl rfl ?_
          refine Re rfl ?_
          refine thenQ_n ?_
          refine WfrO 0 ([i + H].map n64) rfl (mapD (fun _ => rfl) _) (T' := [(4, .ros ([i + H].map n64) ([i + H].length) none)]) (H' := []) ⟨fO rfl, trivial⟩ trivial ?_
          refine W_ret rfl ?_
          exact retL (rlT rfl rl0) (by first | rfl | (simp only [packA]; rw [bsN_eq, hzq, hhq]; (repeat' split) <;> first | rfl | omega; first | done | rfl)) rfl
        · refine W_skip rfl ?_
          refine thenQ_n ?_
          refine W_seq rfl ?_
          refine W_reg rfl ?_
          refine Rv rfl rfl rfl (U_move rfl) rfl rfl ?_
          refine Rv rfl rfl rfl (U_assign rfl) rfl rfl ?_
          refine Re rfl ?_
          refine thenQ_n ?_
          refine WweakT (j := 4) rfl (le_nils (cs := [])) ?_
          refine W_ret rfl ?_
          exact retL (rlT rfl rl0) (by first | rfl | (simp only [packA]; rw [bsN_eq, hzq, hhq]; (repeat' split) <;> first | rfl | omega; first | done | rfl)) rfl
theorem nbN {Z H i : Nat} {l : List Bx} (hi : i < Z * H) : ((bsN Z H i).map fun j => (fldQ Z H l).getD j 0).sum = nbQ Z H l (i / H) (i % H) := by
  unfold nbQ bsN
  rw [List.map_map]
  congr 1
  refine List.map_congr_left fun p hp => ?_
  have hH : 0 < H := by rcases Nat.eq_zero_or_pos H with e | e; subst e; omega; exact e
  have h1 := bsP_in (Nat.div_lt_of_lt_mul (by rw [Nat.mul_comm]; exact hi)) (Nat.mod_lt i hH) p hp
  have h2 := zh_lt h1.1 h1.2
  have h3 := zh_div (z := p.1) h1.2
  have h4 : p.1 * H + p.2 < (fldQ Z H l).length := by rw [fldQ_len]; exact h2
  simp only [Function.comp]
  rw [List.getD_eq_getElem?_getD, List.getElem?_eq_getElem h4, Option.getD_some, fldQ_get h4, h3.1, h3.2]
theorem brK_step {Z H i : Nat} {la lb : List Bx} (hi : i < Z * H) : brK Z H la lb (i + 1) = brK Z H la lb i + (fldQ Z H la).getD i 0 * ((bsN Z H i).map fun j => (fldQ Z H lb).getD j 0).sum := by
  have h1 : i < (plcQ Z H).length := by rw [plcQ_len]; exact hi
  have h4 : i < (fldQ Z H la).length := by rw [fldQ_len]; exact hi
  rw [nbN hi, brK, sum_snoc h1, plcQ_at h1, List.getD_eq_getElem?_getD, List.getElem?_eq_getElem h4, Option.getD_some, fldQ_get h4]; rfl
theorem getD_at {l : List Nat} {i : Nat} (h : i < l.length) : l.getD i 0 = l[i] := by rw [List.getD_eq_getElem?_getD, List.getElem?_eq_getElem h]; rfl
theorem borderR_p (H Z : Nat) (ls : List (List Bx)) (c : Option Nat) (hv : VS ⟨H, Z, ls⟩ H Z) (a b : Nat) (ha : a < ls.length) (hb : b < ls.length) : Pure Try.prog 81 [.agg [i64 (H : Nat), i64 (Z : Nat), landsA ls c], i64 (a : Nat), i64 (b : Nat)] (i64 ((brQ Z H ls[a] ls[b] : Nat) : Int)) := by
  have hv' := hv
  obtain ⟨_, _, hH, hZ1, hln, hlb, hbx⟩ := hv'
  simp only at hln hlb hbx
  have hZ := hZ1.2
  have hHZ : Z * H ≤ 1152 := Nat.mul_le_mul hZ hH.2
  have hHZc : H * Z = Z * H := Nat.mul_comm _ _
  have hfal : (fldQ Z H ls[a]).length = Z * H := fldQ_len
  have hfbl : (fldQ Z H ls[b]).length = Z * H := fldQ_len
  refine pure_of_body Try.func81 (c := body Try.f81) rfl (by simp [Try.ntmps81]) fun w0 Φ0 => ?_
  refine W_seq rfl ?_
  refine W_reg rfl ?_
  refine Rv rfl rfl rfl (U_boxF rfl rfl rfl) rfl rfl ?_
  refine Rv rfl rfl rfl (U_assign rfl) rfl rfl ?_
  refine Re rfl ?_
  refine thenQ_n ?_
  refine W_seq rfl ?_
  refine Wdraw rfl (by kernel_rfl) (by kernel_rfl) ?_
  refine Dv rfl rfl rfl (U_load3 rfl rfl rfl rfl rfl) rfl rfl ?_
  refine Dv rfl rfl rfl (U_move rfl) rfl rfl ?_
  refine Dv rfl rfl rfl (U_call rfl rfl (field_p H Z ls c hv a (by omega)) rfl) rfl rfl ?_
  refine Dv rfl rfl rfl (U_load3 rfl rfl rfl rfl rfl) rfl rfl ?_
  refine Dv rfl rfl rfl (U_move rfl) rfl rfl ?_
  refine Dv rfl rfl rfl (U_call rfl rfl (field_p H Z ls c hv b (by omega)) rfl) rfl rfl ?_
  refine Dv rfl rfl rfl (U_assign rfl) rfl rfl ?_
  refine Dv rfl rfl rfl (U_assign rfl) rfl rfl ?_
  refine Dr.nil rfl ?_
  refine thenQ_n ?_
  refine W_seq rfl ?_
  refine W_reg rfl ?_
  refine Rv rfl rfl rfl (U_assign rfl) rfl rfl ?_
  refine Re rfl ?_
  refine thenQ_n ?_
  refine W_seq rfl ?_
  refine W_seq rfl ?_
  refine W_reg rfl ?_
  refine Rv rfl rfl rfl (U_assign rfl) rfl rfl ?_
  refine Re rfl ?_
  refine thenQ_n ?_
  refine W_block rfl ?_
  refine LoopTo (T' := [(3, .rop [i64 ((H : Nat) : Int), i64 ((Z : Nat) : Int), .ros (ls.map boxesL) ls.length c] 0), (7, .ros ((fldQ Z H ls[a]).map n64) (H * Z) (some (H * Z))), (8, .ros ((fldQ Z H ls[b]).map n64) (H * Z) (some (H * Z))), (9, i64 ((0 : Nat) : Int)), (10, i64 ((0 : Nat) : Int))]) (H' := []) (n := 0) rfl (fun mz_ qz_ => ∃ (i : Nat) (n : Nat), i ≤ H * Z ∧ n = brK Z H ls[a] ls[b] i ∧ mz_ = H * Z - i ∧ qz_ = ⟨[(3, .rop [i64 ((H : Nat) : Int), i64 ((Z : Nat) : Int), .ros (ls.map boxesL) ls.length c] 0), (7, .ros ((fldQ Z H ls[a]).map n64) (H * Z) (some (H * Z))), (8, .ros ((fldQ Z H ls[b]).map n64) (H * Z) (some (H * Z))), (9, i64 ((n : Nat) : Int)), (10, i64 ((i : Nat) : Int))], [], 0, []⟩) ⟨0, 0, (by omega), rfl, rfl, rfl⟩ id ⟨eD rfl rfl, eD rfl rfl, eD rfl rfl, eD rfl rfl, eD rfl rfl, trivial⟩ trivial rfl rfl rfl rfl (fun _ _ => rfl) ?_
  rintro _ _ ⟨i, n, hi0_0, hi0_1, rfl, rfl⟩
  have hbk := brK_le (Z := Z) (H := H) (la := ls[a]) (lb := ls[b]) (i := i)
  refine W_seq rfl ?_
  refine W_seq rfl ?_
  refine W_reg rfl ?_
  refine Rv rfl rfl rfl (U_move rfl) rfl rfl ?_
  refine Rv rfl rfl rfl (U_move rfl) rfl rfl ?_
  refine Rv rfl rfl rfl (U_lenOf rfl len_ros) rfl rfl ?_
  refine Rv rfl rfl rfl (U_lss rfl rfl) rfl rfl ?_
  refine Re rfl ?_
  refine thenQ_n ?_
  refine WcondP rfl rfl (fun hc0 => ?_) (fun hc0 => ?_)
  · have hci : i < Z * H := by omega
    have hbs := bsN_len (Z := Z) (H := H) (i := i)
    have hfa := fldQ_le (Z := Z) (H := H) (l := ls[a]) (i := i) (by omega)
    refine W_skip rfl ?_
    refine thenQ_n ?_
    refine W_seq rfl ?_
    refine W_block rfl ?_
    refine W_seq rfl ?_
    refine W_reg rfl ?_
    refine Rv rfl rfl rfl (U_load3 rfl rfl rfl rfl rfl) rfl rfl ?_
    refine Rv rfl rfl rfl (U_move rfl) rfl rfl ?_
    refine Rv rfl rfl rfl (U_call rfl rfl (besideR_p H Z ls c hv i (by omega)) rfl) rfl rfl ?_
    refine Rv rfl rfl rfl (U_assign rfl) rfl rfl ?_
    refine Re rfl ?_
    refine thenQ_n ?_
    refine W_seq rfl ?_
    refine W_reg rfl ?_
    refine Rv rfl rfl rfl (U_assign rfl) rfl rfl ?_
    refine Re rfl ?_
    refine thenQ_n ?_
    refine W_block rfl ?_
    refine LoopTo (T' := [(3, .rop [i64 ((H : Nat) : Int), i64 ((Z : Nat) : Int), .ros (ls.map boxesL) ls.length c] 0), (7, .ros ((fldQ Z H ls[a]).map n64) (H * Z) (some (H * Z))), (8, .ros ((fldQ Z H ls[b]).map n64) (H * Z) (some (H * Z))), (9, i64 ((n : Nat) : Int)), (10, i64 ((i : Nat) : Int)), (11, .ros ((bsN Z H i).map n64) ((bsN Z H i).length) none), (12, i64 ((0 : Nat) : Int))]) (H' := []) (n := 0) rfl (fun mz_ qz_ => ∃ (k : Nat) (m : Nat), k ≤ (bsN Z H i).length ∧ (m = n + (fldQ Z H ls[a]).getD i 0 * (((bsN Z H i).take k).map fun j => (fldQ Z H ls[b]).getD j 0).sum) ∧ m ≤ n + k ∧ mz_ = (bsN Z H i).length - k ∧ qz_ = ⟨[(3, .rop [i64 ((H : Nat) : Int), i64 ((Z : Nat) : Int), .ros (ls.map boxesL) ls.length c] 0), (7, .ros ((fldQ Z H ls[a]).map n64) (H * Z) (some (H * Z))), (8, .ros ((fldQ Z H ls[b]).map n64) (H * Z) (some (H * Z))), (9, i64 ((m : Nat) : Int)), (10, i64 ((i : Nat) : Int)), (11, .ros ((bsN Z H i).map n64) ((bsN Z H i).length) none), (12, i64 ((k : Nat) : Int))], [], 0, []⟩) ⟨0, n, (by omega), (by simp), (by omega), rfl, rfl⟩ id ⟨eD rfl rfl, eD rfl rfl, eD rfl rfl, eD rfl rfl, eD rfl rfl, eD rfl rfl, eD rfl rfl, trivial⟩ trivial rfl rfl rfl rfl (fun _ _ => rfl) ?_
    rintro _ _ ⟨k, m, hi1_0, hi1_1, hi1_2, rfl, rfl⟩
    refine W_seq rfl ?_
    refine W_seq rfl ?_
    refine W_reg rfl ?_
    refine Rv rfl rfl rfl (U_move rfl) rfl rfl ?_
    refine Rv rfl rfl rfl (U_move rfl) rfl rfl ?_
    refine Rv rfl rfl rfl (U_lenOf rfl len_ros) rfl rfl ?_
    refine Rv rfl rfl rfl (U_lss rfl rfl) rfl rfl ?_
    refine Re rfl ?_
    refine thenQ_n ?_
    refine WcondP rfl rfl (fun hc1 => ?_) (fun hc1 => ?_)
    · have hck : k < (bsN Z H i).length := by omega
      have hbj := bsN_lt hci _ (List.getElem_mem hck)
      have hfb := fldQ_le (Z := Z) (H := H) (l := ls[b]) (i := (bsN Z H i)[k]) (by rw [fldQ_len]; exact hbj)
      have hfab := Nat.mul_le_mul hfa hfb
      refine W_skip rfl ?_
      refine thenQ_n ?_
      refine W_seq rfl ?_
      refine W_block rfl ?_
      refine Wdraw rfl (by kernel_rfl) (by kernel_rfl) ?_
      refine Dv rfl rfl rfl (U_move rfl) rfl rfl ?_
      refine Dv rfl rfl rfl (U_move rfl) rfl rfl ?_
      refine Dv rfl rfl rfl (U_move rfl) rfl rfl ?_
      have hx1 : i < (fldQ Z H ls[a]).length := by omega
      refine Dv rfl rfl rfl (U_indexR (j := i) rfl rfl rfl (by omega)) rfl rfl ?_
      refine Dv rfl rfl rfl (U_load1 rfl rfl (getM hx1)) rfl rfl ?_
      refine Dv rfl rfl rfl (U_move rfl) rfl rfl ?_
      refine Dv rfl rfl rfl (U_move rfl) rfl rfl ?_
      refine Dv rfl rfl rfl (U_move rfl) rfl rfl ?_
      have hx2 : k < (bsN Z H i).length := by omega
      refine Dv rfl rfl rfl (U_indexR (j := k) rfl rfl rfl hx2) rfl rfl ?_
      refine Dv rfl rfl rfl (U_load1 rfl rfl (getM hx2)) rfl rfl ?_
      have hx3 : ((bsN Z H i)[k]) < (fldQ Z H ls[b]).length := by rw [fldQ_len]; exact hbj
      refine Dv rfl rfl rfl (U_indexR (j := ((bsN Z H i)[k])) rfl rfl rfl (by omega)) rfl rfl ?_
      refine Dv rfl rfl rfl (U_load1 rfl rfl (getM hx3)) rfl rfl ?_
      refine Dv rfl rfl rfl (U_mul rfl rfl (w64e (m := (((fldQ Z H ls[a])[i] * (fldQ Z H ls[b])[(bsN Z H i)[k]] : Nat) : Int)) (by omega) (by omega) (by omega))) rfl rfl ?_
      refine Dv rfl rfl rfl (U_add rfl rfl (w64e (m := ((m + (fldQ Z H ls[a])[i] * (fldQ Z H ls[b])[(bsN Z H i)[k]] : Nat) : Int)) (by omega) (by omega) (by omega))) rfl rfl ?_
      refine Dv rfl rfl rfl (U_assign rfl) rfl rfl ?_
      refine Dr.nil rfl ?_
      refine blkQ_n ?_
      refine thenQ_n ?_
      refine W_reg rfl ?_
      refine Rv rfl rfl rfl (U_move rfl) rfl rfl ?_
      refine Rv rfl rfl rfl (U_add rfl rfl (w64e (m := ((k + 1 : Nat) : Int)) (by omega) (by omega) (by omega))) rfl rfl ?_
      refine Rv rfl rfl rfl (U_assign rfl) rfl rfl ?_
      refine Re rfl ?_
      refine thenQ_n ?_
      exact againTo (T' := [(3, .rop [i64 ((H : Nat) : Int), i64 ((Z : Nat) : Int), .ros (ls.map boxesL) ls.length c] 0), (7, .ros ((fldQ Z H ls[a]).map n64) (H * Z) (some (H * Z))), (8, .ros ((fldQ Z H ls[b]).map n64) (H * Z) (some (H * Z))), (9, i64 (((m + (fldQ Z H ls[a])[i] * (fldQ Z H ls[b])[(bsN Z H i)[k]]) : Nat) : Int)), (10, i64 ((i : Nat) : Int)), (11, .ros ((bsN Z H i).map n64) ((bsN Z H i).length) none), (12, i64 (((k + 1) : Nat) : Int))]) (H' := []) (n := 0) ((bsN Z H i).length - (k + 1)) ⟨k + 1, m + (fldQ Z H ls[a])[i] * (fldQ Z H ls[b])[(bsN Z H i)[k]], (by omega), (by rw [sum_snoc hck, Nat.mul_add, ← Nat.add_assoc, ← hi1_1, getD_at (by omega), getD_at (i := (bsN Z H i)[k]) (by rw [fldQ_len]; exact hbj)]), (by omega), rfl, rfl⟩ (by omega) id ⟨eD rfl rfl, eD rfl rfl, eD rfl rfl, eD rfl rfl, eD rfl rfl, eD rfl rfl, eD rfl rfl, trivial⟩ trivial rfl rfl rfl rfl (fun _ _ => rfl)
    · have hend : m = n + (fldQ Z H ls[a]).getD i 0 * ((bsN Z H i).map fun j => (fldQ Z H ls[b]).getD j 0).sum := by rw [hi1_1, List.take_of_length_le (by omega)]
      refine W_exit rfl ?_
      refine thenQ_x ?_
      refine thenQ_x ?_
      refine blkQ_x rfl ?_
      refine blkQ_n ?_
      refine thenQ_n ?_
      refine W_reg rfl ?_
      refine Rv rfl rfl rfl (U_move rfl) rfl rfl ?_
      refine Rv rfl rfl rfl (U_add rfl rfl (w64e (m := ((i + 1 : Nat) : Int)) (by omega) (by omega) (by omega))) rfl rfl ?_
      refine Rv rfl rfl rfl (U_assign rfl) rfl rfl ?_
      refine Re rfl ?_
      refine thenQ_n ?_
      exact againTo (T' := [(3, .rop [i64 ((H : Nat) : Int), i64 ((Z : Nat) : Int), .ros (ls.map boxesL) ls.length c] 0), (7, .ros ((fldQ Z H ls[a]).map n64) (H * Z) (some (H * Z))), (8, .ros ((fldQ Z H ls[b]).map n64) (H * Z) (some (H * Z))), (9, i64 ((m : Nat) : Int)), (10, i64 (((i + 1) : Nat) : Int))]) (H' := []) (n := 0) (H * Z - (i + 1)) ⟨i + 1, m, (by omega), (by rw [brK_step hci, ← hi0_1, hend]), rfl, rfl⟩ (by omega) id ⟨eD rfl rfl, eD rfl rfl, eD rfl rfl, eD rfl rfl, eD rfl rfl, trivial⟩ trivial rfl rfl rfl rfl (fun _ _ => rfl)
  · refine W_exit rfl ?_
    refine thenQ_x ?_
    refine thenQ_x ?_
    refine blkQ_x rfl ?_
    refine thenQ_n ?_
    refine W_seq rfl ?_
    refine W_reg rfl ?_
    refine Rv rfl rfl rfl (U_move rfl) rfl rfl ?_
    refine Rv rfl rfl rfl (U_assign rfl) rfl rfl ?_
    refine Re rfl ?_
    refine thenQ_n ?_
    refine W_ret rfl ?_
    exact retL (rlT rfl rl0) (by first | rfl | (simp only [packA]; rw [hi0_1, ← brK_all, plcQ_len, show i = Z * H by omega]; first | done | rfl)) rfl
theorem met_fld {Z H : Nat} {la lb : List Bx} {i : Nat} (hi : i < Z * H) (h1 : (fldQ Z H la).getD i 0 = 1) (h2 : (fldQ Z H lb).getD i 0 = 1) : metQ Z H la lb = true := by
  have hH : 0 < H := by rcases Nat.eq_zero_or_pos H with e | e; subst e; omega; exact e
  have hA : i < (fldQ Z H la).length := by rw [fldQ_len]; exact hi
  have hB : i < (fldQ Z H lb).length := by rw [fldQ_len]; exact hi
  rw [getD_at hA, fldQ_get hA, bitQ] at h1
  rw [getD_at hB, fldQ_get hB, bitQ] at h2
  refine met_true (Nat.div_lt_of_lt_mul (by rw [Nat.mul_comm]; exact hi)) (Nat.mod_lt i hH) ?_ ?_
  · exact Decidable.byContradiction fun h => by rw [if_neg h] at h1; cases h1
  · exact Decidable.byContradiction fun h => by rw [if_neg h] at h2; cases h2
theorem met_no {Z H : Nat} {la lb : List Bx} (h : ∀ i, i < Z * H → ¬ ((fldQ Z H la).getD i 0 = 1 ∧ (fldQ Z H lb).getD i 0 = 1)) : metQ Z H la lb = false := by
  refine met_false fun z x hz hx h2 => h (z * H + x) (zh_lt hz hx) ?_
  have hd := zh_div (z := z) hx
  have hA : z * H + x < (fldQ Z H la).length := by rw [fldQ_len]; exact zh_lt hz hx
  have hB : z * H + x < (fldQ Z H lb).length := by rw [fldQ_len]; exact zh_lt hz hx
  rw [getD_at hA, fldQ_get hA, getD_at hB, fldQ_get hB, hd.1, hd.2, bitQ, bitQ, if_pos h2.1, if_pos h2.2]
  exact ⟨rfl, rfl⟩
theorem meet_p (H Z : Nat) (ls : List (List Bx)) (c : Option Nat) (hv : VS ⟨H, Z, ls⟩ H Z) (a b : Nat) (ha : a < ls.length) (hb : b < ls.length) : Pure Try.prog 56 [.agg [i64 (H : Nat), i64 (Z : Nat), landsA ls c], i64 (a : Nat), i64 (b : Nat)] (.bool (metQ Z H ls[a] ls[b])) := by
  have hv' := hv
  obtain ⟨_, _, hH, hZ1, hln, hlb, hbx⟩ := hv'
  simp only at hln hlb hbx
  have hZ := hZ1.2
  have hHZ : Z * H ≤ 1152 := Nat.mul_le_mul hZ hH.2
  have hHZc : H * Z = Z * H := Nat.mul_comm _ _
  have hfal : (fldQ Z H ls[a]).length = Z * H := fldQ_len
  have hfbl : (fldQ Z H ls[b]).length = Z * H := fldQ_len
  refine pure_of_body Try.func56 (c := body Try.f56) rfl (by simp [Try.ntmps56]) fun w0 Φ0 => ?_
  refine W_seq rfl ?_
  refine W_reg rfl ?_
  refine Rv rfl rfl rfl (U_boxF rfl rfl rfl) rfl rfl ?_
  refine Rv rfl rfl rfl (U_assign rfl) rfl rfl ?_
  refine Re rfl ?_
  refine thenQ_n ?_
  refine W_seq rfl ?_
  refine Wdraw rfl (by kernel_rfl) (by kernel_rfl) ?_
  refine Dv rfl rfl rfl (U_load3 rfl rfl rfl rfl rfl) rfl rfl ?_
  refine Dv rfl rfl rfl (U_move rfl) rfl rfl ?_
  refine Dv rfl rfl rfl (U_call rfl rfl (field_p H Z ls c hv a (by omega)) rfl) rfl rfl ?_
  refine Dv rfl rfl rfl (U_load3 rfl rfl rfl rfl rfl) rfl rfl ?_
  refine Dv rfl rfl rfl (U_move rfl) rfl rfl ?_
  refine Dv rfl rfl rfl (U_call rfl rfl (field_p H Z ls c hv b (by omega)) rfl) rfl rfl ?_
  refine Dv rfl rfl rfl (U_assign rfl) rfl rfl ?_
  refine Dv rfl rfl rfl (U_assign rfl) rfl rfl ?_
  refine Dr.nil rfl ?_
  refine thenQ_n ?_
  refine W_seq rfl ?_
  refine W_seq rfl ?_
  refine W_reg rfl ?_
  refine Rv rfl rfl rfl (U_assign rfl) rfl rfl ?_
  refine Re rfl ?_
  refine thenQ_n ?_
  refine W_block rfl ?_
  refine LoopTo (T' := [(7, .ros ((fldQ Z H ls[a]).map n64) (H * Z) (some (H * Z))), (8, .ros ((fldQ Z H ls[b]).map n64) (H * Z) (some (H * Z))), (9, i64 ((0 : Nat) : Int))]) (H' := []) (n := 0) rfl (fun mz_ qz_ => ∃ (i : Nat), i ≤ H * Z ∧ ((∀ j, j < i → ¬ ((fldQ Z H ls[a]).getD j 0 = 1 ∧ (fldQ Z H ls[b]).getD j 0 = 1))) ∧ mz_ = H * Z - i ∧ qz_ = ⟨[(7, .ros ((fldQ Z H ls[a]).map n64) (H * Z) (some (H * Z))), (8, .ros ((fldQ Z H ls[b]).map n64) (H * Z) (some (H * Z))), (9, i64 ((i : Nat) : Int))], [], 0, []⟩) ⟨0, (by omega), (fun j h => absurd h (Nat.not_lt_zero _)), rfl, rfl⟩ id ⟨eD rfl rfl, eD rfl rfl, eD rfl rfl, trivial⟩ trivial rfl rfl rfl rfl (fun _ _ => rfl) ?_
  rintro _ _ ⟨i, hi0_0, hi0_1, rfl, rfl⟩
  refine W_seq rfl ?_
  refine W_seq rfl ?_
  refine W_reg rfl ?_
  refine Rv rfl rfl rfl (U_move rfl) rfl rfl ?_
  refine Rv rfl rfl rfl (U_move rfl) rfl rfl ?_
  refine Rv rfl rfl rfl (U_lenOf rfl len_ros) rfl rfl ?_
  refine Rv rfl rfl rfl (U_lss rfl rfl) rfl rfl ?_
  refine Re rfl ?_
  refine thenQ_n ?_
  refine WcondP rfl rfl (fun hc0 => ?_) (fun hc0 => ?_)
  · have hci : i < Z * H := by omega
    refine W_skip rfl ?_
    refine thenQ_n ?_
    refine W_seq rfl ?_
    refine W_block rfl ?_
    refine W_seq rfl ?_
    refine Wjoin ⟨[(7, .ros ((fldQ Z H ls[a]).map n64) (H * Z) (some (H * Z))), (8, .ros ((fldQ Z H ls[b]).map n64) (H * Z) (some (H * Z))), (9, i64 ((i : Nat) : Int)), (33, .bool ((decide ((((fldQ Z H ls[a])[i] : Nat) : Int) = 1)) && (decide ((((fldQ Z H ls[b])[i] : Nat) : Int) = 1))))], [], 0, []⟩ ?_ ?_
    · refine W_reg rfl ?_
      refine Rv rfl rfl rfl (U_move rfl) rfl rfl ?_
      refine Rv rfl rfl rfl (U_move rfl) rfl rfl ?_
      have hx1 : i < (fldQ Z H ls[a]).length := by omega
      refine Rv rfl rfl rfl (U_indexR (j := i) rfl rfl rfl (by omega)) rfl rfl ?_
      refine Rv rfl rfl rfl (U_load1 rfl rfl (getM hx1)) rfl rfl ?_
      refine Rv rfl rfl rfl (U_eql rfl rfl) rfl rfl ?_
      refine Rv rfl rfl rfl (U_move rfl) rfl rfl ?_
      refine Rsplit (t := 27) rfl (fun hg2 => ?_) (fun hg2 => ?_)
      · rw [hg2]
        have hg2' : (((fldQ Z H ls[a])[i] : Nat) : Int) = 1 := of_decide_eq_true hg2
        refine Rv rfl rfl rfl (U_move rfl) rfl rfl ?_
        refine Rv rfl rfl rfl (U_move rfl) rfl rfl ?_
        have hx3 : i < (fldQ Z H ls[b]).length := by omega
        refine Rv rfl rfl rfl (U_indexR (j := i) rfl rfl rfl (by omega)) rfl rfl ?_
        refine Rv rfl rfl rfl (U_load1 rfl rfl (getM hx3)) rfl rfl ?_
        refine Rv rfl rfl rfl (U_eql rfl rfl) rfl rfl ?_
        refine Rv rfl rfl rfl (U_pick_t rfl rfl) rfl rfl ?_
        refine Re rfl ?_
        exact joinTo id ⟨eD rfl rfl, eD rfl rfl, eD rfl rfl, eD rfl rfl, trivial⟩ trivial rfl rfl rfl rfl (fun _ _ => rfl)
      · rw [hg2]
        have hg2' : ¬ ((((fldQ Z H ls[a])[i] : Nat) : Int) = 1) := of_decide_eq_false hg2
        refine Rs rfl rfl rfl rfl rfl ?_
        refine Rs rfl rfl rfl rfl rfl ?_
        refine Rs rfl rfl rfl rfl rfl ?_
        refine Rs rfl rfl rfl rfl rfl ?_
        refine Rs rfl rfl rfl rfl rfl ?_
        refine Rv rfl rfl rfl (U_pick_f rfl rfl) rfl rfl ?_
        refine Re rfl ?_
        exact joinTo id ⟨eD rfl rfl, eD rfl rfl, eD rfl rfl, eD rfl rfl, trivial⟩ trivial rfl rfl rfl rfl (fun _ _ => rfl)
    refine thenQ_n ?_
    refine Wcond rfl rfl (fun hc1 => ?_) (fun hc1 => ?_)
    · refine W_seq rfl ?_
      refine W_reg rfl ?_
      refine Rv rfl rfl rfl (U_assign rfl) rfl rfl ?_
      refine Re rfl ?_
      refine thenQ_n ?_
      refine W_ret rfl ?_
      refine blkQ_r ?_
      refine thenQ_r ?_
      refine thenQ_r ?_
      refine blkQ_r ?_
      refine thenQ_r ?_
      exact retL (rlT rfl rl0) (by first | rfl | (simp only [packA]; rw [met_fld hci (by rw [getD_at (by omega)]; simp at hc1; omega) (by rw [getD_at (by omega)]; simp at hc1; omega)]; first | done | rfl) | (simp only [packA]; rw [met_no fun j hj => hi0_1 j (by omega)]; first | done | rfl)) rfl
    · have hc1' := Bool.eq_false_iff.1 hc1
      refine W_skip rfl ?_
      refine blkQ_n ?_
      refine thenQ_n ?_
      refine W_reg rfl ?_
      refine Rv rfl rfl rfl (U_move rfl) rfl rfl ?_
      refine Rv rfl rfl rfl (U_add rfl rfl (w64e (m := ((i + 1 : Nat) : Int)) (by omega) (by omega) (by omega))) rfl rfl ?_
      refine Rv rfl rfl rfl (U_assign rfl) rfl rfl ?_
      refine Re rfl ?_
      refine thenQ_n ?_
      exact againTo (T' := [(7, .ros ((fldQ Z H ls[a]).map n64) (H * Z) (some (H * Z))), (8, .ros ((fldQ Z H ls[b]).map n64) (H * Z) (some (H * Z))), (9, i64 (((i + 1) : Nat) : Int))]) (H' := []) (n := 0) (H * Z - (i + 1)) ⟨i + 1, (by omega), (by intro j h; rcases Nat.lt_succ_iff_lt_or_eq.1 h with h | rfl; exact hi0_1 j h; rw [getD_at (by omega), getD_at (by omega)]; simp at hc1; omega), rfl, rfl⟩ (by omega) id ⟨eD rfl rfl, eD rfl rfl, eD rfl rfl, trivial⟩ trivial rfl rfl rfl rfl (fun _ _ => rfl)
  · refine W_exit rfl ?_
    refine thenQ_x ?_
    refine thenQ_x ?_
    refine blkQ_x rfl ?_
    refine thenQ_n ?_
    refine W_seq rfl ?_
    refine W_reg rfl ?_
    refine Rv rfl rfl rfl (U_assign rfl) rfl rfl ?_
    refine Re rfl ?_
    refine thenQ_n ?_
    refine W_ret rfl ?_
    exact retL (rlT rfl rl0) (by first | rfl | (simp only [packA]; rw [met_fld hci (by rw [getD_at (by omega)]; simp at hc1; omega) (by rw [getD_at (by omega)]; simp at hc1; omega)]; first | done | rfl) | (simp only [packA]; rw [met_no fun j hj => hi0_1 j (by omega)]; first | done | rfl)) rfl
theorem nearR_p (H Z : Nat) (ls : List (List Bx)) (c : Option Nat) (hv : VS ⟨H, Z, ls⟩ H Z) (a b : Nat) (ha : a < ls.length) (hb : b < ls.length) : Pure Try.prog 83 [.agg [i64 (H : Nat), i64 (Z : Nat), landsA ls c], i64 (a : Nat), i64 (b : Nat)] (.bool (nrQ Z H ls[a] ls[b])) := by
  have hv' := hv
  obtain ⟨_, _, hH, hZ1, hln, hlb, hbx⟩ := hv'
  simp only at hln hlb hbx
  have hZ := hZ1.2
  have hHZ : Z * H ≤ 1152 := Nat.mul_le_mul hZ hH.2
  have hHZc : H * Z = Z * H := Nat.mul_comm _ _
  refine pure_of_body Try.func83 (c := body Try.f83) rfl (by simp [Try.ntmps83]) fun w0 Φ0 => ?_
  refine W_seq rfl ?_
  refine W_reg rfl ?_
  refine Rv rfl rfl rfl (U_boxF rfl rfl rfl) rfl rfl ?_
  refine Rv rfl rfl rfl (U_assign rfl) rfl rfl ?_
  refine Re rfl ?_
  refine thenQ_n ?_
  refine W_seq rfl ?_
  refine Wjoin ⟨[(6, .bool ((metQ Z H ls[a] ls[b]) || (decide (0 < ((brQ Z H ls[a] ls[b] : Nat) : Int)))))], [], 0, []⟩ ?_ ?_
  · refine W_reg rfl ?_
    refine Rv rfl rfl rfl (U_load3 rfl rfl rfl rfl rfl) rfl rfl ?_
    refine Rv rfl rfl rfl (U_move rfl) rfl rfl ?_
    refine Rv rfl rfl rfl (U_move rfl) rfl rfl ?_
    refine Rv rfl rfl rfl (U_call rfl rfl (meet_p H Z ls c hv a b (by omega) (by omega)) rfl) rfl rfl ?_
    refine Rv rfl rfl rfl (U_move rfl) rfl rfl ?_
    refine Rsplit (t := 11) rfl (fun hg1 => ?_) (fun hg1 => ?_)
    · rw [hg1]
      refine Rs rfl rfl rfl rfl rfl ?_
      refine Rs rfl rfl rfl rfl rfl ?_
      refine Rs rfl rfl rfl rfl rfl ?_
      refine Rs rfl rfl rfl rfl rfl ?_
      refine Rs rfl rfl rfl rfl rfl ?_
      refine Rv rfl rfl rfl (U_pick_t rfl rfl) rfl rfl ?_
      refine Rv rfl rfl rfl (U_assign rfl) rfl rfl ?_
      refine Re rfl ?_
      exact joinTo id ⟨eD rfl rfl, trivial⟩ trivial rfl rfl rfl rfl (fun _ _ => rfl)
    · rw [hg1]
      refine Rv rfl rfl rfl (U_load3 rfl rfl rfl rfl rfl) rfl rfl ?_
      refine Rv rfl rfl rfl (U_move rfl) rfl rfl ?_
      refine Rv rfl rfl rfl (U_move rfl) rfl rfl ?_
      refine Rv rfl rfl rfl (U_call rfl rfl (borderR_p H Z ls c hv a b (by omega) (by omega)) rfl) rfl rfl ?_
      refine Rv rfl rfl rfl (U_gtr rfl rfl) rfl rfl ?_
      refine Rv rfl rfl rfl (U_pick_f rfl rfl) rfl rfl ?_
      refine Rv rfl rfl rfl (U_assign rfl) rfl rfl ?_
      refine Re rfl ?_
      exact joinTo id ⟨eD rfl rfl, trivial⟩ trivial rfl rfl rfl rfl (fun _ _ => rfl)
  refine thenQ_n ?_
  refine W_ret rfl ?_
  exact retL (rlT rfl rl0) (by first | rfl | (simp only [packA]; rw [nrQ]; congr 1; cases metQ Z H ls[a] ls[b] <;> simp; first | done | rfl) | (simp only [packA]; congr 1; rw [nrQ]; cases metQ Z H ls[a] ls[b] <;> simp; first | done | rfl)) rfl
end Go.Proofs.Ythlolelbmhfdbaa
end

section
namespace Go.Proofs.Ythlolelbmhfdbaa
set_option maxRecDepth 20000
open Go.AE
theorem chkSRG_p (H Z : Nat) (ls : List (List Bx)) (c : Option Nat) (hc : chkS ⟨H, Z, ls⟩ = 0) (hv : VS ⟨H, Z, ls⟩ H Z) : Pure Try.prog 23 [.agg [i64 (H : Nat), i64 (Z : Nat), landsA ls c]] (i64 0) := by
  have := chkSR_p ⟨H, Z, ls⟩ c hv.hl hv.hbl
  rwa [hc] at this
end Go.Proofs.Ythlolelbmhfdbaa
end

section
namespace Go.Proofs.Ythlolelbmhfdbaa
set_option maxRecDepth 20000
open Go.AE
theorem different_p (l : List Int) (c : Option Nat) (hl : l.length ≤ 1000000) : Pure Try.prog 86 [intsA l c] (i64 ((difQ l : Nat) : Int)) := by
  refine pure_of_body Try.func86 (c := body Try.f86) rfl (by simp [Try.ntmps86]) fun w0 Φ0 => ?_
  refine W_seq rfl ?_
  refine W_reg rfl ?_
  refine Rv rfl rfl rfl (U_assign rfl) rfl rfl ?_
  refine Re rfl ?_
  refine thenQ_n ?_
  refine W_seq rfl ?_
  refine W_reg rfl ?_
  refine Rv rfl rfl rfl (U_assign rfl) rfl rfl ?_
  refine Re rfl ?_
  refine thenQ_n ?_
  refine W_seq rfl ?_
  refine W_seq rfl ?_
  refine W_reg rfl ?_
  refine Rv rfl rfl rfl (U_assign rfl) rfl rfl ?_
  refine Re rfl ?_
  refine thenQ_n ?_
  refine W_block rfl ?_
  refine LoopTo (T' := [(0, .ros (l.map i64) l.length c), (3, i64 ((0 : Nat) : Int)), (4, i64 ((0 : Nat) : Int))]) (H' := []) (n := 0) rfl (fun mz_ qz_ => ∃ (k : Nat) (n : Nat), k ≤ l.length ∧ n = difK l k ∧ mz_ = l.length - k ∧ qz_ = ⟨[(0, .ros (l.map i64) l.length c), (3, i64 ((n : Nat) : Int)), (4, i64 ((k : Nat) : Int))], [], 0, []⟩) ⟨0, 0, (by omega), rfl, rfl, rfl⟩ id ⟨eD rfl rfl, eD rfl rfl, eD rfl rfl, trivial⟩ trivial rfl rfl rfl rfl (fun _ _ => rfl) ?_
  rintro _ _ ⟨k, n, hi0_0, hi0_1, rfl, rfl⟩
  have hnk : n ≤ k := by rw [hi0_1]; exact difK_le
  refine W_seq rfl ?_
  refine W_seq rfl ?_
  refine W_reg rfl ?_
  refine Rv rfl rfl rfl (U_move rfl) rfl rfl ?_
  refine Rv rfl rfl rfl (U_move rfl) rfl rfl ?_
  refine Rv rfl rfl rfl (U_lenOf rfl len_ros) rfl rfl ?_
  refine Rv rfl rfl rfl (U_lss rfl rfl) rfl rfl ?_
  refine Re rfl ?_
  refine thenQ_n ?_
  refine WcondP rfl rfl (fun hc0 => ?_) (fun hc0 => ?_)
  · have hck : k < l.length := by omega
    refine W_skip rfl ?_
    refine thenQ_n ?_
    refine W_seq rfl ?_
    refine W_block rfl ?_
    refine W_seq rfl ?_
    refine W_reg rfl ?_
    refine Rv rfl rfl rfl (U_assign rfl) rfl rfl ?_
    refine Re rfl ?_
    refine thenQ_n ?_
    refine W_seq rfl ?_
    refine W_seq rfl ?_
    refine W_reg rfl ?_
    refine Rv rfl rfl rfl (U_assign rfl) rfl rfl ?_
    refine Re rfl ?_
    refine thenQ_n ?_
    refine W_block rfl ?_
    refine LoopTo (T' := [(0, .ros (l.map i64) l.length c), (3, i64 ((n : Nat) : Int)), (4, i64 ((k : Nat) : Int)), (5, i64 ((1 : Nat) : Int)), (6, i64 ((0 : Nat) : Int))]) (H' := []) (n := 0) rfl (fun mz_ qz_ => ∃ (j : Nat) (f : Nat), j ≤ k ∧ f ≤ 1 ∧ ((f = 1 → ∀ i (hi : i < l.length), i < j → l[i] ≠ l[k])) ∧ ((f = 0 → ∃ i, ∃ (_ : i < k) (hi : i < l.length), l[i] = l[k])) ∧ mz_ = k - j ∧ qz_ = ⟨[(0, .ros (l.map i64) l.length c), (3, i64 ((n : Nat) : Int)), (4, i64 ((k : Nat) : Int)), (5, i64 ((f : Nat) : Int)), (6, i64 ((j : Nat) : Int))], [], 0, []⟩) ⟨0, 1, (by omega), (Nat.le_refl _), (fun _ i _ h => absurd h (Nat.not_lt_zero _)), nofun, rfl, rfl⟩ id ⟨eD rfl rfl, eD rfl rfl, eD rfl rfl, eD rfl rfl, eD rfl rfl, trivial⟩ trivial rfl rfl rfl rfl (fun _ _ => rfl) ?_
    rintro _ _ ⟨j, f, hi1_0, hi1_1, hi1_2, hi1_3, rfl, rfl⟩
    refine W_seq rfl ?_
    refine W_seq rfl ?_
    refine W_reg rfl ?_
    refine Rv rfl rfl rfl (U_move rfl) rfl rfl ?_
    refine Rv rfl rfl rfl (U_move rfl) rfl rfl ?_
    refine Rv rfl rfl rfl (U_lss rfl rfl) rfl rfl ?_
    refine Re rfl ?_
    refine thenQ_n ?_
    refine WcondP rfl rfl (fun hc1 => ?_) (fun hc1 => ?_)
    · refine W_skip rfl ?_
      refine thenQ_n ?_
      refine W_seq rfl ?_
      refine W_block rfl ?_
      refine W_seq rfl ?_
      refine Wdraw rfl (by kernel_rfl) (by kernel_rfl) ?_
      refine Dv rfl rfl rfl (U_move rfl) rfl rfl ?_
      refine Dv rfl rfl rfl (U_move rfl) rfl rfl ?_
      have hx1 : j < l.length := by omega
      refine Dv rfl rfl rfl (U_indexR (j := j) rfl rfl rfl hx1) rfl rfl ?_
      refine Dv rfl rfl rfl (U_load1 rfl rfl (getM hx1)) rfl rfl ?_
      refine Dv rfl rfl rfl (U_move rfl) rfl rfl ?_
      refine Dv rfl rfl rfl (U_move rfl) rfl rfl ?_
      have hx2 : k < l.length := by omega
      refine Dv rfl rfl rfl (U_indexR (j := k) rfl rfl rfl hx2) rfl rfl ?_
      refine Dv rfl rfl rfl (U_load1 rfl rfl (getM hx2)) rfl rfl ?_
      refine Dv rfl rfl rfl (U_eql rfl rfl) rfl rfl ?_
      refine Dr.nil rfl ?_
      refine thenQ_n ?_
      refine WcondP rfl rfl (fun hc2 => ?_) (fun hc2 => ?_)
      · refine W_reg rfl ?_
        refine Rv rfl rfl rfl (U_assign rfl) rfl rfl ?_
        refine Re rfl ?_
        refine blkQ_n ?_
        refine thenQ_n ?_
        refine W_reg rfl ?_
        refine Rv rfl rfl rfl (U_move rfl) rfl rfl ?_
        refine Rv rfl rfl rfl (U_add rfl rfl (w64e (m := ((j + 1 : Nat) : Int)) (by omega) (by omega) (by omega))) rfl rfl ?_
        refine Rv rfl rfl rfl (U_assign rfl) rfl rfl ?_
        refine Re rfl ?_
        refine thenQ_n ?_
        exact againTo (T' := [(0, .ros (l.map i64) l.length c), (3, i64 ((n : Nat) : Int)), (4, i64 ((k : Nat) : Int)), (5, i64 ((0 : Nat) : Int)), (6, i64 (((j + 1) : Nat) : Int))]) (H' := []) (n := 0) (k - (j + 1)) ⟨j + 1, 0, (by omega), (by omega), (by first | (intro h; exact absurd h (by decide)) | (intro h i hi h2; rcases Nat.lt_succ_iff_lt_or_eq.1 h2 with h2 | rfl; exact hi1_2 h i hi h2; exact fun e => hc2 e)), (by first | exact fun _ => ⟨j, by omega, by omega, hc2⟩ | exact hi1_3), rfl, rfl⟩ (by omega) id ⟨eD rfl rfl, eD rfl rfl, eD rfl rfl, eD rfl rfl, eD rfl rfl, trivial⟩ trivial rfl rfl rfl rfl (fun _ _ => rfl)
      · refine W_skip rfl ?_
        refine blkQ_n ?_
        refine thenQ_n ?_
        refine W_reg rfl ?_
        refine Rv rfl rfl rfl (U_move rfl) rfl rfl ?_
        refine Rv rfl rfl rfl (U_add rfl rfl (w64e (m := ((j + 1 : Nat) : Int)) (by omega) (by omega) (by omega))) rfl rfl ?_
        refine Rv rfl rfl rfl (U_assign rfl) rfl rfl ?_
        refine Re rfl ?_
        refine thenQ_n ?_
        exact againTo (T' := [(0, .ros (l.map i64) l.length c), (3, i64 ((n : Nat) : Int)), (4, i64 ((k : Nat) : Int)), (5, i64 ((f : Nat) : Int)), (6, i64 (((j + 1) : Nat) : Int))]) (H' := []) (n := 0) (k - (j + 1)) ⟨j + 1, f, (by omega), (by omega), (by first | (intro h; exact absurd h (by decide)) | (intro h i hi h2; rcases Nat.lt_succ_iff_lt_or_eq.1 h2 with h2 | rfl; exact hi1_2 h i hi h2; exact fun e => hc2 e)), (by first | exact fun _ => ⟨j, by omega, by omega, hc2⟩ | exact hi1_3), rfl, rfl⟩ (by omega) id ⟨eD rfl rfl, eD rfl rfl, eD rfl rfl, eD rfl rfl, eD rfl rfl, trivial⟩ trivial rfl rfl rfl rfl (fun _ _ => rfl)
    · have hfr1 : (f = 1 → ∀ i (hi : i < l.length), i < k → l[i] ≠ l[k]) ∧ (f = 0 → ∃ i, ∃ (_ : i < k) (hi : i < l.length), l[i] = l[k]) := ⟨fun h i hi h2 => hi1_2 h i hi (by omega), hi1_3⟩
      have hf01 : f = 0 ∨ f = 1 := by omega
      have hstepn : n + f = difK l (k + 1) := by rcases hf01 with h | h; obtain ⟨i0, h1, h2, h3⟩ := hfr1.2 h; rw [difK_f hck h1 h3, hi0_1, h]; rfl; rw [difK_t hck (hfr1.1 h), hi0_1, h]
      refine W_exit rfl ?_
      refine thenQ_x ?_
      refine thenQ_x ?_
      refine blkQ_x rfl ?_
      refine thenQ_n ?_
      refine W_reg rfl ?_
      refine Rv rfl rfl rfl (U_move rfl) rfl rfl ?_
      refine Rv rfl rfl rfl (U_move rfl) rfl rfl ?_
      refine Rv rfl rfl rfl (U_add rfl rfl (w64e (m := ((n + f : Nat) : Int)) (by omega) (by omega) (by omega))) rfl rfl ?_
      refine Rv rfl rfl rfl (U_assign rfl) rfl rfl ?_
      refine Re rfl ?_
      refine blkQ_n ?_
      refine thenQ_n ?_
      refine W_reg rfl ?_
      refine Rv rfl rfl rfl (U_move rfl) rfl rfl ?_
      refine Rv rfl rfl rfl (U_add rfl rfl (w64e (m := ((k + 1 : Nat) : Int)) (by omega) (by omega) (by omega))) rfl rfl ?_
      refine Rv rfl rfl rfl (U_assign rfl) rfl rfl ?_
      refine Re rfl ?_
      refine thenQ_n ?_
      exact againTo (T' := [(0, .ros (l.map i64) l.length c), (3, i64 (((n + f) : Nat) : Int)), (4, i64 (((k + 1) : Nat) : Int))]) (H' := []) (n := 0) (l.length - (k + 1)) ⟨k + 1, n + f, (by omega), (hstepn), rfl, rfl⟩ (by omega) id ⟨eD rfl rfl, eD rfl rfl, eD rfl rfl, trivial⟩ trivial rfl rfl rfl rfl (fun _ _ => rfl)
  · refine W_exit rfl ?_
    refine thenQ_x ?_
    refine thenQ_x ?_
    refine blkQ_x rfl ?_
    refine thenQ_n ?_
    refine W_seq rfl ?_
    refine W_reg rfl ?_
    refine Rv rfl rfl rfl (U_move rfl) rfl rfl ?_
    refine Rv rfl rfl rfl (U_assign rfl) rfl rfl ?_
    refine Re rfl ?_
    refine thenQ_n ?_
    refine W_ret rfl ?_
    exact retL (rlT rfl rl0) (by first | rfl | (simp only [packA]; rw [hi0_1, show k = l.length by omega]; rfl; first | done | rfl)) rfl
def tabB (Z H : Nat) (ls : List (List Bx)) (x y : Nat) : Bool := if y < x then nrQ Z H (ls.getD x []) (ls.getD y []) else if x < y then nrQ Z H (ls.getD y []) (ls.getD x []) else false
def tabD (i k x y : Nat) : Bool := decide (max x y < i) || decide (max x y = i) && decide (min x y < k)
def tabK (Z H : Nat) (ls : List (List Bx)) (i k : Nat) : List Nat := (List.range (ls.length * ls.length)).map fun e => bif tabD i k (e / ls.length) (e % ls.length) && tabB Z H ls (e / ls.length) (e % ls.length) then 1 else 0
def tabQ (Z H : Nat) (ls : List (List Bx)) : List Nat := tabK Z H ls ls.length 0
theorem tabK_len {Z H i k : Nat} {ls : List (List Bx)} : (tabK Z H ls i k).length = ls.length * ls.length := by simp [tabK]
theorem tabK_0 {Z H : Nat} {ls : List (List Bx)} : tabK Z H ls 0 0 = List.replicate (ls.length * ls.length) 0 := by
  apply List.ext_getElem (by simp [tabK])
  intro e h1 h2
  simp [tabK, tabD]
theorem tabK_row {Z H i : Nat} {ls : List (List Bx)} : tabK Z H ls i i = tabK Z H ls (i + 1) 0 := by
  refine List.map_congr_left fun e he => ?_
  by_cases hxy : e / ls.length = e % ls.length
  · have : tabB Z H ls (e / ls.length) (e % ls.length) = false := by unfold tabB; rw [hxy]; simp
    rw [this, Bool.and_false, Bool.and_false]
  · have : tabD i i (e / ls.length) (e % ls.length) = tabD (i + 1) 0 (e / ls.length) (e % ls.length) := by
      unfold tabD; rw [Bool.eq_iff_iff]; simp; omega
    rw [this]
theorem tabK_f {Z H i k : Nat} {ls : List (List Bx)} (hk : k < i) (h : nrQ Z H (ls.getD i []) (ls.getD k []) = false) : tabK Z H ls i k = tabK Z H ls i (k + 1) := by
  refine List.map_congr_left fun e he => ?_
  by_cases hxy : max (e / ls.length) (e % ls.length) = i ∧ min (e / ls.length) (e % ls.length) = k
  · have : tabB Z H ls (e / ls.length) (e % ls.length) = false := by
      unfold tabB; split
      · rename_i h1; rw [show e / ls.length = i by omega, show e % ls.length = k by omega]; exact h
      · split
        · rename_i h1; rw [show e / ls.length = k by omega, show e % ls.length = i by omega]; exact h
        · rfl
    rw [this, Bool.and_false, Bool.and_false]
  · have : tabD i k (e / ls.length) (e % ls.length) = tabD i (k + 1) (e / ls.length) (e % ls.length) := by
      unfold tabD; rw [Bool.eq_iff_iff]; simp; omega
    rw [this]
theorem tabK_t {Z H i k : Nat} {ls : List (List Bx)} (hi : i < ls.length) (hk : k < i) (h : nrQ Z H (ls.getD i []) (ls.getD k []) = true) : ((tabK Z H ls i k).set (i * ls.length + k) 1).set (k * ls.length + i) 1 = tabK Z H ls i (k + 1) := by
  have d1 := zh_div (H := ls.length) (z := i) (h := k) (by omega)
  have d2 := zh_div (H := ls.length) (z := k) (h := i) hi
  apply List.ext_getElem (by simp [tabK])
  intro e h1 h2
  rw [List.getElem_set, List.getElem_set]
  simp only [tabK, List.getElem_map, List.getElem_range]
  by_cases e2 : k * ls.length + i = e
  · subst e2
    rw [if_pos rfl, d2.1, d2.2]
    have a1 : tabD i (k + 1) k i = true := by unfold tabD; rw [Bool.or_eq_true, Bool.and_eq_true]; simp; omega
    have a2 : tabB Z H ls k i = true := by unfold tabB; rw [if_neg (by omega), if_pos hk]; exact h
    rw [a1, a2]; rfl
  · rw [if_neg e2]
    by_cases e1 : i * ls.length + k = e
    · subst e1
      rw [if_pos rfl, d1.1, d1.2]
      have a1 : tabD i (k + 1) i k = true := by unfold tabD; rw [Bool.or_eq_true, Bool.and_eq_true]; simp; omega
      have a2 : tabB Z H ls i k = true := by unfold tabB; rw [if_pos hk]; exact h
      rw [a1, a2]; rfl
    · rw [if_neg e1]
      have hdm := Nat.div_add_mod e ls.length
      rw [Nat.mul_comm] at hdm
      have : tabD i k (e / ls.length) (e % ls.length) = tabD i (k + 1) (e / ls.length) (e % ls.length) := by
        have n1 : ¬ (e / ls.length = i ∧ e % ls.length = k) := fun h => e1 (by rw [h.1, h.2] at hdm; exact hdm)
        have n2 : ¬ (e / ls.length = k ∧ e % ls.length = i) := fun h => e2 (by rw [h.1, h.2] at hdm; exact hdm)
        unfold tabD; rw [Bool.eq_iff_iff]; simp; omega
      rw [this]
theorem table_p (H Z : Nat) (ls : List (List Bx)) (c : Option Nat) (hv : VS ⟨H, Z, ls⟩ H Z) : Pure Try.prog 85 [.agg [i64 (H : Nat), i64 (Z : Nat), landsA ls c]] (fldA (tabQ Z H ls) (ls.length * ls.length)) := by
  have hv' := hv
  obtain ⟨_, _, hH, hZ1, hln, hlb, hbx⟩ := hv'
  simp only at hln hlb hbx
  have hZ := hZ1.2
  have hHZ : Z * H ≤ 1152 := Nat.mul_le_mul hZ hH.2
  have hHZc : H * Z = Z * H := Nat.mul_comm _ _
  have hll : ls.length * ls.length ≤ 100 := Nat.mul_le_mul hln hln
  refine pure_of_body Try.func85 (c := body Try.f85) rfl (by simp [Try.ntmps85]) fun w0 Φ0 => ?_
  refine W_seq rfl ?_
  refine W_reg rfl ?_
  refine Rv rfl rfl rfl (U_boxF rfl rfl rfl) rfl rfl ?_
  refine Rv rfl rfl rfl (U_assign rfl) rfl rfl ?_
  refine Re rfl ?_
  refine thenQ_n ?_
  refine W_seq rfl ?_
  refine W_reg rfl ?_
  refine Rv rfl rfl rfl (U_fieldAddrR rfl) rfl rfl ?_
  refine Rv rfl rfl rfl (U_load1 rfl rfl rfl) rfl rfl ?_
  refine Rv rfl rfl rfl (U_lenOf rfl len_ros) rfl rfl ?_
  refine Rv rfl rfl rfl (U_assign rfl) rfl rfl ?_
  refine Re rfl ?_
  refine thenQ_n ?_
  refine W_seq rfl ?_
  refine W_reg rfl ?_
  refine Rv rfl rfl rfl (U_move rfl) rfl rfl ?_
  refine Rv rfl rfl rfl (U_move rfl) rfl rfl ?_
  refine Rv rfl rfl rfl (U_mul rfl rfl (w64e (m := ((ls.length * ls.length : Nat) : Int)) (by omega) (by omega) (by omega))) rfl rfl ?_
  refine Ra rfl rfl rfl (U_mkL (n := ls.length * ls.length) (cs' := (List.replicate (ls.length * ls.length) (0 : Nat)).map n64) rfl rfl rfl (by omega) (replM rfl _)) rfl rfl rfl ?_
  refine Rv rfl rfl rfl (U_assign rfl) rfl rfl ?_
  refine Re rfl ?_
  refine thenQ_n ?_
  refine W_seq rfl ?_
  refine W_seq rfl ?_
  refine W_reg rfl ?_
  refine Rv rfl rfl rfl (U_assign rfl) rfl rfl ?_
  refine Re rfl ?_
  refine thenQ_n ?_
  refine W_block rfl ?_
  refine LoopTo (T' := [(1, .rop [i64 ((H : Nat) : Int), i64 ((Z : Nat) : Int), .ros (ls.map boxesL) ls.length c] 0), (3, i64 ((ls.length : Nat) : Int)), (4, .slice 0 0 (ls.length * ls.length) (ls.length * ls.length)), (5, i64 ((0 : Nat) : Int))]) (H' := [(0, some (.cells ((List.replicate (ls.length * ls.length) 0).map n64) 3))]) (n := 1) rfl (fun mz_ qz_ => ∃ (i : Nat) (T : List Nat), i ≤ ls.length ∧ T = tabK Z H ls i 0 ∧ mz_ = ls.length - i ∧ qz_ = ⟨[(1, .rop [i64 ((H : Nat) : Int), i64 ((Z : Nat) : Int), .ros (ls.map boxesL) ls.length c] 0), (3, i64 ((ls.length : Nat) : Int)), (4, .slice 0 0 (ls.length * ls.length) (ls.length * ls.length)), (5, i64 ((i : Nat) : Int))], [(0, some (.cells (T.map n64) 3))], 1, []⟩) ⟨0, List.replicate (ls.length * ls.length) 0, (by omega), tabK_0.symm, rfl, rfl⟩ id ⟨eD rfl rfl, eD rfl rfl, e_ rfl rfl, eD rfl rfl, trivial⟩ ⟨rD (mapD (fun _ => rfl) _) rfl rfl, trivial⟩ rfl rfl rfl rfl (fun _ _ => rfl) ?_
  rintro _ _ ⟨i, T, hi0_0, hi0_1, rfl, rfl⟩
  have hTl : T.length = ls.length * ls.length := by rw [hi0_1, tabK_len]
  refine W_seq rfl ?_
  refine W_seq rfl ?_
  refine W_reg rfl ?_
  refine Rv rfl rfl rfl (U_move rfl) rfl rfl ?_
  refine Rv rfl rfl rfl (U_move rfl) rfl rfl ?_
  refine Rv rfl rfl rfl (U_lss rfl rfl) rfl rfl ?_
  refine Re rfl ?_
  refine thenQ_n ?_
  refine WcondP rfl rfl (fun hc0 => ?_) (fun hc0 => ?_)
  · have hci : i < ls.length := by omega
    refine W_skip rfl ?_
    refine thenQ_n ?_
    refine W_seq rfl ?_
    refine W_block rfl ?_
    refine W_seq rfl ?_
    refine W_reg rfl ?_
    refine Rv rfl rfl rfl (U_assign rfl) rfl rfl ?_
    refine Re rfl ?_
    refine thenQ_n ?_
    refine W_block rfl ?_
    refine LoopTo (T' := [(1, .rop [i64 ((H : Nat) : Int), i64 ((Z : Nat) : Int), .ros (ls.map boxesL) ls.length c] 0), (3, i64 ((ls.length : Nat) : Int)), (4, .slice 0 0 (ls.length * ls.length) (ls.length * ls.length)), (5, i64 ((i : Nat) : Int)), (6, i64 ((0 : Nat) : Int))]) (H' := [(0, some (.cells (T.map n64) 3))]) (n := 1) rfl (fun mz_ qz_ => ∃ (k : Nat) (T2 : List Nat), k ≤ i ∧ T2 = tabK Z H ls i k ∧ mz_ = i - k ∧ qz_ = ⟨[(1, .rop [i64 ((H : Nat) : Int), i64 ((Z : Nat) : Int), .ros (ls.map boxesL) ls.length c] 0), (3, i64 ((ls.length : Nat) : Int)), (4, .slice 0 0 (ls.length * ls.length) (ls.length * ls.length)), (5, i64 ((i : Nat) : Int)), (6, i64 ((k : Nat) : Int))], [(0, some (.cells (T2.map n64) 3))], 1, []⟩) ⟨0, T, (by omega), hi0_1, rfl, rfl⟩ id ⟨eD rfl rfl, eD rfl rfl, e_ rfl rfl, eD rfl rfl, eD rfl rfl, trivial⟩ ⟨rD (mapD (fun _ => rfl) _) rfl rfl, trivial⟩ rfl rfl rfl rfl (fun _ _ => rfl) ?_
    rintro _ _ ⟨k, T2, hi1_0, hi1_1, rfl, rfl⟩
    have hTl2 : T2.length = ls.length * ls.length := by rw [hi1_1, tabK_len]
    refine W_seq rfl ?_
    refine W_seq rfl ?_
    refine W_reg rfl ?_
    refine Rv rfl rfl rfl (U_move rfl) rfl rfl ?_
    refine Rv rfl rfl rfl (U_move rfl) rfl rfl ?_
    refine Rv rfl rfl rfl (U_lss rfl rfl) rfl rfl ?_
    refine Re rfl ?_
    refine thenQ_n ?_
    refine WcondP rfl rfl (fun hc1 => ?_) (fun hc1 => ?_)
    · have hck : k < i := by omega
      have hz1 := zh_lt (Z := ls.length) (H := ls.length) (z := i) (h := k) hci (by omega)
      have hz2 := zh_lt (Z := ls.length) (H := ls.length) (z := k) (h := i) (by omega) hci
      have hg1 : ls.getD i [] = ls[i] := by rw [List.getD_eq_getElem?_getD, List.getElem?_eq_getElem hci]; rfl
      have hg2 : ls.getD k [] = ls[k] := by rw [List.getD_eq_getElem?_getD, List.getElem?_eq_getElem (show k < ls.length by omega)]; rfl
      refine W_skip rfl ?_
      refine thenQ_n ?_
      refine W_seq rfl ?_
      refine W_block rfl ?_
      refine W_seq rfl ?_
      refine W_reg rfl ?_
      refine Rv rfl rfl rfl (U_load3 rfl rfl rfl rfl rfl) rfl rfl ?_
      refine Rv rfl rfl rfl (U_move rfl) rfl rfl ?_
      refine Rv rfl rfl rfl (U_move rfl) rfl rfl ?_
      refine Rv rfl rfl rfl (U_call rfl rfl (nearR_p H Z ls c hv i k (by omega) (by omega)) rfl) rfl rfl ?_
      refine Re rfl ?_
      refine thenQ_n ?_
      refine Wcond rfl rfl (fun hc2 => ?_) (fun hc2 => ?_)
      · refine W_reg rfl ?_
        refine Rv rfl rfl rfl (U_move rfl) rfl rfl ?_
        refine Rv rfl rfl rfl (U_move rfl) rfl rfl ?_
        refine Rv rfl rfl rfl (U_move rfl) rfl rfl ?_
        refine Rv rfl rfl rfl (U_mul rfl rfl (w64e (m := ((i * ls.length : Nat) : Int)) (by omega) (by omega) (by omega))) rfl rfl ?_
        refine Rv rfl rfl rfl (U_move rfl) rfl rfl ?_
        refine Rv rfl rfl rfl (U_add rfl rfl (w64e (m := ((i * ls.length + k : Nat) : Int)) (by omega) (by omega) (by omega))) rfl rfl ?_
        refine Rv rfl rfl rfl (U_move rfl) rfl rfl ?_
        refine Rv rfl rfl rfl (U_move rfl) rfl rfl ?_
        refine Rv rfl rfl rfl (U_move rfl) rfl rfl ?_
        refine Rv rfl rfl rfl (U_mul rfl rfl (w64e (m := ((k * ls.length : Nat) : Int)) (by omega) (by omega) (by omega))) rfl rfl ?_
        refine Rv rfl rfl rfl (U_move rfl) rfl rfl ?_
        refine Rv rfl rfl rfl (U_add rfl rfl (w64e (m := ((k * ls.length + i : Nat) : Int)) (by omega) (by omega) (by omega))) rfl rfl ?_
        have hx1 : (i * ls.length + k) < T2.length := by omega
        refine Rv rfl rfl rfl (U_indexS (j := (i * ls.length + k)) rfl rfl rfl (by omega)) rfl rfl ?_
        refine Rn rfl rfl rfl (U_store (n := 1) (cs' := (T2.set (i * ls.length + k) 1).map n64) rfl rfl rfl rfl rfl (stLt hx1) rfl setM) rfl ?_
        have hx2 : (k * ls.length + i) < (T2.set (i * ls.length + k) 1).length := by rw [List.length_set]; omega
        refine Rv rfl rfl rfl (U_indexS (j := (k * ls.length + i)) rfl rfl rfl (by omega)) rfl rfl ?_
        refine Rn rfl rfl rfl (U_store (n := 1) (cs' := ((T2.set (i * ls.length + k) 1).set (k * ls.length + i) 1).map n64) rfl rfl rfl rfl rfl (stLt hx2) rfl setM) rfl ?_
        refine Re rfl ?_
        refine blkQ_n ?_
        refine thenQ_n ?_
        refine W_reg rfl ?_
        refine Rv rfl rfl rfl (U_move rfl) rfl rfl ?_
        refine Rv rfl rfl rfl (U_add rfl rfl (w64e (m := ((k + 1 : Nat) : Int)) (by omega) (by omega) (by omega))) rfl rfl ?_
        refine Rv rfl rfl rfl (U_assign rfl) rfl rfl ?_
        refine Re rfl ?_
        refine thenQ_n ?_
        exact againTo (T' := [(1, .rop [i64 ((H : Nat) : Int), i64 ((Z : Nat) : Int), .ros (ls.map boxesL) ls.length c] 0), (3, i64 ((ls.length : Nat) : Int)), (4, .slice 0 0 (ls.length * ls.length) (ls.length * ls.length)), (5, i64 ((i : Nat) : Int)), (6, i64 (((k + 1) : Nat) : Int))]) (H' := [(0, some (.cells (((T2.set (i * ls.length + k) 1).set (k * ls.length + i) 1).map n64) 3))]) (n := 1) (i - (k + 1)) ⟨k + 1, (T2.set (i * ls.length + k) 1).set (k * ls.length + i) 1, (by omega), (by first | (rw [hi1_1]; exact tabK_t (by omega) (by omega) (by rw [hg1, hg2]; exact hc2)) | (rw [hi1_1]; exact tabK_f (by omega) (by rw [hg1, hg2]; simpa using hc2))), rfl, rfl⟩ (by omega) id ⟨eD rfl rfl, eD rfl rfl, e_ rfl rfl, eD rfl rfl, eD rfl rfl, trivial⟩ ⟨rD (mapD (fun _ => rfl) _) rfl rfl, trivial⟩ rfl rfl rfl rfl (fun _ _ => rfl)
      · have hc2' := Bool.eq_false_iff.1 hc2
        refine W_skip rfl ?_
        refine blkQ_n ?_
        refine thenQ_n ?_
        refine W_reg rfl ?_
        refine Rv rfl rfl rfl (U_move rfl) rfl rfl ?_
        refine Rv rfl rfl rfl (U_add rfl rfl (w64e (m := ((k + 1 : Nat) : Int)) (by omega) (by omega) (by omega))) rfl rfl ?_
        refine Rv rfl rfl rfl (U_assign rfl) rfl rfl ?_
        refine Re rfl ?_
        refine thenQ_n ?_
        exact againTo (T' := [(1, .rop [i64 ((H : Nat) : Int), i64 ((Z : Nat) : Int), .ros (ls.map boxesL) ls.length c] 0), (3, i64 ((ls.length : Nat) : Int)), (4, .slice 0 0 (ls.length * ls.length) (ls.length * ls.length)), (5, i64 ((i : Nat) : Int)), (6, i64 (((k + 1) : Nat) : Int))]) (H' := [(0, some (.cells (T2.map n64) 3))]) (n := 1) (i - (k + 1)) ⟨k + 1, T2, (by omega), (by first | (rw [hi1_1]; exact tabK_t (by omega) (by omega) (by rw [hg1, hg2]; exact hc2)) | (rw [hi1_1]; exact tabK_f (by omega) (by rw [hg1, hg2]; simpa using hc2))), rfl, rfl⟩ (by omega) id ⟨eD rfl rfl, eD rfl rfl, e_ rfl rfl, eD rfl rfl, eD rfl rfl, trivial⟩ ⟨rD (mapD (fun _ => rfl) _) rfl rfl, trivial⟩ rfl rfl rfl rfl (fun _ _ => rfl)
    · refine W_exit rfl ?_
      refine thenQ_x ?_
      refine thenQ_x ?_
      refine blkQ_x rfl ?_
      refine blkQ_n ?_
      refine thenQ_n ?_
      refine W_reg rfl ?_
      refine Rv rfl rfl rfl (U_move rfl) rfl rfl ?_
      refine Rv rfl rfl rfl (U_add rfl rfl (w64e (m := ((i + 1 : Nat) : Int)) (by omega) (by omega) (by omega))) rfl rfl ?_
      refine Rv rfl rfl rfl (U_assign rfl) rfl rfl ?_
      refine Re rfl ?_
      refine thenQ_n ?_
      exact againTo (T' := [(1, .rop [i64 ((H : Nat) : Int), i64 ((Z : Nat) : Int), .ros (ls.map boxesL) ls.length c] 0), (3, i64 ((ls.length : Nat) : Int)), (4, .slice 0 0 (ls.length * ls.length) (ls.length * ls.length)), (5, i64 (((i + 1) : Nat) : Int))]) (H' := [(0, some (.cells (T2.map n64) 3))]) (n := 1) (ls.length - (i + 1)) ⟨i + 1, T2, (by omega), (by rw [hi1_1, show k = i by omega, tabK_row]), rfl, rfl⟩ (by omega) id ⟨eD rfl rfl, eD rfl rfl, e_ rfl rfl, eD rfl rfl, trivial⟩ ⟨rD (mapD (fun _ => rfl) _) rfl rfl, trivial⟩ rfl rfl rfl rfl (fun _ _ => rfl)
  · refine W_exit rfl ?_
    refine thenQ_x ?_
    refine thenQ_x ?_
    refine blkQ_x rfl ?_
    refine thenQ_n ?_
    refine W_seq rfl ?_
    refine W_reg rfl ?_
    refine Rv rfl rfl rfl (U_move rfl) rfl rfl ?_
    refine Rv rfl rfl rfl (U_assign rfl) rfl rfl ?_
    refine Re rfl ?_
    refine thenQ_n ?_
    refine WfrN 0 rfl (mapD (fun _ => rfl) _) (T' := [(2, .ros (T.map n64) (ls.length * ls.length) (some (ls.length * ls.length)))]) (H' := []) ⟨⟨_, rfl, fr_sl (Nat.le_refl _)⟩, trivial⟩ trivial ?_
    refine W_ret rfl ?_
    exact retL (rlT rfl rl0) (by first | rfl | (simp only [packA]; rw [hi0_1, show i = ls.length by omega]; rfl; first | done | rfl)) rfl
def gudK (tab : List Nat) (n : Nat) (begun : List Int) (t k : Nat) : Bool := (List.range k).all fun j => tab.getD (begun.length * n + j) 0 == 0 || begun.getD j 0 != (t : Int)
def tntQ (tab : List Nat) (n : Nat) : Nat → List Int → Nat → Nat → List Int
  | 0, begun, used, most => if most ≤ used then [] else begun
  | d + 1, begun, used, most => if most ≤ used then [] else ((List.range (used + 1)).foldl (fun s t => bif gudK tab n begun t begun.length then (if 0 < (tntQ tab n d (begun ++ [(t : Int)]) (max used (t + 1)) s.2).length then (tntQ tab n d (begun ++ [(t : Int)]) (max used (t + 1)) s.2, difQ (tntQ tab n d (begun ++ [(t : Int)]) (max used (t + 1)) s.2)) else s) else s) (([] : List Int), most)).1
def tntF (tab : List Nat) (n d : Nat) (begun : List Int) (used : Nat) (s : List Int × Nat) (t : Nat) : List Int × Nat := bif gudK tab n begun t begun.length then (if 0 < (tntQ tab n d (begun ++ [(t : Int)]) (max used (t + 1)) s.2).length then (tntQ tab n d (begun ++ [(t : Int)]) (max used (t + 1)) s.2, difQ (tntQ tab n d (begun ++ [(t : Int)]) (max used (t + 1)) s.2)) else s) else s
def tntK (tab : List Nat) (n d : Nat) (begun : List Int) (used most k : Nat) : List Int × Nat := (List.range k).foldl (tntF tab n d begun used) ([], most)
theorem tntK_succ {tab : List Nat} {n d : Nat} {begun : List Int} {used most k : Nat} : tntK tab n d begun used most (k + 1) = tntF tab n d begun used (tntK tab n d begun used most k) k := by rw [tntK, List.range_succ, List.foldl_append]; rfl
theorem gudK_succ {tab : List Nat} {n : Nat} {begun : List Int} {t k : Nat} : gudK tab n begun t (k + 1) = (gudK tab n begun t k && (tab.getD (begun.length * n + k) 0 == 0 || begun.getD k 0 != (t : Int))) := by
  rw [gudK, List.range_succ, List.all_append]; simp [gudK]
theorem difQ_le {l : List Int} : difQ l ≤ l.length := difK_le
theorem tntQ_len {tab : List Nat} {n : Nat} : ∀ (d : Nat) (begun : List Int) (used most : Nat), begun.length + d = n → (tntQ tab n d begun used most).length ≤ n
  | 0, begun, used, most, h => by
    unfold tntQ; split
    · simp
    · omega
  | d + 1, begun, used, most, h => by
    unfold tntQ; split
    · simp
    · suffices hs : ∀ (l : List Nat) (s : List Int × Nat), s.1.length ≤ n → (l.foldl (tntF tab n d begun used) s).1.length ≤ n from hs _ _ (by simp)
      intro l
      induction l with
      | nil => intro s hs; exact hs
      | cons a l ih =>
        intro s hs
        refine ih _ ?_
        unfold tntF
        cases gudK tab n begun a begun.length with
        | false => exact hs
        | true =>
          simp only [cond_true]; split
          · exact tntQ_len d _ _ _ (by simp; omega)
          · exact hs
theorem tnt_few (tab : List Nat) (n : Nat) (hn : n ≤ 10) (ht : tab.length = n * n) (begun : List Int) (c : Option Nat) (used most : Nat) (h : most ≤ used) : Pure Try.prog 88 [fldA tab (n * n), i64 (n : Nat), intsA begun c, i64 (used : Nat), i64 (most : Nat)] (listA ([] : List Int)) := by
  refine pure_of_body Try.func88 (c := body Try.f88) rfl (by simp [Try.ntmps88]) fun w0 Φ0 => ?_
  refine W_seq rfl ?_
  refine W_reg rfl ?_
  refine Rv rfl rfl rfl (U_assign rfl) rfl rfl ?_
  refine Re rfl ?_
  refine thenQ_n ?_
  refine W_seq rfl ?_
  refine W_seq rfl ?_
  refine W_reg rfl ?_
  refine Rv rfl rfl rfl (U_move rfl) rfl rfl ?_
  refine Rv rfl rfl rfl (U_move rfl) rfl rfl ?_
  refine Rv rfl rfl rfl (OpU.toB (U_geq rfl rfl) (decide_eq_true (by omega))) rfl rfl ?_
  refine Re rfl ?_
  refine thenQ_n ?_
  refine Wcond rfl rfl (fun _ => ?_) (fun h => nomatch h)
  refine W_seq rfl ?_
  refine W_reg rfl ?_
  refine Rv rfl rfl rfl (U_assign rfl) rfl rfl ?_
  refine Re rfl ?_
  refine thenQ_n ?_
  refine WweakT (j := 10) rfl (le_nils (cs := [])) ?_
  refine W_ret rfl ?_
  refine thenQ_r ?_
  exact retL (rlT rfl rl0) (by first | rfl | (simp only [packA]; rfl; first | done | rfl)) rfl
theorem tnt_zero (tab : List Nat) (n : Nat) (hn : n ≤ 10) (ht : tab.length = n * n) (begun : List Int) (c : Option Nat) (used most : Nat) (hl : begun.length = n) (h : ¬ most ≤ used) : Pure Try.prog 88 [fldA tab (n * n), i64 (n : Nat), intsA begun c, i64 (used : Nat), i64 (most : Nat)] (listA begun) := by
  refine pure_of_body Try.func88 (c := body Try.f88) rfl (by simp [Try.ntmps88]) fun w0 Φ0 => ?_
  refine W_seq rfl ?_
  refine W_reg rfl ?_
  refine Rv rfl rfl rfl (U_assign rfl) rfl rfl ?_
  refine Re rfl ?_
  refine thenQ_n ?_
  refine W_seq rfl ?_
  refine W_seq rfl ?_
  refine W_reg rfl ?_
  refine Rv rfl rfl rfl (U_move rfl) rfl rfl ?_
  refine Rv rfl rfl rfl (U_move rfl) rfl rfl ?_
  refine Rv rfl rfl rfl (OpU.toB (U_geq rfl rfl) (decide_eq_false (by omega))) rfl rfl ?_
  refine Re rfl ?_
  refine thenQ_n ?_
  refine Wcond rfl rfl (fun h => nomatch h) (fun _ => ?_)
  refine W_skip rfl ?_
  refine thenQ_n ?_
  refine W_seq rfl ?_
  refine W_seq rfl ?_
  refine W_reg rfl ?_
  refine Rv rfl rfl rfl (U_move rfl) rfl rfl ?_
  refine Rv rfl rfl rfl (U_lenOf rfl len_ros) rfl rfl ?_
  refine Rv rfl rfl rfl (U_move rfl) rfl rfl ?_
  refine Rv rfl rfl rfl (OpU.toB (U_eql rfl rfl) (decide_eq_true (by omega))) rfl rfl ?_
  refine Re rfl ?_
  refine thenQ_n ?_
  refine Wcond rfl rfl (fun _ => ?_) (fun h => nomatch h)
  refine W_seq rfl ?_
  refine W_reg rfl ?_
  refine Rv rfl rfl rfl (U_move rfl) rfl rfl ?_
  refine Rv rfl rfl rfl (U_assign rfl) rfl rfl ?_
  refine Re rfl ?_
  refine thenQ_n ?_
  refine WweakT (j := 10) rfl le_cap ?_
  refine W_ret rfl ?_
  refine thenQ_r ?_
  exact retL (rlT rfl rl0) rfl rfl
theorem tnt_step (tab : List Nat) (n : Nat) (hn : n ≤ 10) (ht : tab.length = n * n) (d : Nat) (ih : ∀ (begun : List Int) (c : Option Nat) (used most : Nat), begun.length + d = n → used ≤ 11 → most ≤ 11 → Pure Try.prog 88 [fldA tab (n * n), i64 (n : Nat), intsA begun c, i64 (used : Nat), i64 (most : Nat)] (listA (tntQ tab n d begun used most))) (begun : List Int) (c : Option Nat) (used most : Nat) (hl : begun.length + (d + 1) = n) (hu : used ≤ 11) (hm : most ≤ 11) (h : ¬ most ≤ used) : Pure Try.prog 88 [fldA tab (n * n), i64 (n : Nat), intsA begun c, i64 (used : Nat), i64 (most : Nat)] (listA (tntQ tab n (d + 1) begun used most)) := by
  have hnn : n * n ≤ 100 := Nat.mul_le_mul hn hn
  refine pure_of_body Try.func88 (c := body Try.f88) rfl (by simp [Try.ntmps88]) fun w0 Φ0 => ?_
  refine W_seq rfl ?_
  refine W_reg rfl ?_
  refine Rv rfl rfl rfl (U_assign rfl) rfl rfl ?_
  refine Re rfl ?_
  refine thenQ_n ?_
  refine W_seq rfl ?_
  refine W_seq rfl ?_
  refine W_reg rfl ?_
  refine Rv rfl rfl rfl (U_move rfl) rfl rfl ?_
  refine Rv rfl rfl rfl (U_move rfl) rfl rfl ?_
  refine Rv rfl rfl rfl (OpU.toB (U_geq rfl rfl) (decide_eq_false (by omega))) rfl rfl ?_
  refine Re rfl ?_
  refine thenQ_n ?_
  refine Wcond rfl rfl (fun h => nomatch h) (fun _ => ?_)
  refine W_skip rfl ?_
  refine thenQ_n ?_
  refine W_seq rfl ?_
  refine W_seq rfl ?_
  refine W_reg rfl ?_
  refine Rv rfl rfl rfl (U_move rfl) rfl rfl ?_
  refine Rv rfl rfl rfl (U_lenOf rfl len_ros) rfl rfl ?_
  refine Rv rfl rfl rfl (U_move rfl) rfl rfl ?_
  refine Rv rfl rfl rfl (OpU.toB (U_eql rfl rfl) (decide_eq_false (by omega))) rfl rfl ?_
  refine Re rfl ?_
  refine thenQ_n ?_
  refine Wcond rfl rfl (fun h => nomatch h) (fun _ => ?_)
  refine W_skip rfl ?_
  refine thenQ_n ?_
  refine W_seq rfl ?_
  refine W_reg rfl ?_
  refine Rv rfl rfl rfl (U_assign rfl) rfl rfl ?_
  refine Re rfl ?_
  refine thenQ_n ?_
  refine W_seq rfl ?_
  refine W_seq rfl ?_
  refine W_reg rfl ?_
  refine Rv rfl rfl rfl (U_assign rfl) rfl rfl ?_
  refine Re rfl ?_
  refine thenQ_n ?_
  refine W_block rfl ?_
  refine LoopTo (T' := [(0, .ros (tab.map n64) (n * n) (some (n * n))), (1, i64 ((n : Nat) : Int)), (2, .ros (begun.map i64) begun.length c), (3, i64 ((used : Nat) : Int)), (4, i64 ((most : Nat) : Int)), (11, .ros ([].map i64) [].length none), (12, i64 ((0 : Nat) : Int))]) (H' := []) (n := 0) rfl (fun mz_ qz_ => ∃ (t : Nat) (L : List Int) (m : Nat), (L, m) = tntK tab n d begun used most t ∧ t ≤ used + 1 ∧ m ≤ 11 ∧ mz_ = used + 1 - t ∧ qz_ = ⟨[(0, .ros (tab.map n64) (n * n) (some (n * n))), (1, i64 ((n : Nat) : Int)), (2, .ros (begun.map i64) begun.length c), (3, i64 ((used : Nat) : Int)), (4, i64 ((m : Nat) : Int)), (11, .ros (L.map i64) L.length none), (12, i64 ((t : Nat) : Int))], [], 0, []⟩) ⟨0, [], most, rfl, (by omega), hm, rfl, rfl⟩ id ⟨eD rfl rfl, eD rfl rfl, eD rfl rfl, eD rfl rfl, eD rfl rfl, eW rfl (le_nils' (by simp)) rfl, eD rfl rfl, trivial⟩ trivial rfl rfl rfl rfl (fun _ _ => rfl) ?_
  rintro _ _ ⟨t, L, m, hi0_0, hi0_1, hi0_2, rfl, rfl⟩
  refine W_seq rfl ?_
  refine W_seq rfl ?_
  refine W_reg rfl ?_
  refine Rv rfl rfl rfl (U_move rfl) rfl rfl ?_
  refine Rv rfl rfl rfl (U_move rfl) rfl rfl ?_
  refine Rv rfl rfl rfl (U_leq rfl rfl) rfl rfl ?_
  refine Re rfl ?_
  refine thenQ_n ?_
  refine WcondP rfl rfl (fun hc2 => ?_) (fun hc2 => ?_)
  · refine W_skip rfl ?_
    refine thenQ_n ?_
    refine W_seq rfl ?_
    refine W_block rfl ?_
    refine W_seq rfl ?_
    refine W_reg rfl ?_
    refine Rv rfl rfl rfl (U_assign rfl) rfl rfl ?_
    refine Re rfl ?_
    refine thenQ_n ?_
    refine W_seq rfl ?_
    refine W_seq rfl ?_
    refine W_reg rfl ?_
    refine Rv rfl rfl rfl (U_assign rfl) rfl rfl ?_
    refine Re rfl ?_
    refine thenQ_n ?_
    refine W_block rfl ?_
    refine LoopTo (T' := [(0, .ros (tab.map n64) (n * n) (some (n * n))), (1, i64 ((n : Nat) : Int)), (2, .ros (begun.map i64) begun.length c), (3, i64 ((used : Nat) : Int)), (4, i64 ((m : Nat) : Int)), (11, .ros (L.map i64) L.length none), (12, i64 ((t : Nat) : Int)), (13, .bool true), (14, i64 ((0 : Nat) : Int))]) (H' := []) (n := 0) rfl (fun mz_ qz_ => ∃ (k : Nat) (g : Bool), k ≤ begun.length ∧ g = gudK tab n begun t k ∧ mz_ = begun.length - k ∧ qz_ = ⟨[(0, .ros (tab.map n64) (n * n) (some (n * n))), (1, i64 ((n : Nat) : Int)), (2, .ros (begun.map i64) begun.length c), (3, i64 ((used : Nat) : Int)), (4, i64 ((m : Nat) : Int)), (11, .ros (L.map i64) L.length none), (12, i64 ((t : Nat) : Int)), (13, .bool g), (14, i64 ((k : Nat) : Int))], [], 0, []⟩) ⟨0, true, (by omega), rfl, rfl, rfl⟩ id ⟨eD rfl rfl, eD rfl rfl, eD rfl rfl, eD rfl rfl, eD rfl rfl, eD rfl rfl, eD rfl rfl, eD rfl rfl, eD rfl rfl, trivial⟩ trivial rfl rfl rfl rfl (fun _ _ => rfl) ?_
    rintro _ _ ⟨k, g, hi1_0, hi1_1, rfl, rfl⟩
    refine W_seq rfl ?_
    refine W_seq rfl ?_
    refine W_reg rfl ?_
    refine Rv rfl rfl rfl (U_move rfl) rfl rfl ?_
    refine Rv rfl rfl rfl (U_move rfl) rfl rfl ?_
    refine Rv rfl rfl rfl (U_lenOf rfl len_ros) rfl rfl ?_
    refine Rv rfl rfl rfl (U_lss rfl rfl) rfl rfl ?_
    refine Re rfl ?_
    refine thenQ_n ?_
    refine WcondP rfl rfl (fun hc3 => ?_) (fun hc3 => ?_)
    · have hck : k < begun.length := by omega
      have hzk := zh_lt (Z := n) (H := n) (z := begun.length) (h := k) (by omega) (by omega)
      have hgT : tab.getD (begun.length * n + k) 0 = tab[begun.length * n + k]'(by rw [ht]; exact hzk) := getD_at (by rw [ht]; exact hzk)
      have hgB : begun.getD k 0 = begun[k] := by rw [List.getD_eq_getElem?_getD, List.getElem?_eq_getElem hck]; rfl
      have hgks := gudK_succ (tab := tab) (n := n) (begun := begun) (t := t) (k := k)
      rw [hgT, hgB, ← hi1_1] at hgks
      refine W_skip rfl ?_
      refine thenQ_n ?_
      refine W_seq rfl ?_
      refine W_block rfl ?_
      refine Wjoin ⟨[(0, .ros (tab.map n64) (n * n) (some (n * n))), (1, i64 ((n : Nat) : Int)), (2, .ros (begun.map i64) begun.length c), (3, i64 ((used : Nat) : Int)), (4, i64 ((m : Nat) : Int)), (11, .ros (L.map i64) L.length none), (12, i64 ((t : Nat) : Int)), (13, .bool (g && ((decide (((tab[(begun.length * n + k)] : Nat) : Int) = (0 : Int))) || (decide (begun[k] ≠ ((t : Nat) : Int)))))), (14, i64 ((k : Nat) : Int))], [], 0, []⟩ ?_ ?_
      · refine W_reg rfl ?_
        refine Rv rfl rfl rfl (U_move rfl) rfl rfl ?_
        refine Rv rfl rfl rfl (U_move rfl) rfl rfl ?_
        refine Rsplit (t := 36) rfl (fun hg1 => ?_) (fun hg1 => ?_)
        · rw [hg1]
          refine Rv rfl rfl rfl (U_move rfl) rfl rfl ?_
          refine Rv rfl rfl rfl (U_move rfl) rfl rfl ?_
          refine Rv rfl rfl rfl (U_lenOf rfl len_ros) rfl rfl ?_
          refine Rv rfl rfl rfl (U_move rfl) rfl rfl ?_
          refine Rv rfl rfl rfl (U_mul rfl rfl (w64e (m := ((begun.length * n : Nat) : Int)) (by omega) (by omega) (by omega))) rfl rfl ?_
          refine Rv rfl rfl rfl (U_move rfl) rfl rfl ?_
          refine Rv rfl rfl rfl (U_add rfl rfl (w64e (m := ((begun.length * n + k : Nat) : Int)) (by omega) (by omega) (by omega))) rfl rfl ?_
          have hx2 : (begun.length * n + k) < tab.length := by rw [ht]; exact hzk
          refine Rv rfl rfl rfl (U_indexR (j := (begun.length * n + k)) rfl rfl rfl (by omega)) rfl rfl ?_
          refine Rv rfl rfl rfl (U_load1 rfl rfl (getM hx2)) rfl rfl ?_
          refine Rv rfl rfl rfl (U_eql rfl rfl) rfl rfl ?_
          refine Rv rfl rfl rfl (U_move rfl) rfl rfl ?_
          refine Rsplit (t := 47) rfl (fun hg3 => ?_) (fun hg3 => ?_)
          · rw [hg3]
            have hg3' : ((tab[(begun.length * n + k)] : Nat) : Int) = (0 : Int) := of_decide_eq_true hg3
            refine Rs rfl rfl rfl rfl rfl ?_
            refine Rs rfl rfl rfl rfl rfl ?_
            refine Rs rfl rfl rfl rfl rfl ?_
            refine Rs rfl rfl rfl rfl rfl ?_
            refine Rs rfl rfl rfl rfl rfl ?_
            refine Rs rfl rfl rfl rfl rfl ?_
            refine Rv rfl rfl rfl (U_pick_t rfl rfl) rfl rfl ?_
            refine Rv rfl rfl rfl (U_pick_t rfl rfl) rfl rfl ?_
            refine Rv rfl rfl rfl (U_assign rfl) rfl rfl ?_
            refine Re rfl ?_
            exact joinTo id ⟨eD rfl rfl, eD rfl rfl, eD rfl rfl, eD rfl rfl, eD rfl rfl, eD rfl rfl, eD rfl rfl, eD rfl rfl, eD rfl rfl, trivial⟩ trivial rfl rfl rfl rfl (fun _ _ => rfl)
          · rw [hg3]
            have hg3' : ¬ (((tab[(begun.length * n + k)] : Nat) : Int) = (0 : Int)) := of_decide_eq_false hg3
            refine Rv rfl rfl rfl (U_move rfl) rfl rfl ?_
            refine Rv rfl rfl rfl (U_move rfl) rfl rfl ?_
            have hx4 : k < begun.length := by omega
            refine Rv rfl rfl rfl (U_indexR (j := k) rfl rfl rfl hx4) rfl rfl ?_
            refine Rv rfl rfl rfl (U_load1 rfl rfl (getM hx4)) rfl rfl ?_
            refine Rv rfl rfl rfl (U_move rfl) rfl rfl ?_
            refine Rv rfl rfl rfl (U_neq rfl rfl) rfl rfl ?_
            refine Rv rfl rfl rfl (U_pick_f rfl rfl) rfl rfl ?_
            refine Rv rfl rfl rfl (U_pick_t rfl rfl) rfl rfl ?_
            refine Rv rfl rfl rfl (U_assign rfl) rfl rfl ?_
            refine Re rfl ?_
            exact joinTo id ⟨eD rfl rfl, eD rfl rfl, eD rfl rfl, eD rfl rfl, eD rfl rfl, eD rfl rfl, eD rfl rfl, eD rfl rfl, eD rfl rfl, trivial⟩ trivial rfl rfl rfl rfl (fun _ _ => rfl)
        · rw [hg1]
          refine Rs rfl rfl rfl rfl rfl ?_
          refine Rs rfl rfl rfl rfl rfl ?_
          refine Rs rfl rfl rfl rfl rfl ?_
          refine Rs rfl rfl rfl rfl rfl ?_
          refine Rs rfl rfl rfl rfl rfl ?_
          refine Rs rfl rfl rfl rfl rfl ?_
          refine Rs rfl rfl rfl rfl rfl ?_
          refine Rs rfl rfl rfl rfl rfl ?_
          refine Rs rfl rfl rfl rfl rfl ?_
          refine Rs rfl rfl rfl rfl rfl ?_
          refine Rs rfl rfl rfl rfl rfl ?_
          refine Rs rfl rfl rfl rfl rfl ?_
          refine Rs rfl rfl rfl rfl rfl ?_
          refine Rs rfl rfl rfl rfl rfl ?_
          refine Rs rfl rfl rfl rfl rfl ?_
          refine Rs rfl rfl rfl rfl rfl ?_
          refine Rs rfl rfl rfl rfl rfl ?_
          refine Rs rfl rfl rfl rfl rfl ?_
          refine Rv rfl rfl rfl (U_pick_f rfl rfl) rfl rfl ?_
          refine Rv rfl rfl rfl (U_assign rfl) rfl rfl ?_
          refine Re rfl ?_
          exact joinTo id ⟨eD rfl rfl, eD rfl rfl, eD rfl rfl, eD rfl rfl, eD rfl rfl, eD rfl rfl, eD rfl rfl, eD rfl rfl, eD rfl rfl, trivial⟩ trivial rfl rfl rfl rfl (fun _ _ => rfl)
      refine blkQ_n ?_
      refine thenQ_n ?_
      refine W_reg rfl ?_
      refine Rv rfl rfl rfl (U_move rfl) rfl rfl ?_
      refine Rv rfl rfl rfl (U_add rfl rfl (w64e (m := ((k + 1 : Nat) : Int)) (by omega) (by omega) (by omega))) rfl rfl ?_
      refine Rv rfl rfl rfl (U_assign rfl) rfl rfl ?_
      refine Re rfl ?_
      refine thenQ_n ?_
      exact againTo (T' := [(0, .ros (tab.map n64) (n * n) (some (n * n))), (1, i64 ((n : Nat) : Int)), (2, .ros (begun.map i64) begun.length c), (3, i64 ((used : Nat) : Int)), (4, i64 ((m : Nat) : Int)), (11, .ros (L.map i64) L.length none), (12, i64 ((t : Nat) : Int)), (13, .bool (g && ((decide (((tab[(begun.length * n + k)] : Nat) : Int) = (0 : Int))) || (decide (begun[k] ≠ ((t : Nat) : Int)))))), (14, i64 (((k + 1) : Nat) : Int))]) (H' := []) (n := 0) (begun.length - (k + 1)) ⟨k + 1, g && ((decide (((tab[(begun.length * n + k)] : Nat) : Int) = (0 : Int))) || (decide (begun[k] ≠ ((t : Nat) : Int)))), (by omega), (by rw [hgks, Bool.eq_iff_iff]; simp), rfl, rfl⟩ (by omega) id ⟨eD rfl rfl, eD rfl rfl, eD rfl rfl, eD rfl rfl, eD rfl rfl, eD rfl rfl, eD rfl rfl, eD rfl rfl, eD rfl rfl, trivial⟩ trivial rfl rfl rfl rfl (fun _ _ => rfl)
    · have hga : g = gudK tab n begun t begun.length := by rw [hi1_1, show k = begun.length by omega]
      refine W_exit rfl ?_
      refine thenQ_x ?_
      refine thenQ_x ?_
      refine blkQ_x rfl ?_
      refine thenQ_n ?_
      refine W_seq rfl ?_
      refine W_seq rfl ?_
      refine W_reg rfl ?_
      refine Rv rfl rfl rfl (U_move rfl) rfl rfl ?_
      refine Rv rfl rfl rfl (U_not rfl) rfl rfl ?_
      refine Re rfl ?_
      refine thenQ_n ?_
      refine Wcond rfl rfl (fun hc4 => ?_) (fun hc4 => ?_)
      · have hgf : gudK tab n begun t begun.length = false := by rw [← hga]; simpa using hc4
        have hK : (L, m) = tntF tab n d begun used (L, m) t := by rw [tntF, hgf]; rfl
        have hm2 := hi0_2
        refine W_exit rfl ?_
        refine thenQ_x ?_
        refine blkQ_x rfl ?_
        refine thenQ_n ?_
        refine W_reg rfl ?_
        refine Rv rfl rfl rfl (U_move rfl) rfl rfl ?_
        refine Rv rfl rfl rfl (U_add rfl rfl (w64e (m := ((t + 1 : Nat) : Int)) (by omega) (by omega) (by omega))) rfl rfl ?_
        refine Rv rfl rfl rfl (U_assign rfl) rfl rfl ?_
        refine Re rfl ?_
        refine thenQ_n ?_
        exact againTo (T' := [(0, .ros (tab.map n64) (n * n) (some (n * n))), (1, i64 ((n : Nat) : Int)), (2, .ros (begun.map i64) begun.length c), (3, i64 ((used : Nat) : Int)), (4, i64 ((m : Nat) : Int)), (11, .ros (L.map i64) L.length none), (12, i64 (((t + 1) : Nat) : Int))]) (H' := []) (n := 0) (used + 1 - (t + 1)) ⟨t + 1, L, m, (by rw [tntK_succ, ← hi0_0]; exact hK), (by omega), hm2, rfl, rfl⟩ (by omega) id ⟨eD rfl rfl, eD rfl rfl, eD rfl rfl, eD rfl rfl, eD rfl rfl, eD rfl rfl, eD rfl rfl, trivial⟩ trivial rfl rfl rfl rfl (fun _ _ => rfl)
      · have hc4' := Bool.eq_false_iff.1 hc4
        have hgt : gudK tab n begun t begun.length = true := by rw [← hga]; simpa using hc4
        refine W_skip rfl ?_
        refine thenQ_n ?_
        refine W_seq rfl ?_
        have hcs : begun.length = 0 ∨ 0 < begun.length := by omega
        rcases hcs with hpz | hpz
        · have hpn : begun = [] := List.length_eq_zero_iff.1 hpz
          refine W_reg rfl ?_
          refine Rv rfl rfl rfl (U_move rfl) rfl rfl ?_
          refine Rv rfl rfl rfl (U_move rfl) rfl rfl ?_
          refine Rv rfl rfl rfl (U_buildSliceF (by rfl) (by decide) rfl rfl rfl) rfl rfl ?_
          refine Rv rfl rfl rfl (U_move rfl) rfl rfl ?_
          refine Rv rfl rfl rfl (U_app0G rfl rfl lenk_ros (len0_ros hpz)) rfl rfl ?_
          refine Rv rfl rfl rfl (U_move rfl) rfl rfl ?_
          refine Rv rfl rfl rfl (U_buildSliceF (by rfl) (by decide) rfl rfl rfl) rfl rfl ?_
          refine Ra rfl rfl rfl (OpU.frz (b := 0) (U_appL (news := (begun ++ [((t : Nat) : Int)]).map i64) (n' := (begun ++ [((t : Nat) : Int)]).length) rfl rfl rfl rfl (by rw [hpn]; rfl) (by simp) (by simp <;> omega) (by rw [hpn]; rfl)) rfl (by simp) (mapD (fun _ => rfl) _) (Nat.le_refl _) (Nat.lt_succ_self _)) rfl rfl rfl ?_
          refine Rv rfl rfl rfl (U_move rfl) rfl rfl ?_
          refine Rv rfl rfl rfl (U_move rfl) rfl rfl ?_
          refine Rv rfl rfl rfl (U_add rfl rfl (w64e (m := ((t + 1 : Nat) : Int)) (by omega) (by omega) (by omega))) rfl rfl ?_
          refine Rv rfl rfl rfl (U_max (m := (((max used (t + 1)) : Nat) : Int)) rfl rfl (by omega)) rfl rfl ?_
          refine Rv rfl rfl rfl (U_move rfl) rfl rfl ?_
          refine Rv rfl rfl rfl (U_call rfl rfl (ih ((begun ++ [((t : Nat) : Int)])) none (max used (t + 1)) m (by simp; omega) (by omega) (by omega)) rfl) rfl rfl ?_
          refine Rv rfl rfl rfl (U_assign rfl) rfl rfl ?_
          refine Re rfl ?_
          refine thenQ_n ?_
          refine W_seq rfl ?_
          refine W_reg rfl ?_
          refine Rv rfl rfl rfl (U_move rfl) rfl rfl ?_
          refine Rv rfl rfl rfl (U_lenOf rfl len_ros) rfl rfl ?_
          refine Rv rfl rfl rfl (U_gtr rfl rfl) rfl rfl ?_
          refine Re rfl ?_
          refine thenQ_n ?_
          refine WcondP rfl rfl (fun hc5 => ?_) (fun hc5 => ?_)
          · have hln : 0 < (tntQ tab n d (begun ++ [(t : Int)]) (max used (t + 1)) m).length := by omega
            have hK : ((tntQ tab n d (begun ++ [(t : Int)]) (max used (t + 1)) m), difQ (tntQ tab n d (begun ++ [(t : Int)]) (max used (t + 1)) m)) = tntF tab n d begun used (L, m) t := by rw [tntF, hgt, cond_true, if_pos hln]
            have hm2 : difQ (tntQ tab n d (begun ++ [(t : Int)]) (max used (t + 1)) m) ≤ 11 := by have := tntQ_len (tab := tab) d (begun ++ [(t : Int)]) (max used (t + 1)) m (n := n) (by simp; omega); have := difQ_le (l := (tntQ tab n d (begun ++ [(t : Int)]) (max used (t + 1)) m)); omega
            have hTl := tntQ_len (tab := tab) d (begun ++ [(t : Int)]) (max used (t + 1)) m (n := n) (by simp; omega)
            refine W_seq rfl ?_
            refine W_reg rfl ?_
            refine Rv rfl rfl rfl (U_move rfl) rfl rfl ?_
            refine Rv rfl rfl rfl (U_assign rfl) rfl rfl ?_
            refine Re rfl ?_
            refine thenQ_n ?_
            refine W_reg rfl ?_
            refine Rv rfl rfl rfl (U_move rfl) rfl rfl ?_
            refine Rv rfl rfl rfl (U_call rfl rfl (different_p (tntQ tab n d (begun ++ [((t : Nat) : Int)]) (max used (t + 1)) m) none (by first | assumption | omega | (simp; done) | (simp; omega))) rfl) rfl rfl ?_
            refine Rv rfl rfl rfl (U_assign rfl) rfl rfl ?_
            refine Re rfl ?_
            refine blkQ_n ?_
            refine thenQ_n ?_
            refine W_reg rfl ?_
            refine Rv rfl rfl rfl (U_move rfl) rfl rfl ?_
            refine Rv rfl rfl rfl (U_add rfl rfl (w64e (m := ((t + 1 : Nat) : Int)) (by omega) (by omega) (by omega))) rfl rfl ?_
            refine Rv rfl rfl rfl (U_assign rfl) rfl rfl ?_
            refine Re rfl ?_
            refine thenQ_n ?_
            exact againTo (T' := [(0, .ros (tab.map n64) (n * n) (some (n * n))), (1, i64 ((n : Nat) : Int)), (2, .ros (begun.map i64) begun.length c), (3, i64 ((used : Nat) : Int)), (4, i64 (((difQ (tntQ tab n d (begun ++ [((t : Nat) : Int)]) (max used (t + 1)) m)) : Nat) : Int)), (11, .ros ((tntQ tab n d (begun ++ [((t : Nat) : Int)]) (max used (t + 1)) m).map i64) (tntQ tab n d (begun ++ [((t : Nat) : Int)]) (max used (t + 1)) m).length none), (12, i64 (((t + 1) : Nat) : Int))]) (H' := []) (n := 0) (used + 1 - (t + 1)) ⟨t + 1, tntQ tab n d (begun ++ [((t : Nat) : Int)]) (max used (t + 1)) m, difQ (tntQ tab n d (begun ++ [((t : Nat) : Int)]) (max used (t + 1)) m), (by rw [tntK_succ, ← hi0_0]; exact hK), (by omega), hm2, rfl, rfl⟩ (by omega) id ⟨eD rfl rfl, eD rfl rfl, eD rfl rfl, eD rfl rfl, eD rfl rfl, eD rfl rfl, eD rfl rfl, trivial⟩ trivial rfl rfl rfl rfl (fun _ _ => rfl)
          · have hln : ¬ 0 < (tntQ tab n d (begun ++ [(t : Int)]) (max used (t + 1)) m).length := by omega
            have hK : (L, m) = tntF tab n d begun used (L, m) t := by rw [tntF, hgt, cond_true, if_neg hln]
            have hm2 := hi0_2
            refine W_skip rfl ?_
            refine blkQ_n ?_
            refine thenQ_n ?_
            refine W_reg rfl ?_
            refine Rv rfl rfl rfl (U_move rfl) rfl rfl ?_
            refine Rv rfl rfl rfl (U_add rfl rfl (w64e (m := ((t + 1 : Nat) : Int)) (by omega) (by omega) (by omega))) rfl rfl ?_
            refine Rv rfl rfl rfl (U_assign rfl) rfl rfl ?_
            refine Re rfl ?_
            refine thenQ_n ?_
            exact againTo (T' := [(0, .ros (tab.map n64) (n * n) (some (n * n))), (1, i64 ((n : Nat) : Int)), (2, .ros (begun.map i64) begun.length c), (3, i64 ((used : Nat) : Int)), (4, i64 ((m : Nat) : Int)), (11, .ros (L.map i64) L.length none), (12, i64 (((t + 1) : Nat) : Int))]) (H' := []) (n := 0) (used + 1 - (t + 1)) ⟨t + 1, L, m, (by rw [tntK_succ, ← hi0_0]; exact hK), (by omega), hm2, rfl, rfl⟩ (by omega) id ⟨eD rfl rfl, eD rfl rfl, eD rfl rfl, eD rfl rfl, eD rfl rfl, eD rfl rfl, eD rfl rfl, trivial⟩ trivial rfl rfl rfl rfl (fun _ _ => rfl)
        · have hpn := hpz
          refine W_reg rfl ?_
          refine Rv rfl rfl rfl (U_move rfl) rfl rfl ?_
          refine Rv rfl rfl rfl (U_move rfl) rfl rfl ?_
          refine Rv rfl rfl rfl (U_buildSliceF (by rfl) (by decide) rfl rfl rfl) rfl rfl ?_
          refine Rv rfl rfl rfl (U_move rfl) rfl rfl ?_
          refine Ra rfl rfl rfl (U_appL (n' := begun.length) rfl rfl rfl rfl (srcR (map_len1 _)) (by omega) (by omega) rfl) rfl rfl rfl ?_
          refine Rv rfl rfl rfl (U_move rfl) rfl rfl ?_
          refine Rv rfl rfl rfl (U_buildSliceF (by rfl) (by decide) rfl rfl rfl) rfl rfl ?_
          refine Ra rfl rfl rfl (OpU.frz (b := 1) (U_appO (b := 0) (m := 0) (cs' := (begun ++ [((t : Nat) : Int)]).map i64) (n' := (begun ++ [((t : Nat) : Int)]).length) rfl rfl (by simp) rfl (map_len1 _) rfl rfl (by omega) (appM _ _) (len1 _ _)) rfl (by simp) (mapD (fun _ => rfl) _) (Nat.le_refl _) (Nat.lt_succ_self _)) rfl rfl rfl ?_
          refine Rv rfl rfl rfl (U_move rfl) rfl rfl ?_
          refine Rv rfl rfl rfl (U_move rfl) rfl rfl ?_
          refine Rv rfl rfl rfl (U_add rfl rfl (w64e (m := ((t + 1 : Nat) : Int)) (by omega) (by omega) (by omega))) rfl rfl ?_
          refine Rv rfl rfl rfl (U_max (m := (((max used (t + 1)) : Nat) : Int)) rfl rfl (by omega)) rfl rfl ?_
          refine Rv rfl rfl rfl (U_move rfl) rfl rfl ?_
          refine Rv rfl rfl rfl (U_call rfl rfl (ih ((begun ++ [((t : Nat) : Int)])) none (max used (t + 1)) m (by simp; omega) (by omega) (by omega)) rfl) rfl rfl ?_
          refine Rv rfl rfl rfl (U_assign rfl) rfl rfl ?_
          refine Re rfl ?_
          refine thenQ_n ?_
          refine W_seq rfl ?_
          refine W_reg rfl ?_
          refine Rv rfl rfl rfl (U_move rfl) rfl rfl ?_
          refine Rv rfl rfl rfl (U_lenOf rfl len_ros) rfl rfl ?_
          refine Rv rfl rfl rfl (U_gtr rfl rfl) rfl rfl ?_
          refine Re rfl ?_
          refine thenQ_n ?_
          refine WcondP rfl rfl (fun hc5 => ?_) (fun hc5 => ?_)
          · have hln : 0 < (tntQ tab n d (begun ++ [(t : Int)]) (max used (t + 1)) m).length := by omega
            have hK : ((tntQ tab n d (begun ++ [(t : Int)]) (max used (t + 1)) m), difQ (tntQ tab n d (begun ++ [(t : Int)]) (max used (t + 1)) m)) = tntF tab n d begun used (L, m) t := by rw [tntF, hgt, cond_true, if_pos hln]
            have hm2 : difQ (tntQ tab n d (begun ++ [(t : Int)]) (max used (t + 1)) m) ≤ 11 := by have := tntQ_len (tab := tab) d (begun ++ [(t : Int)]) (max used (t + 1)) m (n := n) (by simp; omega); have := difQ_le (l := (tntQ tab n d (begun ++ [(t : Int)]) (max used (t + 1)) m)); omega
            have hTl := tntQ_len (tab := tab) d (begun ++ [(t : Int)]) (max used (t + 1)) m (n := n) (by simp; omega)
            refine W_seq rfl ?_
            refine W_reg rfl ?_
            refine Rv rfl rfl rfl (U_move rfl) rfl rfl ?_
            refine Rv rfl rfl rfl (U_assign rfl) rfl rfl ?_
            refine Re rfl ?_
            refine thenQ_n ?_
            refine W_reg rfl ?_
            refine Rv rfl rfl rfl (U_move rfl) rfl rfl ?_
            refine Rv rfl rfl rfl (U_call rfl rfl (different_p (tntQ tab n d (begun ++ [((t : Nat) : Int)]) (max used (t + 1)) m) none (by first | assumption | omega | (simp; done) | (simp; omega))) rfl) rfl rfl ?_
            refine Rv rfl rfl rfl (U_assign rfl) rfl rfl ?_
            refine Re rfl ?_
            refine blkQ_n ?_
            refine thenQ_n ?_
            refine W_reg rfl ?_
            refine Rv rfl rfl rfl (U_move rfl) rfl rfl ?_
            refine Rv rfl rfl rfl (U_add rfl rfl (w64e (m := ((t + 1 : Nat) : Int)) (by omega) (by omega) (by omega))) rfl rfl ?_
            refine Rv rfl rfl rfl (U_assign rfl) rfl rfl ?_
            refine Re rfl ?_
            refine thenQ_n ?_
            exact againTo (T' := [(0, .ros (tab.map n64) (n * n) (some (n * n))), (1, i64 ((n : Nat) : Int)), (2, .ros (begun.map i64) begun.length c), (3, i64 ((used : Nat) : Int)), (4, i64 (((difQ (tntQ tab n d (begun ++ [((t : Nat) : Int)]) (max used (t + 1)) m)) : Nat) : Int)), (11, .ros ((tntQ tab n d (begun ++ [((t : Nat) : Int)]) (max used (t + 1)) m).map i64) (tntQ tab n d (begun ++ [((t : Nat) : Int)]) (max used (t + 1)) m).length none), (12, i64 (((t + 1) : Nat) : Int))]) (H' := []) (n := 0) (used + 1 - (t + 1)) ⟨t + 1, tntQ tab n d (begun ++ [((t : Nat) : Int)]) (max used (t + 1)) m, difQ (tntQ tab n d (begun ++ [((t : Nat) : Int)]) (max used (t + 1)) m), (by rw [tntK_succ, ← hi0_0]; exact hK), (by omega), hm2, rfl, rfl⟩ (by omega) id ⟨eD rfl rfl, eD rfl rfl, eD rfl rfl, eD rfl rfl, eD rfl rfl, eD rfl rfl, eD rfl rfl, trivial⟩ trivial rfl rfl rfl rfl (fun _ _ => rfl)
          · have hln : ¬ 0 < (tntQ tab n d (begun ++ [(t : Int)]) (max used (t + 1)) m).length := by omega
            have hK : (L, m) = tntF tab n d begun used (L, m) t := by rw [tntF, hgt, cond_true, if_neg hln]
            have hm2 := hi0_2
            refine W_skip rfl ?_
            refine blkQ_n ?_
            refine thenQ_n ?_
            refine W_reg rfl ?_
            refine Rv rfl rfl rfl (U_move rfl) rfl rfl ?_
            refine Rv rfl rfl rfl (U_add rfl rfl (w64e (m := ((t + 1 : Nat) : Int)) (by omega) (by omega) (by omega))) rfl rfl ?_
            refine Rv rfl rfl rfl (U_assign rfl) rfl rfl ?_
            refine Re rfl ?_
            refine thenQ_n ?_
            exact againTo (T' := [(0, .ros (tab.map n64) (n * n) (some (n * n))), (1, i64 ((n : Nat) : Int)), (2, .ros (begun.map i64) begun.length c), (3, i64 ((used : Nat) : Int)), (4, i64 ((m : Nat) : Int)), (11, .ros (L.map i64) L.length none), (12, i64 (((t + 1) : Nat) : Int))]) (H' := []) (n := 0) (used + 1 - (t + 1)) ⟨t + 1, L, m, (by rw [tntK_succ, ← hi0_0]; exact hK), (by omega), hm2, rfl, rfl⟩ (by omega) id ⟨eD rfl rfl, eD rfl rfl, eD rfl rfl, eD rfl rfl, eD rfl rfl, eD rfl rfl, eD rfl rfl, trivial⟩ trivial rfl rfl rfl rfl (fun _ _ => rfl)
  · refine W_exit rfl ?_
    refine thenQ_x ?_
    refine thenQ_x ?_
    refine blkQ_x rfl ?_
    refine thenQ_n ?_
    refine W_seq rfl ?_
    refine W_reg rfl ?_
    refine Rv rfl rfl rfl (U_move rfl) rfl rfl ?_
    refine Rv rfl rfl rfl (U_assign rfl) rfl rfl ?_
    refine Re rfl ?_
    refine thenQ_n ?_
    refine W_ret rfl ?_
    exact retL (rlT rfl rl0) (by first | rfl | (simp only [packA]; rw [tntQ, if_neg h, show L = (tntK tab n d begun used most (used + 1)).1 by rw [show used + 1 = t by omega, ← hi0_0]]; rfl; first | done | rfl)) rfl
theorem tint_p (tab : List Nat) (n : Nat) (hn : n ≤ 10) (ht : tab.length = n * n) : ∀ (d : Nat), ∀ (begun : List Int) (c : Option Nat) (used most : Nat), begun.length + d = n → used ≤ 11 → most ≤ 11 → Pure Try.prog 88 [fldA tab (n * n), i64 (n : Nat), intsA begun c, i64 (used : Nat), i64 (most : Nat)] (listA (tntQ tab n d begun used most))
  | 0, begun, c, used, most, h, hu, hm => by
    rw [tntQ]; split
    · rename_i h2; exact tnt_few tab n hn ht begun c used most h2
    · rename_i h2; exact tnt_zero tab n hn ht begun c used most (by omega) h2
  | d + 1, begun, c, used, most, h, hu, hm => by
    by_cases h2 : most ≤ used
    · rw [tntQ, if_pos h2]; exact tnt_few tab n hn ht begun c used most h2
    · exact tnt_step tab n hn ht d (fun b c u m h1 h2 h3 => tint_p tab n hn ht d b c u m h1 h2 h3) begun c used most h hu hm h2
end Go.Proofs.Ythlolelbmhfdbaa
end

section
namespace Go.Proofs.Ythlolelbmhfdbaa
set_option maxRecDepth 20000
open Go.AE
theorem tnt_col {near : List (List Int)} {tab : List Nat} {n : Nat} (hn : near.length = n) (hg : ∀ (b : List Int) (t : Nat), b.length < n → gudK tab n b t b.length = goodT (near.getD b.length []) b t) : ∀ {d : Nat} {b : List Int} {u most : Nat}, 0 < n → Canon b u → b.length + d = n → tntQ tab n d b u most = ((colQ near d b u).foldl scF ([], most)).1
  | 0, b, u, most, _, h, hl => by
    unfold tntQ colQ
    simp only [List.foldl_cons, List.foldl_nil, scF]
    by_cases h2 : most ≤ u
    · rw [if_pos h2, if_neg (by omega)]
    · rw [if_neg h2, if_pos (by omega)]
  | d + 1, b, u, most, h0, h, hl => by
    by_cases h2 : most ≤ u
    · rw [tntQ, if_pos h2]
      rcases sc_split (colQ near (d + 1) b u) ([], most) with ⟨h1, _⟩ | ⟨h1, h3, _⟩
      · rw [h1]
      · have := (colQ_canon h _ h1).2.2
        simp only at h3; omega
    · have key : ∀ (s : List Int × Nat) (t : Nat), t < u + 1 → tntF tab n d b u s t = (colR near d b u t).foldl scF s := fun s t ht => by
        unfold tntF colR
        rw [hg b t (by omega)]
        cases hgg : goodT (near.getD b.length []) b t with
        | false => rfl
        | true =>
          simp only [cond_true]
          have hc := h.snoc (show t ≤ u by omega)
          have hl' : (b ++ [(t : Int)]).length + d = n := by rw [List.length_append]; simp; omega
          have ih := tnt_col hn hg (d := d) (most := s.2) h0 hc hl'
          rw [ih]
          rcases sc_split (colQ near d (b ++ [(t : Int)]) (max u (t + 1))) s with ⟨h1, h2⟩ | ⟨h1, h2, h3, h4, h5⟩
          · have h6 : (colQ near d (b ++ [(t : Int)]) (max u (t + 1))).foldl scF ([], s.2) = ([], s.2) := by
              rcases sc_split (colQ near d (b ++ [(t : Int)]) (max u (t + 1))) ([], s.2) with ⟨h7, _⟩ | ⟨h7, h8, _⟩
              · exact h7
              · have := h2 _ h7; simp only at h8; omega
            rw [h6, h1, if_neg (by simp)]
          · rw [h5 []]
            have h6 := colQ_canon hc _ h1
            rw [if_pos (by omega), h6.1.df]
      have : ∀ (l : List Nat), (∀ t ∈ l, t < u + 1) → ∀ s, l.foldl (tntF tab n d b u) s = (l.flatMap (colR near d b u)).foldl scF s := fun l => by
        induction l with
        | nil => intro _ s; rfl
        | cons a l ih =>
          intro hl2 s
          rw [List.foldl_cons, List.flatMap_cons, List.foldl_append, key s a (hl2 a (by simp)), ih fun t ht => hl2 t (List.mem_cons_of_mem _ ht)]
      rw [tntQ, if_neg h2, colQ_succ, ← this _ fun t ht => List.mem_range.1 ht]; rfl
theorem tin_tnt {near : List (List Int)} {tab : List Nat} (hok : NrOk near) (hg : ∀ (b : List Int) (t : Nat), b.length < near.length → gudK tab near.length b t b.length = goodT (near.getD b.length []) b t) : tntQ tab near.length near.length [] 0 (near.length + 1) = tinQ near := by
  rcases Nat.eq_zero_or_pos near.length with h0 | h0
  · have : near = [] := List.length_eq_zero_iff.1 h0
    subst this; rfl
  · obtain ⟨c, h1, h2, h3, _⟩ := tin_best hok h0
    rw [tnt_col rfl hg h0 Canon.nil (by simp), h2, h3]
theorem gud_good {Z H : Nat} {ls : List (List Bx)} (b : List Int) (t : Nat) (hb : b.length < ls.length) : gudK (tabQ Z H ls) ls.length b t b.length = goodT ((ntrK Z H ls ls.length).getD b.length []) b t := by
  have e : (ntrK Z H ls ls.length).getD b.length [] = ntrR Z H ls b.length b.length := by
    rw [List.getD_eq_getElem?_getD, List.getElem?_eq_getElem (by rw [ntrK_len]; exact hb)]; simp [ntrK]
  have ht : ∀ j, j < b.length → (tabQ Z H ls).getD (b.length * ls.length + j) 0 = if nrQ Z H (ls.getD b.length []) (ls.getD j []) = true then 1 else 0 := fun j hj => by
    have hz := zh_lt (Z := ls.length) (H := ls.length) (z := b.length) (h := j) hb (by omega)
    have hd := zh_div (H := ls.length) (z := b.length) (h := j) (by omega)
    have hlen : b.length * ls.length + j < (tabQ Z H ls).length := by rw [tabQ, tabK_len]; exact hz
    rw [getD_at hlen]
    simp only [tabQ, tabK, List.getElem_map, List.getElem_range, hd.1, hd.2]
    have a1 : tabD ls.length 0 b.length j = true := by unfold tabD; rw [Bool.or_eq_true]; simp; omega
    have a2 : tabB Z H ls b.length j = nrQ Z H (ls.getD b.length []) (ls.getD j []) := by unfold tabB; rw [if_pos hj]
    rw [a1, a2]
    cases nrQ Z H (ls.getD b.length []) (ls.getD j []) <;> rfl
  rw [e, Bool.eq_iff_iff, gudK, List.all_eq_true, goodT, Bool.not_eq_true', List.any_eq_false]
  constructor
  · intro h k hk
    obtain ⟨y, hy, rfl⟩ := List.mem_map.1 hk
    obtain ⟨h1, h2⟩ := List.mem_filter.1 hy
    have h3 := h y h1
    have h1 := List.mem_range.1 h1
    rw [ht y h1, if_pos h2] at h3
    simpa using h3
  · intro h j hj
    have hj' := List.mem_range.1 hj
    rw [ht j hj']
    by_cases h2 : nrQ Z H (ls.getD b.length []) (ls.getD j []) = true
    · have h3 := h (j : Int) (List.mem_map.2 ⟨j, List.mem_filter.2 ⟨hj, h2⟩, rfl⟩)
      rw [if_pos h2]
      simpa using h3
    · rw [if_neg h2]; simp
theorem tint_same {Z H : Nat} {ls : List (List Bx)} : tntQ (tabQ Z H ls) ls.length ls.length [] 0 (ls.length + 1) = tinQ (ntrK Z H ls ls.length) := by
  have h := tin_tnt (near := ntrK Z H ls ls.length) (tab := tabQ Z H ls) ntr_ok (fun b t hb => by rw [ntrK_len] at hb ⊢; exact gud_good b t hb)
  rwa [ntrK_len] at h
end Go.Proofs.Ythlolelbmhfdbaa
end

section
namespace Go.Proofs.Ythlolelbmhfdbaa
set_option maxRecDepth 20000
open Go.AE
theorem tintN_p (tab : List Nat) (n : Nat) (hn : n ≤ 10) (ht : tab.length = n * n) : Pure Try.prog 88 [fldA tab (n * n), i64 (n : Nat), .nils, i64 0, i64 (n + 1 : Nat)] (listA (tntQ tab n n [] 0 (n + 1))) :=
  (tint_p tab n hn ht n [] none 0 (n + 1) (by simp) (by omega) (by omega)).weak (leL_cons (le_refl _) (leL_cons (le_refl _) (leL_cons le_nils (leL_refl _))))
section
variable {H Z : Nat} {ls : List (List Bx)} {t : List Int} (hc : chkS ⟨H, Z, ls⟩ = 0)
include hc
end
theorem tinRf_e (s : Sk) (c : Option Nat) (hl : s.ls.length ≤ 1000000) (hbl : ∀ l ∈ s.ls, l.length ≤ 1000000) (hE : chkS s ≠ 0) : Pure Try.prog 38 [.agg [i64 s.h, i64 s.z, landsA s.ls c]] (.tup [intsA ([] : List Int) none, i64 (chkS s)]) := by
  refine pure_of_body Try.func38 (c := body Try.f38) rfl (by simp [Try.ntmps38]) fun w0 Φ0 => ?_
  refine W_seq rfl ?_
  refine W_reg rfl ?_
  refine Rv rfl rfl rfl (U_boxF rfl rfl rfl) rfl rfl ?_
  refine Rv rfl rfl rfl (U_assign rfl) rfl rfl ?_
  refine Rv rfl rfl rfl (U_assign rfl) rfl rfl ?_
  refine Re rfl ?_
  refine thenQ_n ?_
  refine W_seq rfl ?_
  refine W_seq rfl ?_
  refine W_reg rfl ?_
  refine Rv rfl rfl rfl (U_load3 rfl rfl rfl rfl rfl) rfl rfl ?_
  refine Rv rfl rfl rfl (U_call rfl rfl (chkSR_p s c hl hbl) rfl) rfl rfl ?_
  refine Rv rfl rfl rfl (U_neq rfl rfl) rfl rfl ?_
  refine Re rfl ?_
  refine thenQ_n ?_
  refine WcondP rfl rfl (fun hc0 => ?_) (fun hc0 => absurd (hE) hc0)
  refine W_seq rfl ?_
  refine W_reg rfl ?_
  refine Rv rfl rfl rfl (U_load3 rfl rfl rfl rfl rfl) rfl rfl ?_
  refine Rv rfl rfl rfl (U_call rfl rfl (chkSR_p s c hl hbl) rfl) rfl rfl ?_
  refine Rv rfl rfl rfl (U_assign rfl) rfl rfl ?_
  refine Rv rfl rfl rfl (U_assign rfl) rfl rfl ?_
  refine Re rfl ?_
  refine thenQ_n ?_
  refine WweakT (j := 2) rfl (le_nils (cs := [])) ?_
  refine W_ret rfl ?_
  refine thenQ_r ?_
  exact retL (rlT rfl (rlT rfl rl0)) (by first | rfl | (simp only [packA]; rw [opS_nil]; first | done | rfl)) rfl
theorem chtRf_e (s : Sk) (c : Option Nat) (hl : s.ls.length ≤ 1000000) (hbl : ∀ l ∈ s.ls, l.length ≤ 1000000) (t : List Int) (e : Option Nat) (hl2 : t.length ≤ 1000000) (hE : chkS s ≠ 0) : Pure Try.prog 36 [.agg [i64 s.h, i64 s.z, landsA s.ls c], intsA t e] (.tup [i64 0, i64 (chkS s)]) := by
  refine pure_of_body Try.func36 (c := body Try.f36) rfl (by simp [Try.ntmps36]) fun w0 Φ0 => ?_
  refine W_seq rfl ?_
  refine W_reg rfl ?_
  refine Rv rfl rfl rfl (U_boxF rfl rfl rfl) rfl rfl ?_
  refine Rv rfl rfl rfl (U_assign rfl) rfl rfl ?_
  refine Rv rfl rfl rfl (U_assign rfl) rfl rfl ?_
  refine Re rfl ?_
  refine thenQ_n ?_
  refine W_seq rfl ?_
  refine W_seq rfl ?_
  refine W_reg rfl ?_
  refine Rv rfl rfl rfl (U_load3 rfl rfl rfl rfl rfl) rfl rfl ?_
  refine Rv rfl rfl rfl (U_call rfl rfl (chkSR_p s c hl hbl) rfl) rfl rfl ?_
  refine Rv rfl rfl rfl (U_neq rfl rfl) rfl rfl ?_
  refine Re rfl ?_
  refine thenQ_n ?_
  refine WcondP rfl rfl (fun hc0 => ?_) (fun hc0 => absurd (hE) hc0)
  refine W_seq rfl ?_
  refine W_reg rfl ?_
  refine Rv rfl rfl rfl (U_load3 rfl rfl rfl rfl rfl) rfl rfl ?_
  refine Rv rfl rfl rfl (U_call rfl rfl (chkSR_p s c hl hbl) rfl) rfl rfl ?_
  refine Rv rfl rfl rfl (U_assign rfl) rfl rfl ?_
  refine Rv rfl rfl rfl (U_assign rfl) rfl rfl ?_
  refine Re rfl ?_
  refine thenQ_n ?_
  refine W_ret rfl ?_
  refine thenQ_r ?_
  exact retL (rlT rfl (rlT rfl rl0)) rfl rfl
theorem tinRf_g (H Z : Nat) (ls : List (List Bx)) (c : Option Nat) (hc : chkS ⟨H, Z, ls⟩ = 0) (hv : VS ⟨H, Z, ls⟩ H Z) : Pure Try.prog 38 [.agg [i64 (H : Nat), i64 (Z : Nat), landsA ls c]] (.tup [intsA (tinQ (ntrK Z H ls ls.length)) none, i64 0]) := by
  have hv' := hv
  obtain ⟨_, _, hH, hZ1, hln, hlb, hbx⟩ := hv'
  simp only at hln hlb hbx
  have hZ := hZ1.2
  have hHZ : Z * H ≤ 1152 := Nat.mul_le_mul hZ hH.2
  have hHZc : H * Z = Z * H := Nat.mul_comm _ _
  refine pure_of_body Try.func38 (c := body Try.f38) rfl (by simp [Try.ntmps38]) fun w0 Φ0 => ?_
  refine W_seq rfl ?_
  refine W_reg rfl ?_
  refine Rv rfl rfl rfl (U_boxF rfl rfl rfl) rfl rfl ?_
  refine Rv rfl rfl rfl (U_assign rfl) rfl rfl ?_
  refine Rv rfl rfl rfl (U_assign rfl) rfl rfl ?_
  refine Re rfl ?_
  refine thenQ_n ?_
  refine W_seq rfl ?_
  refine W_seq rfl ?_
  refine W_reg rfl ?_
  refine Rv rfl rfl rfl (U_load3 rfl rfl rfl rfl rfl) rfl rfl ?_
  refine Rv rfl rfl rfl (U_call rfl rfl (chkSRG_p H Z ls c hc hv) rfl) rfl rfl ?_
  refine Rv rfl rfl rfl (U_neq rfl rfl) rfl rfl ?_
  refine Re rfl ?_
  refine thenQ_n ?_
  refine WcondP rfl rfl (fun h => absurd h (by decide)) (fun _ => ?_)
  refine W_skip rfl ?_
  refine thenQ_n ?_
  refine W_seq rfl ?_
  refine Wdraw rfl (by kernel_rfl) (by kernel_rfl) ?_
  refine Dv rfl rfl rfl (U_load3 rfl rfl rfl rfl rfl) rfl rfl ?_
  refine Dv rfl rfl rfl (U_call rfl rfl (table_p H Z ls c hv) rfl) rfl rfl ?_
  refine Dv rfl rfl rfl (U_fieldAddrR rfl) rfl rfl ?_
  refine Dv rfl rfl rfl (U_load1 rfl rfl rfl) rfl rfl ?_
  refine Dv rfl rfl rfl (U_lenOf rfl len_ros) rfl rfl ?_
  refine Dv rfl rfl rfl (U_fieldAddrR rfl) rfl rfl ?_
  refine Dv rfl rfl rfl (U_load1 rfl rfl rfl) rfl rfl ?_
  refine Dv rfl rfl rfl (U_lenOf rfl len_ros) rfl rfl ?_
  refine Dv rfl rfl rfl (U_add rfl rfl (w64e (m := ((ls.length + 1 : Nat) : Int)) (by omega) (by omega) (by omega))) rfl rfl ?_
  refine Dv rfl rfl rfl (U_call rfl rfl (tintN_p (tabQ Z H ls) ls.length (by omega) (by rw [tabQ, tabK_len])) rfl) rfl rfl ?_
  refine Dv rfl rfl rfl (U_assign rfl) rfl rfl ?_
  refine Dv rfl rfl rfl (U_assign rfl) rfl rfl ?_
  refine Dr.nil rfl ?_
  refine thenQ_n ?_
  refine W_ret rfl ?_
  exact retL (rlT rfl (rlT rfl rl0)) (by first | rfl | (simp only [packA]; rw [tint_same]; first | done | rfl)) rfl
theorem tab_at {Z H i k : Nat} {ls : List (List Bx)} (hi : i < ls.length) (hk : k < i) (h : i * ls.length + k < (tabQ Z H ls).length) : (tabQ Z H ls)[i * ls.length + k] = if nrQ Z H ls[i] (ls[k]'(by omega)) = true then 1 else 0 := by
  have hd := zh_div (H := ls.length) (z := i) (h := k) (by omega)
  simp only [tabQ, tabK, List.getElem_map, List.getElem_range, hd.1, hd.2]
  have a1 : tabD ls.length 0 i k = true := by unfold tabD; rw [Bool.or_eq_true]; simp; omega
  have a2 : tabB Z H ls i k = nrQ Z H ls[i] (ls[k]'(by omega)) := by
    unfold tabB; rw [if_pos hk, List.getD_eq_getElem?_getD, List.getElem?_eq_getElem hi, List.getD_eq_getElem?_getD, List.getElem?_eq_getElem (by omega)]; rfl
  rw [a1, a2]
  cases nrQ Z H ls[i] (ls[k]'(by omega)) <;> rfl
theorem inL_false {l : List Int} {lo hi : Int} {k : Nat} (hk : k < l.length) (h : l[k] < lo ∨ hi < l[k]) : inL lo hi l = false := by
  rw [inL, List.all_eq_false]
  exact ⟨_, List.getElem_mem hk, by simp; omega⟩
theorem inL_true {l : List Int} {lo hi : Int} (h : ∀ k (hk : k < l.length), lo ≤ l[k] ∧ l[k] ≤ hi) : inL lo hi l = true := by
  rw [inL, List.all_eq_true]
  intro x hx
  obtain ⟨k, hk, rfl⟩ := List.getElem_of_mem hx
  have := h k hk
  simpa using this
theorem chtRf_g (H Z : Nat) (ls : List (List Bx)) (c : Option Nat) (hc : chkS ⟨H, Z, ls⟩ = 0) (hv : VS ⟨H, Z, ls⟩ H Z) (t : List Int) (e : Option Nat) (hl2 : t.length ≤ 1000000) : Pure Try.prog 36 [.agg [i64 (H : Nat), i64 (Z : Nat), landsA ls c], intsA t e] (.tup [i64 (chtR ⟨H, Z, ls⟩ t), i64 (chtE ⟨H, Z, ls⟩ t)]) := by
  have hv' := hv
  obtain ⟨_, _, hH, hZ1, hln, hlb, hbx⟩ := hv'
  simp only at hln hlb hbx
  have hZ := hZ1.2
  have hHZ : Z * H ≤ 1152 := Nat.mul_le_mul hZ hH.2
  have hHZc : H * Z = Z * H := Nat.mul_comm _ _
  have hnn : ls.length * ls.length ≤ 100 := Nat.mul_le_mul hln hln
  refine pure_of_body Try.func36 (c := body Try.f36) rfl (by simp [Try.ntmps36]) fun w0 Φ0 => ?_
  refine W_seq rfl ?_
  refine W_reg rfl ?_
  refine Rv rfl rfl rfl (U_boxF rfl rfl rfl) rfl rfl ?_
  refine Rv rfl rfl rfl (U_assign rfl) rfl rfl ?_
  refine Rv rfl rfl rfl (U_assign rfl) rfl rfl ?_
  refine Re rfl ?_
  refine thenQ_n ?_
  refine W_seq rfl ?_
  refine W_seq rfl ?_
  refine W_reg rfl ?_
  refine Rv rfl rfl rfl (U_load3 rfl rfl rfl rfl rfl) rfl rfl ?_
  refine Rv rfl rfl rfl (U_call rfl rfl (chkSRG_p H Z ls c hc hv) rfl) rfl rfl ?_
  refine Rv rfl rfl rfl (U_neq rfl rfl) rfl rfl ?_
  refine Re rfl ?_
  refine thenQ_n ?_
  refine WcondP rfl rfl (fun h => absurd h (by decide)) (fun _ => ?_)
  refine W_skip rfl ?_
  refine thenQ_n ?_
  refine W_seq rfl ?_
  refine W_reg rfl ?_
  refine Rv rfl rfl rfl (U_fieldAddrR rfl) rfl rfl ?_
  refine Rv rfl rfl rfl (U_load1 rfl rfl rfl) rfl rfl ?_
  refine Rv rfl rfl rfl (U_lenOf rfl len_ros) rfl rfl ?_
  refine Rv rfl rfl rfl (U_assign rfl) rfl rfl ?_
  refine Re rfl ?_
  refine thenQ_n ?_
  refine W_seq rfl ?_
  refine W_seq rfl ?_
  refine W_reg rfl ?_
  refine Rv rfl rfl rfl (U_move rfl) rfl rfl ?_
  refine Rv rfl rfl rfl (U_lenOf rfl len_ros) rfl rfl ?_
  refine Rv rfl rfl rfl (U_move rfl) rfl rfl ?_
  refine Rv rfl rfl rfl (U_neq rfl rfl) rfl rfl ?_
  refine Re rfl ?_
  refine thenQ_n ?_
  refine WcondP rfl rfl (fun hc1 => ?_) (fun hc1 => ?_)
  · have h15 := chtE_15 (t := t) hc (by omega)
    refine W_seq rfl ?_
    refine W_reg rfl ?_
    refine Rv rfl rfl rfl (U_assign rfl) rfl rfl ?_
    refine Rv rfl rfl rfl (U_assign rfl) rfl rfl ?_
    refine Re rfl ?_
    refine thenQ_n ?_
    refine W_ret rfl ?_
    refine thenQ_r ?_
    exact retL (rlT rfl (rlT rfl rl0)) (by first | rfl | (simp only [packA]; rw [h15.1, h15.2]; first | done | rfl) | (simp only [packA]; rw [h3.1, h3.2]; first | done | rfl) | (simp only [packA]; rw [h19.1, h19.2]; first | done | rfl) | (simp only [packA]; rw [h0.1, h0.2]; first | done | rfl)) rfl
  · rw [Decidable.not_not] at hc1
    have hlen : t.length = ls.length := by omega
    refine W_skip rfl ?_
    refine thenQ_n ?_
    refine W_seq rfl ?_
    refine W_seq rfl ?_
    refine W_reg rfl ?_
    refine Rv rfl rfl rfl (U_assign rfl) rfl rfl ?_
    refine Re rfl ?_
    refine thenQ_n ?_
    refine W_block rfl ?_
    refine LoopTo (T' := [(1, .ros (t.map i64) t.length e), (2, .rop [i64 ((H : Nat) : Int), i64 ((Z : Nat) : Int), .ros (ls.map boxesL) ls.length c] 0), (6, i64 ((ls.length : Nat) : Int)), (7, i64 ((0 : Nat) : Int))]) (H' := []) (n := 0) rfl (fun mz_ qz_ => ∃ (j : Nat), j ≤ ls.length ∧ ((∀ x (hx : x < t.length), x < j → 0 ≤ t[x] ∧ t[x] ≤ (ls.length : Int) - 1)) ∧ mz_ = ls.length - j ∧ qz_ = ⟨[(1, .ros (t.map i64) t.length e), (2, .rop [i64 ((H : Nat) : Int), i64 ((Z : Nat) : Int), .ros (ls.map boxesL) ls.length c] 0), (6, i64 ((ls.length : Nat) : Int)), (7, i64 ((j : Nat) : Int))], [], 0, []⟩) ⟨0, (by omega), (fun _ _ h => absurd h (Nat.not_lt_zero _)), rfl, rfl⟩ id ⟨eD rfl rfl, eD rfl rfl, eD rfl rfl, eD rfl rfl, trivial⟩ trivial rfl rfl rfl rfl (fun _ _ => rfl) ?_
    rintro _ _ ⟨j, hi0_0, hi0_1, rfl, rfl⟩
    refine W_seq rfl ?_
    refine W_seq rfl ?_
    refine W_reg rfl ?_
    refine Rv rfl rfl rfl (U_move rfl) rfl rfl ?_
    refine Rv rfl rfl rfl (U_move rfl) rfl rfl ?_
    refine Rv rfl rfl rfl (U_lss rfl rfl) rfl rfl ?_
    refine Re rfl ?_
    refine thenQ_n ?_
    refine WcondP rfl rfl (fun hc2 => ?_) (fun hc2 => ?_)
    · have hcj : j < t.length := by omega
      refine W_skip rfl ?_
      refine thenQ_n ?_
      refine W_seq rfl ?_
      refine W_block rfl ?_
      refine W_seq rfl ?_
      refine Wjoin ⟨[(1, .ros (t.map i64) t.length e), (2, .rop [i64 ((H : Nat) : Int), i64 ((Z : Nat) : Int), .ros (ls.map boxesL) ls.length c] 0), (6, i64 ((ls.length : Nat) : Int)), (7, i64 ((j : Nat) : Int)), (40, .bool ((decide (t[j] < 0)) || (decide (((ls.length : Nat) : Int) ≤ t[j]))))], [], 0, []⟩ ?_ ?_
      · refine W_reg rfl ?_
        refine Rv rfl rfl rfl (U_move rfl) rfl rfl ?_
        refine Rv rfl rfl rfl (U_move rfl) rfl rfl ?_
        have hx1 : j < t.length := by omega
        refine Rv rfl rfl rfl (U_indexR (j := j) rfl rfl rfl hx1) rfl rfl ?_
        refine Rv rfl rfl rfl (U_load1 rfl rfl (getM hx1)) rfl rfl ?_
        refine Rv rfl rfl rfl (U_lss rfl rfl) rfl rfl ?_
        refine Rv rfl rfl rfl (U_move rfl) rfl rfl ?_
        refine Rsplit (t := 33) rfl (fun hg2 => ?_) (fun hg2 => ?_)
        · rw [hg2]
          have hg2' : t[j] < 0 := of_decide_eq_true hg2
          refine Rs rfl rfl rfl rfl rfl ?_
          refine Rs rfl rfl rfl rfl rfl ?_
          refine Rs rfl rfl rfl rfl rfl ?_
          refine Rs rfl rfl rfl rfl rfl ?_
          refine Rs rfl rfl rfl rfl rfl ?_
          refine Rs rfl rfl rfl rfl rfl ?_
          refine Rv rfl rfl rfl (U_pick_t rfl rfl) rfl rfl ?_
          refine Re rfl ?_
          exact joinTo id ⟨eD rfl rfl, eD rfl rfl, eD rfl rfl, eD rfl rfl, eD rfl rfl, trivial⟩ trivial rfl rfl rfl rfl (fun _ _ => rfl)
        · rw [hg2]
          have hg2' : ¬ (t[j] < 0) := of_decide_eq_false hg2
          refine Rv rfl rfl rfl (U_move rfl) rfl rfl ?_
          refine Rv rfl rfl rfl (U_move rfl) rfl rfl ?_
          refine Rv rfl rfl rfl (U_indexR (j := j) rfl rfl rfl hx1) rfl rfl ?_
          refine Rv rfl rfl rfl (U_load1 rfl rfl (getM hx1)) rfl rfl ?_
          refine Rv rfl rfl rfl (U_move rfl) rfl rfl ?_
          refine Rv rfl rfl rfl (U_geq rfl rfl) rfl rfl ?_
          refine Rv rfl rfl rfl (U_pick_f rfl rfl) rfl rfl ?_
          refine Re rfl ?_
          exact joinTo id ⟨eD rfl rfl, eD rfl rfl, eD rfl rfl, eD rfl rfl, eD rfl rfl, trivial⟩ trivial rfl rfl rfl rfl (fun _ _ => rfl)
      refine thenQ_n ?_
      refine Wcond rfl rfl (fun hc3 => ?_) (fun hc3 => ?_)
      · have h3 := chtE_3 (t := t) hc hlen (inL_false hcj (by simp at hc3; omega))
        refine W_seq rfl ?_
        refine W_reg rfl ?_
        refine Rv rfl rfl rfl (U_assign rfl) rfl rfl ?_
        refine Rv rfl rfl rfl (U_assign rfl) rfl rfl ?_
        refine Re rfl ?_
        refine thenQ_n ?_
        refine W_ret rfl ?_
        refine blkQ_r ?_
        refine thenQ_r ?_
        refine thenQ_r ?_
        refine blkQ_r ?_
        refine thenQ_r ?_
        exact retL (rlT rfl (rlT rfl rl0)) (by first | rfl | (simp only [packA]; rw [h15.1, h15.2]; first | done | rfl) | (simp only [packA]; rw [h3.1, h3.2]; first | done | rfl) | (simp only [packA]; rw [h19.1, h19.2]; first | done | rfl) | (simp only [packA]; rw [h0.1, h0.2]; first | done | rfl)) rfl
      · have hc3' := Bool.eq_false_iff.1 hc3
        refine W_skip rfl ?_
        refine blkQ_n ?_
        refine thenQ_n ?_
        refine W_reg rfl ?_
        refine Rv rfl rfl rfl (U_move rfl) rfl rfl ?_
        refine Rv rfl rfl rfl (U_add rfl rfl (w64e (m := ((j + 1 : Nat) : Int)) (by omega) (by omega) (by omega))) rfl rfl ?_
        refine Rv rfl rfl rfl (U_assign rfl) rfl rfl ?_
        refine Re rfl ?_
        refine thenQ_n ?_
        exact againTo (T' := [(1, .ros (t.map i64) t.length e), (2, .rop [i64 ((H : Nat) : Int), i64 ((Z : Nat) : Int), .ros (ls.map boxesL) ls.length c] 0), (6, i64 ((ls.length : Nat) : Int)), (7, i64 (((j + 1) : Nat) : Int))]) (H' := []) (n := 0) (ls.length - (j + 1)) ⟨j + 1, (by omega), (by intro x hx h; rcases Nat.lt_succ_iff_lt_or_eq.1 h with h | rfl; exact hi0_1 x hx h; simp at hc3; omega), rfl, rfl⟩ (by omega) id ⟨eD rfl rfl, eD rfl rfl, eD rfl rfl, eD rfl rfl, trivial⟩ trivial rfl rfl rfl rfl (fun _ _ => rfl)
    · have hinl : inL 0 ((ls.length : Int) - 1) t = true := inL_true fun x hx => hi0_1 x hx (by omega)
      refine W_exit rfl ?_
      refine thenQ_x ?_
      refine thenQ_x ?_
      refine blkQ_x rfl ?_
      refine thenQ_n ?_
      refine W_seq rfl ?_
      refine W_reg rfl ?_
      refine Rv rfl rfl rfl (U_load3 rfl rfl rfl rfl rfl) rfl rfl ?_
      refine Rv rfl rfl rfl (U_call rfl rfl (table_p H Z ls c hv) rfl) rfl rfl ?_
      refine Rv rfl rfl rfl (U_assign rfl) rfl rfl ?_
      refine Re rfl ?_
      refine thenQ_n ?_
      refine W_seq rfl ?_
      refine W_seq rfl ?_
      refine W_reg rfl ?_
      refine Rv rfl rfl rfl (U_assign rfl) rfl rfl ?_
      refine Re rfl ?_
      refine thenQ_n ?_
      refine W_block rfl ?_
      refine LoopTo (T' := [(1, .ros (t.map i64) t.length e), (6, i64 ((ls.length : Nat) : Int)), (8, .ros ((tabQ Z H ls).map n64) (ls.length * ls.length) (some (ls.length * ls.length))), (9, i64 ((0 : Nat) : Int))]) (H' := []) (n := 0) rfl (fun mz_ qz_ => ∃ (i : Nat), i ≤ ls.length ∧ noC Z H ls t i ∧ mz_ = ls.length - i ∧ qz_ = ⟨[(1, .ros (t.map i64) t.length e), (6, i64 ((ls.length : Nat) : Int)), (8, .ros ((tabQ Z H ls).map n64) (ls.length * ls.length) (some (ls.length * ls.length))), (9, i64 ((i : Nat) : Int))], [], 0, []⟩) ⟨0, (by omega), noC_0, rfl, rfl⟩ id ⟨eD rfl rfl, eD rfl rfl, eD rfl rfl, eD rfl rfl, trivial⟩ trivial rfl rfl rfl rfl (fun _ _ => rfl) ?_
      rintro _ _ ⟨i, hi1_0, hi1_1, rfl, rfl⟩
      refine W_seq rfl ?_
      refine W_seq rfl ?_
      refine W_reg rfl ?_
      refine Rv rfl rfl rfl (U_move rfl) rfl rfl ?_
      refine Rv rfl rfl rfl (U_move rfl) rfl rfl ?_
      refine Rv rfl rfl rfl (U_lss rfl rfl) rfl rfl ?_
      refine Re rfl ?_
      refine thenQ_n ?_
      refine WcondP rfl rfl (fun hc4 => ?_) (fun hc4 => ?_)
      · have hci : i < ls.length := by omega
        refine W_skip rfl ?_
        refine thenQ_n ?_
        refine W_seq rfl ?_
        refine W_block rfl ?_
        refine W_seq rfl ?_
        refine W_reg rfl ?_
        refine Rv rfl rfl rfl (U_assign rfl) rfl rfl ?_
        refine Re rfl ?_
        refine thenQ_n ?_
        refine W_block rfl ?_
        refine LoopTo (T' := [(1, .ros (t.map i64) t.length e), (6, i64 ((ls.length : Nat) : Int)), (8, .ros ((tabQ Z H ls).map n64) (ls.length * ls.length) (some (ls.length * ls.length))), (9, i64 ((i : Nat) : Int)), (10, i64 ((0 : Nat) : Int))]) (H' := []) (n := 0) rfl (fun mz_ qz_ => ∃ (k : Nat), k ≤ i ∧ noR Z H ls t i k ∧ mz_ = i - k ∧ qz_ = ⟨[(1, .ros (t.map i64) t.length e), (6, i64 ((ls.length : Nat) : Int)), (8, .ros ((tabQ Z H ls).map n64) (ls.length * ls.length) (some (ls.length * ls.length))), (9, i64 ((i : Nat) : Int)), (10, i64 ((k : Nat) : Int))], [], 0, []⟩) ⟨0, (by omega), noR_0, rfl, rfl⟩ id ⟨eD rfl rfl, eD rfl rfl, eD rfl rfl, eD rfl rfl, eD rfl rfl, trivial⟩ trivial rfl rfl rfl rfl (fun _ _ => rfl) ?_
        rintro _ _ ⟨k, hi2_0, hi2_1, rfl, rfl⟩
        refine W_seq rfl ?_
        refine W_seq rfl ?_
        refine W_reg rfl ?_
        refine Rv rfl rfl rfl (U_move rfl) rfl rfl ?_
        refine Rv rfl rfl rfl (U_move rfl) rfl rfl ?_
        refine Rv rfl rfl rfl (U_lss rfl rfl) rfl rfl ?_
        refine Re rfl ?_
        refine thenQ_n ?_
        refine WcondP rfl rfl (fun hc5 => ?_) (fun hc5 => ?_)
        · have hck : k < i := by omega
          have hzk := zh_lt (Z := ls.length) (H := ls.length) (z := i) (h := k) hci (by omega)
          have htz : (tabQ Z H ls).length = ls.length * ls.length := by rw [tabQ, tabK_len]
          have hta := tab_at (Z := Z) (H := H) hci hck (by rw [tabQ, tabK_len]; exact hzk)
          refine W_skip rfl ?_
          refine thenQ_n ?_
          refine W_seq rfl ?_
          refine W_block rfl ?_
          refine W_seq rfl ?_
          refine Wjoin ⟨[(1, .ros (t.map i64) t.length e), (6, i64 ((ls.length : Nat) : Int)), (8, .ros ((tabQ Z H ls).map n64) (ls.length * ls.length) (some (ls.length * ls.length))), (9, i64 ((i : Nat) : Int)), (10, i64 ((k : Nat) : Int)), (72, .bool ((decide ((((tabQ Z H ls)[(i * ls.length + k)] : Nat) : Int) = (1 : Int))) && (decide (t[i] = t[k]))))], [], 0, []⟩ ?_ ?_
          · refine Wdraw rfl (by kernel_rfl) (by kernel_rfl) ?_
            refine Dv rfl rfl rfl (U_move rfl) rfl rfl ?_
            refine Dv rfl rfl rfl (U_move rfl) rfl rfl ?_
            refine Dv rfl rfl rfl (U_move rfl) rfl rfl ?_
            refine Dv rfl rfl rfl (U_mul rfl rfl (w64e (m := ((i * ls.length : Nat) : Int)) (by omega) (by omega) (by omega))) rfl rfl ?_
            refine Dv rfl rfl rfl (U_move rfl) rfl rfl ?_
            refine Dv rfl rfl rfl (U_add rfl rfl (w64e (m := ((i * ls.length + k : Nat) : Int)) (by omega) (by omega) (by omega))) rfl rfl ?_
            have hx3 : (i * ls.length + k) < (tabQ Z H ls).length := by rw [tabQ, tabK_len]; exact hzk
            refine Dv rfl rfl rfl (U_indexR (j := (i * ls.length + k)) rfl rfl rfl (by omega)) rfl rfl ?_
            refine Dv rfl rfl rfl (U_load1 rfl rfl (getM hx3)) rfl rfl ?_
            refine Dv rfl rfl rfl (U_eql rfl rfl) rfl rfl ?_
            refine Dv rfl rfl rfl (U_move rfl) rfl rfl ?_
            refine Dsplit (t := 62) rfl (fun hg4 => ?_) (fun hg4 => ?_)
            · rw [hg4]
              have hg4' : (((tabQ Z H ls)[(i * ls.length + k)] : Nat) : Int) = (1 : Int) := of_decide_eq_true hg4
              refine Dv rfl rfl rfl (U_move rfl) rfl rfl ?_
              refine Dv rfl rfl rfl (U_move rfl) rfl rfl ?_
              have hx5 : i < t.length := by omega
              refine Dv rfl rfl rfl (U_indexR (j := i) rfl rfl rfl hx5) rfl rfl ?_
              refine Dv rfl rfl rfl (U_load1 rfl rfl (getM hx5)) rfl rfl ?_
              refine Dv rfl rfl rfl (U_move rfl) rfl rfl ?_
              refine Dv rfl rfl rfl (U_move rfl) rfl rfl ?_
              have hx6 : k < t.length := by omega
              refine Dv rfl rfl rfl (U_indexR (j := k) rfl rfl rfl hx6) rfl rfl ?_
              refine Dv rfl rfl rfl (U_load1 rfl rfl (getM hx6)) rfl rfl ?_
              refine Dv rfl rfl rfl (U_eql rfl rfl) rfl rfl ?_
              refine Dv rfl rfl rfl (U_pick_t rfl rfl) rfl rfl ?_
              refine Dr.nil rfl ?_
              exact joinTo id ⟨eD rfl rfl, eD rfl rfl, eD rfl rfl, eD rfl rfl, eD rfl rfl, eD rfl rfl, trivial⟩ trivial rfl rfl rfl rfl (fun _ _ => rfl)
            · rw [hg4]
              have hg4' : ¬ ((((tabQ Z H ls)[(i * ls.length + k)] : Nat) : Int) = (1 : Int)) := of_decide_eq_false hg4
              refine Ds rfl rfl rfl rfl rfl ?_
              refine Ds rfl rfl rfl rfl rfl ?_
              refine Ds rfl rfl rfl rfl rfl ?_
              refine Ds rfl rfl rfl rfl rfl ?_
              refine Ds rfl rfl rfl rfl rfl ?_
              refine Ds rfl rfl rfl rfl rfl ?_
              refine Ds rfl rfl rfl rfl rfl ?_
              refine Ds rfl rfl rfl rfl rfl ?_
              refine Ds rfl rfl rfl rfl rfl ?_
              refine Dv rfl rfl rfl (U_pick_f rfl rfl) rfl rfl ?_
              refine Dr.nil rfl ?_
              exact joinTo id ⟨eD rfl rfl, eD rfl rfl, eD rfl rfl, eD rfl rfl, eD rfl rfl, eD rfl rfl, trivial⟩ trivial rfl rfl rfl rfl (fun _ _ => rfl)
          refine thenQ_n ?_
          refine Wcond rfl rfl (fun hc6 => ?_) (fun hc6 => ?_)
          · have hcc : nrQ Z H ls[i] ls[k] = true ∧ t[i] = t[k] := by simp at hc6; rw [hta] at hc6; refine ⟨?_, hc6.2⟩; by_cases e : nrQ Z H ls[i] ls[k] = true; exact e; rw [if_neg e] at hc6; omega
            have h19 := chtE_19 hc hlen hinl (cfl_true (i := i) (k := k) hlen hci hck hcc.2 hcc.1)
            refine W_seq rfl ?_
            refine W_reg rfl ?_
            refine Rv rfl rfl rfl (U_assign rfl) rfl rfl ?_
            refine Rv rfl rfl rfl (U_assign rfl) rfl rfl ?_
            refine Re rfl ?_
            refine thenQ_n ?_
            refine W_ret rfl ?_
            refine blkQ_r ?_
            refine thenQ_r ?_
            refine thenQ_r ?_
            refine blkQ_r ?_
            refine blkQ_r ?_
            refine thenQ_r ?_
            refine thenQ_r ?_
            refine blkQ_r ?_
            refine thenQ_r ?_
            exact retL (rlT rfl (rlT rfl rl0)) (by first | rfl | (simp only [packA]; rw [h15.1, h15.2]; first | done | rfl) | (simp only [packA]; rw [h3.1, h3.2]; first | done | rfl) | (simp only [packA]; rw [h19.1, h19.2]; first | done | rfl) | (simp only [packA]; rw [h0.1, h0.2]; first | done | rfl)) rfl
          · have hc6' := Bool.eq_false_iff.1 hc6
            have hno : ¬ (t[i] = t[k] ∧ nrQ Z H ls[i] ls[k] = true) := by rintro ⟨h1, h2⟩; simp at hc6; rw [hta, if_pos h2] at hc6; exact hc6 rfl h1
            refine W_skip rfl ?_
            refine blkQ_n ?_
            refine thenQ_n ?_
            refine W_reg rfl ?_
            refine Rv rfl rfl rfl (U_move rfl) rfl rfl ?_
            refine Rv rfl rfl rfl (U_add rfl rfl (w64e (m := ((k + 1 : Nat) : Int)) (by omega) (by omega) (by omega))) rfl rfl ?_
            refine Rv rfl rfl rfl (U_assign rfl) rfl rfl ?_
            refine Re rfl ?_
            refine thenQ_n ?_
            exact againTo (T' := [(1, .ros (t.map i64) t.length e), (6, i64 ((ls.length : Nat) : Int)), (8, .ros ((tabQ Z H ls).map n64) (ls.length * ls.length) (some (ls.length * ls.length))), (9, i64 ((i : Nat) : Int)), (10, i64 (((k + 1) : Nat) : Int))]) (H' := []) (n := 0) (i - (k + 1)) ⟨k + 1, (by omega), (noR_succ hi2_1 (by omega) (by omega) hlen hno), rfl, rfl⟩ (by omega) id ⟨eD rfl rfl, eD rfl rfl, eD rfl rfl, eD rfl rfl, eD rfl rfl, trivial⟩ trivial rfl rfl rfl rfl (fun _ _ => rfl)
        · have hrow : noR Z H ls t i i := by rw [show k = i by omega] at hi2_1; exact hi2_1
          refine W_exit rfl ?_
          refine thenQ_x ?_
          refine thenQ_x ?_
          refine blkQ_x rfl ?_
          refine blkQ_n ?_
          refine thenQ_n ?_
          refine W_reg rfl ?_
          refine Rv rfl rfl rfl (U_move rfl) rfl rfl ?_
          refine Rv rfl rfl rfl (U_add rfl rfl (w64e (m := ((i + 1 : Nat) : Int)) (by omega) (by omega) (by omega))) rfl rfl ?_
          refine Rv rfl rfl rfl (U_assign rfl) rfl rfl ?_
          refine Re rfl ?_
          refine thenQ_n ?_
          exact againTo (T' := [(1, .ros (t.map i64) t.length e), (6, i64 ((ls.length : Nat) : Int)), (8, .ros ((tabQ Z H ls).map n64) (ls.length * ls.length) (some (ls.length * ls.length))), (9, i64 (((i + 1) : Nat) : Int))]) (H' := []) (n := 0) (ls.length - (i + 1)) ⟨i + 1, (by omega), (noC_succ hi1_1 hrow), rfl, rfl⟩ (by omega) id ⟨eD rfl rfl, eD rfl rfl, eD rfl rfl, eD rfl rfl, trivial⟩ trivial rfl rfl rfl rfl (fun _ _ => rfl)
      · have hcf := noC_all hlen (by rw [show ls.length = i by omega]; exact hi1_1)
        have h0 := chtE_0 hc hlen hinl hcf
        refine W_exit rfl ?_
        refine thenQ_x ?_
        refine thenQ_x ?_
        refine blkQ_x rfl ?_
        refine thenQ_n ?_
        refine W_seq rfl ?_
        refine W_reg rfl ?_
        refine Rv rfl rfl rfl (U_move rfl) rfl rfl ?_
        refine Rv rfl rfl rfl (U_call rfl rfl (different_p t e (by first | assumption | omega | (simp; done) | (simp; omega))) rfl) rfl rfl ?_
        refine Rv rfl rfl rfl (U_assign rfl) rfl rfl ?_
        refine Rv rfl rfl rfl (U_assign rfl) rfl rfl ?_
        refine Re rfl ?_
        refine thenQ_n ?_
        refine W_ret rfl ?_
        exact retL (rlT rfl (rlT rfl rl0)) (by first | rfl | (simp only [packA]; rw [h15.1, h15.2]; first | done | rfl) | (simp only [packA]; rw [h3.1, h3.2]; first | done | rfl) | (simp only [packA]; rw [h19.1, h19.2]; first | done | rfl) | (simp only [packA]; rw [h0.1, h0.2]; first | done | rfl)) rfl
theorem tinRfA_p (s : Sk) (c : Option Nat) (hl : s.ls.length ≤ 1000000) (hbl : ∀ l ∈ s.ls, l.length ≤ 1000000) : Pure Try.prog 38 [.agg [i64 s.h, i64 s.z, landsA s.ls c]] (.tup [intsA (tinR s) none, i64 (chkS s)]) := by
  by_cases hE : chkS s = 0
  · obtain ⟨H, Z, ls, rfl, hc, hv⟩ := chk_ok hE
    rw [tinR_g hc, hE]
    exact tinRf_g H Z ls c hc hv
  · have e : tinR s = [] := if_neg hE
    rw [e]
    exact tinRf_e s c hl hbl hE
theorem chtRfA_p (s : Sk) (c : Option Nat) (hl : s.ls.length ≤ 1000000) (hbl : ∀ l ∈ s.ls, l.length ≤ 1000000) (t : List Int) (e : Option Nat) (hl2 : t.length ≤ 1000000) : Pure Try.prog 36 [.agg [i64 s.h, i64 s.z, landsA s.ls c], intsA t e] (.tup [i64 (chtR s t), i64 (chtE s t)]) := by
  by_cases hE : chkS s = 0
  · obtain ⟨H, Z, ls, rfl, hc, hv⟩ := chk_ok hE
    exact chtRf_g H Z ls c hc hv t e hl2
  · rw [(chtE_e hE).1, (chtE_e hE).2]
    exact chtRf_e s c hl hbl t e hl2 hE
end Go.Proofs.Ythlolelbmhfdbaa
end

section
namespace Go.Proofs.Ythlolelbmhfdbaa
set_option maxRecDepth 20000
open Go.AE
def mostQ (ls : List (List Bx)) : Int := ls.foldl (fun m l => max m (l.length : Int)) 0
theorem mostQ_take {ls : List (List Bx)} {i : Nat} (hi : i < ls.length) : mostQ (ls.take (i + 1)) = max (mostQ (ls.take i)) (ls[i].length : Int) := by
  unfold mostQ; rw [List.take_succ_eq_append_getElem hi, List.foldl_append]; rfl
theorem mostF_ge {ls : List (List Bx)} : ∀ {m : Int}, m ≤ ls.foldl (fun m l => max m (l.length : Int)) m := by
  induction ls with
  | nil => intro m; exact Int.le_refl m
  | cons a l ih => intro m; exact Int.le_trans (Int.le_max_left m _) ih
theorem mostF_mem {ls : List (List Bx)} : ∀ {m : Int} {l : List Bx}, l ∈ ls → (l.length : Int) ≤ ls.foldl (fun m l => max m (l.length : Int)) m := by
  induction ls with
  | nil => intro m l h; cases h
  | cons a r ih =>
    intro m l h
    cases h with
    | head => exact Int.le_trans (Int.le_max_right m _) mostF_ge
    | tail _ h => exact ih h
theorem mostQ_mem {ls : List (List Bx)} {l : List Bx} (h : l ∈ ls) : (l.length : Int) ≤ mostQ ls := mostF_mem h
def grt (s : Sk) : Bool := decide (14 < s.ls.length) || (decide (610 < mostQ s.ls) || (decide (chkS s = 0) && (decide (120 < s.h * s.z) || decide (30 < mostQ s.ls))))
theorem chkS_hz {s : Sk} (h : chkS s = 0) : 1 ≤ s.h ∧ s.h ≤ 48 ∧ 1 ≤ s.z ∧ s.z ≤ 24 ∧ 1 ≤ s.h * s.z ∧ s.h * s.z ≤ 1152 := by
  obtain ⟨H, Z, e1, e2, hH, hZ, _⟩ := vs_of h
  have := Int.mul_le_mul (show s.h ≤ 48 by omega) (show s.z ≤ 24 by omega) (by omega) (by omega)
  have := Int.mul_pos (show 0 < s.h by omega) (show 0 < s.z by omega)
  omega
theorem grt_ls {s : Sk} (h : grt s = false) : s.ls.length ≤ 1000000 := by
  simp [grt] at h; omega
theorem grt_bl {s : Sk} (h : grt s = false) : ∀ l ∈ s.ls, l.length ≤ 1000000 := by
  intro l hl; have := mostQ_mem hl; simp [grt] at h; omega
theorem bl_most {ls : List (List Bx)} (h : mostQ ls ≤ 610) : ∀ l ∈ ls, l.length ≤ 1000000 := by
  intro l hl; have := mostQ_mem hl; omega
theorem great_p (s : Sk) (c : Option Nat) : Pure Try.prog 16 [.agg [i64 s.h, i64 s.z, landsA s.ls c]] (.bool (grt s)) := by
  refine pure_of_body Try.func16 (c := body Try.f16) rfl (by simp [Try.ntmps16]) fun w0 Φ0 => ?_
  refine W_seq rfl ?_
  refine W_reg rfl ?_
  refine Rv rfl rfl rfl (U_boxF rfl rfl rfl) rfl rfl ?_
  refine Rv rfl rfl rfl (U_assign rfl) rfl rfl ?_
  refine Re rfl ?_
  refine thenQ_n ?_
  refine W_seq rfl ?_
  refine W_seq rfl ?_
  refine W_reg rfl ?_
  refine Rv rfl rfl rfl (U_fieldAddrR rfl) rfl rfl ?_
  refine Rv rfl rfl rfl (U_load1 rfl rfl rfl) rfl rfl ?_
  refine Rv rfl rfl rfl (U_lenOf rfl len_ros) rfl rfl ?_
  refine Rv rfl rfl rfl (U_gtr rfl rfl) rfl rfl ?_
  refine Re rfl ?_
  refine thenQ_n ?_
  refine WcondP rfl rfl (fun hc0 => ?_) (fun hc0 => ?_)
  · refine W_seq rfl ?_
    refine W_reg rfl ?_
    refine Rv rfl rfl rfl (U_assign rfl) rfl rfl ?_
    refine Re rfl ?_
    refine thenQ_n ?_
    refine W_ret rfl ?_
    refine thenQ_r ?_
    exact retL (rlT rfl rl0) (by first | rfl | (exact congrArg AV.bool (by unfold grt; first | (rw [show decide (14 < s.ls.length) = true from decide_eq_true (by omega)]; rfl) | (rw [show decide (14 < s.ls.length) = false from decide_eq_false (by omega), hmq, Bool.false_or])); done)) rfl
  · refine W_skip rfl ?_
    refine thenQ_n ?_
    refine W_seq rfl ?_
    refine W_reg rfl ?_
    refine Rv rfl rfl rfl (U_assign rfl) rfl rfl ?_
    refine Re rfl ?_
    refine thenQ_n ?_
    refine W_seq rfl ?_
    refine W_seq rfl ?_
    refine W_reg rfl ?_
    refine Rv rfl rfl rfl (U_assign rfl) rfl rfl ?_
    refine Re rfl ?_
    refine thenQ_n ?_
    refine W_block rfl ?_
    refine LoopTo (T' := [(1, .rop [i64 s.h, i64 s.z, .ros (s.ls.map boxesL) s.ls.length c] 0), (3, i64 0), (4, i64 ((0 : Nat) : Int))]) (H' := []) (n := 0) rfl (fun mz_ qz_ => ∃ (i : Nat) (m : Int), i ≤ s.ls.length ∧ m = mostQ (s.ls.take i) ∧ mz_ = s.ls.length - i ∧ qz_ = ⟨[(1, .rop [i64 s.h, i64 s.z, .ros (s.ls.map boxesL) s.ls.length c] 0), (3, i64 m), (4, i64 ((i : Nat) : Int))], [], 0, []⟩) ⟨0, 0, (by omega), rfl, rfl, rfl⟩ id ⟨eD rfl rfl, eD rfl rfl, eD rfl rfl, trivial⟩ trivial rfl rfl rfl rfl (fun _ _ => rfl) ?_
    rintro _ _ ⟨i, m, hi0_0, hi0_1, rfl, rfl⟩
    refine W_seq rfl ?_
    refine W_seq rfl ?_
    refine W_reg rfl ?_
    refine Rv rfl rfl rfl (U_move rfl) rfl rfl ?_
    refine Rv rfl rfl rfl (U_fieldAddrR rfl) rfl rfl ?_
    refine Rv rfl rfl rfl (U_load1 rfl rfl rfl) rfl rfl ?_
    refine Rv rfl rfl rfl (U_lenOf rfl len_ros) rfl rfl ?_
    refine Rv rfl rfl rfl (U_lss rfl rfl) rfl rfl ?_
    refine Re rfl ?_
    refine thenQ_n ?_
    refine WcondP rfl rfl (fun hc1 => ?_) (fun hc1 => ?_)
    · refine W_skip rfl ?_
      refine thenQ_n ?_
      refine W_seq rfl ?_
      refine W_block rfl ?_
      refine W_reg rfl ?_
      refine Rv rfl rfl rfl (U_move rfl) rfl rfl ?_
      refine Rv rfl rfl rfl (U_fieldAddrR rfl) rfl rfl ?_
      refine Rv rfl rfl rfl (U_load1 rfl rfl rfl) rfl rfl ?_
      refine Rv rfl rfl rfl (U_move rfl) rfl rfl ?_
      have hx1 : i < s.ls.length := by omega
      refine Rv rfl rfl rfl (U_indexR (j := i) rfl rfl rfl hx1) rfl rfl ?_
      refine Rv rfl rfl rfl (U_load1 rfl rfl (getM hx1)) rfl rfl ?_
      refine Rv rfl rfl rfl (U_lenOf rfl len_ros) rfl rfl ?_
      refine Rv rfl rfl rfl (U_max rfl rfl rfl) rfl rfl ?_
      refine Rv rfl rfl rfl (U_assign rfl) rfl rfl ?_
      refine Re rfl ?_
      refine blkQ_n ?_
      refine thenQ_n ?_
      refine W_reg rfl ?_
      refine Rv rfl rfl rfl (U_move rfl) rfl rfl ?_
      refine Rv rfl rfl rfl (U_add rfl rfl (w64e (m := ((i + 1 : Nat) : Int)) (by omega) (by omega) (by omega))) rfl rfl ?_
      refine Rv rfl rfl rfl (U_assign rfl) rfl rfl ?_
      refine Re rfl ?_
      refine thenQ_n ?_
      exact againTo (T' := [(1, .rop [i64 s.h, i64 s.z, .ros (s.ls.map boxesL) s.ls.length c] 0), (3, i64 (max m ((s.ls[i].length : Nat) : Int))), (4, i64 (((i + 1) : Nat) : Int))]) (H' := []) (n := 0) (s.ls.length - (i + 1)) ⟨i + 1, max m ((s.ls[i].length : Nat) : Int), (by omega), (by rw [mostQ_take (by omega), ← hi0_1]), rfl, rfl⟩ (by omega) id ⟨eD rfl rfl, eD rfl rfl, eD rfl rfl, trivial⟩ trivial rfl rfl rfl rfl (fun _ _ => rfl)
    · have hmq : m = mostQ s.ls := by rw [hi0_1, show i = s.ls.length by omega, List.take_length]
      refine W_exit rfl ?_
      refine thenQ_x ?_
      refine thenQ_x ?_
      refine blkQ_x rfl ?_
      refine thenQ_n ?_
      refine W_seq rfl ?_
      refine Wjoin ⟨[(2, .bool ((decide (610 < m)) || ((decide ((chkS s) = 0)) && ((decide (120 < (s.h * s.z))) || (decide (30 < m))))))], [], 0, []⟩ ?_ ?_
      · refine W_reg rfl ?_
        refine Rv rfl rfl rfl (U_move rfl) rfl rfl ?_
        refine Rv rfl rfl rfl (U_gtr rfl rfl) rfl rfl ?_
        refine Rv rfl rfl rfl (U_move rfl) rfl rfl ?_
        refine Rsplit (t := 26) rfl (fun hg2 => ?_) (fun hg2 => ?_)
        · rw [hg2]
          have hg2' : 610 < m := of_decide_eq_true hg2
          refine Rs rfl rfl rfl rfl rfl ?_
          refine Rs rfl rfl rfl rfl rfl ?_
          refine Rs rfl rfl rfl rfl rfl ?_
          refine Rs rfl rfl rfl rfl rfl ?_
          refine Rs rfl rfl rfl rfl rfl ?_
          refine Rs rfl rfl rfl rfl rfl ?_
          refine Rs rfl rfl rfl rfl rfl ?_
          refine Rs rfl rfl rfl rfl rfl ?_
          refine Rs rfl rfl rfl rfl rfl ?_
          refine Rs rfl rfl rfl rfl rfl ?_
          refine Rs rfl rfl rfl rfl rfl ?_
          refine Rs rfl rfl rfl rfl rfl ?_
          refine Rs rfl rfl rfl rfl rfl ?_
          refine Rs rfl rfl rfl rfl rfl ?_
          refine Rs rfl rfl rfl rfl rfl ?_
          refine Rv rfl rfl rfl (U_pick_t rfl rfl) rfl rfl ?_
          refine Rv rfl rfl rfl (U_assign rfl) rfl rfl ?_
          refine Re rfl ?_
          exact joinTo id ⟨eD rfl rfl, trivial⟩ trivial rfl rfl rfl rfl (fun _ _ => rfl)
        · rw [hg2]
          have hg2' : ¬ (610 < m) := of_decide_eq_false hg2
          have hbl := bl_most (ls := s.ls) (by omega)
          have hl : s.ls.length ≤ 1000000 := by omega
          refine Rv rfl rfl rfl (U_load3 rfl rfl rfl rfl rfl) rfl rfl ?_
          refine Rv rfl rfl rfl (U_call rfl rfl (chkSR_p s c hl hbl) rfl) rfl rfl ?_
          refine Rv rfl rfl rfl (U_eql rfl rfl) rfl rfl ?_
          refine Rv rfl rfl rfl (U_move rfl) rfl rfl ?_
          refine Rsplit (t := 30) rfl (fun hg3 => ?_) (fun hg3 => ?_)
          · rw [hg3]
            have hg3' : (chkS s) = 0 := of_decide_eq_true hg3
            have hhz := chkS_hz hg3'
            refine Rv rfl rfl rfl (U_fieldAddrR rfl) rfl rfl ?_
            refine Rv rfl rfl rfl (U_load1 rfl rfl rfl) rfl rfl ?_
            refine Rv rfl rfl rfl (U_fieldAddrR rfl) rfl rfl ?_
            refine Rv rfl rfl rfl (U_load1 rfl rfl rfl) rfl rfl ?_
            refine Rv rfl rfl rfl (U_mul rfl rfl (w64 (by omega) (by omega))) rfl rfl ?_
            refine Rv rfl rfl rfl (U_gtr rfl rfl) rfl rfl ?_
            refine Rv rfl rfl rfl (U_move rfl) rfl rfl ?_
            refine Rsplit (t := 37) rfl (fun hg4 => ?_) (fun hg4 => ?_)
            · rw [hg4]
              have hg4' : 120 < (s.h * s.z) := of_decide_eq_true hg4
              refine Rs rfl rfl rfl rfl rfl ?_
              refine Rs rfl rfl rfl rfl rfl ?_
              refine Rv rfl rfl rfl (U_pick_t rfl rfl) rfl rfl ?_
              refine Rv rfl rfl rfl (U_pick_t rfl rfl) rfl rfl ?_
              refine Rv rfl rfl rfl (U_pick_f rfl rfl) rfl rfl ?_
              refine Rv rfl rfl rfl (U_assign rfl) rfl rfl ?_
              refine Re rfl ?_
              exact joinTo id ⟨eD rfl rfl, trivial⟩ trivial rfl rfl rfl rfl (fun _ _ => rfl)
            · rw [hg4]
              have hg4' : ¬ (120 < (s.h * s.z)) := of_decide_eq_false hg4
              refine Rv rfl rfl rfl (U_move rfl) rfl rfl ?_
              refine Rv rfl rfl rfl (U_gtr rfl rfl) rfl rfl ?_
              refine Rv rfl rfl rfl (U_pick_f rfl rfl) rfl rfl ?_
              refine Rv rfl rfl rfl (U_pick_t rfl rfl) rfl rfl ?_
              refine Rv rfl rfl rfl (U_pick_f rfl rfl) rfl rfl ?_
              refine Rv rfl rfl rfl (U_assign rfl) rfl rfl ?_
              refine Re rfl ?_
              exact joinTo id ⟨eD rfl rfl, trivial⟩ trivial rfl rfl rfl rfl (fun _ _ => rfl)
          · rw [hg3]
            have hg3' : ¬ ((chkS s) = 0) := of_decide_eq_false hg3
            refine Rs rfl rfl rfl rfl rfl ?_
            refine Rs rfl rfl rfl rfl rfl ?_
            refine Rs rfl rfl rfl rfl rfl ?_
            refine Rs rfl rfl rfl rfl rfl ?_
            refine Rs rfl rfl rfl rfl rfl ?_
            refine Rs rfl rfl rfl rfl rfl ?_
            refine Rs rfl rfl rfl rfl rfl ?_
            refine Rs rfl rfl rfl rfl rfl ?_
            refine Rs rfl rfl rfl rfl rfl ?_
            refine Rs rfl rfl rfl rfl rfl ?_
            refine Rv rfl rfl rfl (U_pick_f rfl rfl) rfl rfl ?_
            refine Rv rfl rfl rfl (U_pick_f rfl rfl) rfl rfl ?_
            refine Rv rfl rfl rfl (U_assign rfl) rfl rfl ?_
            refine Re rfl ?_
            exact joinTo id ⟨eD rfl rfl, trivial⟩ trivial rfl rfl rfl rfl (fun _ _ => rfl)
      refine thenQ_n ?_
      refine W_ret rfl ?_
      exact retL (rlT rfl rl0) (by first | rfl | (exact congrArg AV.bool (by unfold grt; first | (rw [show decide (14 < s.ls.length) = true from decide_eq_true (by omega)]; rfl) | (rw [show decide (14 < s.ls.length) = false from decide_eq_false (by omega), hmq, Bool.false_or])); done)) rfl
theorem intsS_p (a : List Int) (c d : Option Nat) (ha : a.length ≤ 1000000) : Pure Try.prog 24 [intsA a c, intsA a d] (.bool true) := by
  have := ints_p a a c d ha ha; rwa [decide_eq_true rfl] at this
end Go.Proofs.Ythlolelbmhfdbaa
end

section
namespace Go.Proofs.Ythlolelbmhfdbaa
set_option maxRecDepth 20000
open Go.AE
theorem borderTints_p (s : Sk) (c : Option Nat) (t : List Int) (d : Option Nat) : Pure Try.prog 5 [.agg [i64 s.h, i64 s.z, landsA s.ls c], intsA t d] (.bool true) := by
  refine pure_of_body Try.func5 (c := body Try.f5) rfl (by simp [Try.ntmps5]) fun w0 Φ0 => ?_
  refine W_seq rfl ?_
  refine W_reg rfl ?_
  refine Rv rfl rfl rfl (U_boxF rfl rfl rfl) rfl rfl ?_
  refine Rv rfl rfl rfl (U_assign rfl) rfl rfl ?_
  refine Re rfl ?_
  refine thenQ_n ?_
  refine W_seq rfl ?_
  refine W_seq rfl ?_
  refine Wjoin ⟨[(1, .ros (t.map i64) t.length d), (2, .rop [i64 s.h, i64 s.z, .ros (s.ls.map boxesL) s.ls.length c] 0), (19, .bool ((grt s) || (decide (20 < ((t.length : Nat) : Int)))))], [], 0, []⟩ ?_ ?_
  · refine W_reg rfl ?_
    refine Rv rfl rfl rfl (U_load3 rfl rfl rfl rfl rfl) rfl rfl ?_
    refine Rv rfl rfl rfl (U_call rfl rfl (great_p s c) rfl) rfl rfl ?_
    refine Rv rfl rfl rfl (U_move rfl) rfl rfl ?_
    refine Rsplit (t := 15) rfl (fun hg1 => ?_) (fun hg1 => ?_)
    · rw [hg1]
      refine Rs rfl rfl rfl rfl rfl ?_
      refine Rs rfl rfl rfl rfl rfl ?_
      refine Rs rfl rfl rfl rfl rfl ?_
      refine Rv rfl rfl rfl (U_pick_t rfl rfl) rfl rfl ?_
      refine Re rfl ?_
      exact joinTo id ⟨eD rfl rfl, eD rfl rfl, eD rfl rfl, trivial⟩ trivial rfl rfl rfl rfl (fun _ _ => rfl)
    · rw [hg1]
      refine Rv rfl rfl rfl (U_move rfl) rfl rfl ?_
      refine Rv rfl rfl rfl (U_lenOf rfl len_ros) rfl rfl ?_
      refine Rv rfl rfl rfl (U_gtr rfl rfl) rfl rfl ?_
      refine Rv rfl rfl rfl (U_pick_f rfl rfl) rfl rfl ?_
      refine Re rfl ?_
      exact joinTo id ⟨eD rfl rfl, eD rfl rfl, eD rfl rfl, trivial⟩ trivial rfl rfl rfl rfl (fun _ _ => rfl)
  refine thenQ_n ?_
  refine Wcond rfl rfl (fun hc0 => ?_) (fun hc0 => ?_)
  · refine W_seq rfl ?_
    refine W_reg rfl ?_
    refine Rv rfl rfl rfl (U_call rfl rfl (works_p) rfl) rfl rfl ?_
    refine Rv rfl rfl rfl (U_assign rfl) rfl rfl ?_
    refine Re rfl ?_
    refine thenQ_n ?_
    refine W_ret rfl ?_
    refine thenQ_r ?_
    exact retL (rlT rfl rl0) rfl rfl
  · have hc0' := Bool.eq_false_iff.1 hc0
    have hgr : grt s = false := by simp at hc0; exact hc0.1
    have ht : t.length ≤ 1000000 := by simp at hc0; omega
    have hl := grt_ls hgr
    have hbl := grt_bl hgr
    refine W_skip rfl ?_
    refine thenQ_n ?_
    refine W_seq rfl ?_
    refine W_reg rfl ?_
    refine Rv rfl rfl rfl (U_load3 rfl rfl rfl rfl rfl) rfl rfl ?_
    refine Rv rfl rfl rfl (U_move rfl) rfl rfl ?_
    refine Rv rfl rfl rfl (U_call rfl rfl (chtA_p s c (by first | assumption | exact hl) (by first | assumption | exact hbl) t d (by first | assumption | omega | exact Sz.le | (simp; done) | (simp; omega))) rfl) rfl rfl ?_
    refine Rv rfl rfl rfl (U_move rfl) rfl rfl ?_
    refine Rv rfl rfl rfl (U_extract rfl rfl) rfl rfl ?_
    refine Rv rfl rfl rfl (U_extract rfl rfl) rfl rfl ?_
    refine Rv rfl rfl rfl (U_assign rfl) rfl rfl ?_
    refine Rv rfl rfl rfl (U_assign rfl) rfl rfl ?_
    refine Re rfl ?_
    refine thenQ_n ?_
    refine W_seq rfl ?_
    refine W_reg rfl ?_
    refine Rv rfl rfl rfl (U_load3 rfl rfl rfl rfl rfl) rfl rfl ?_
    refine Rv rfl rfl rfl (U_move rfl) rfl rfl ?_
    refine Rv rfl rfl rfl (U_call rfl rfl (chtRfA_p s c (by first | assumption | exact hl) (by first | assumption | exact hbl) t d (by first | assumption | omega | exact Sz.le | (simp; done) | (simp; omega))) rfl) rfl rfl ?_
    refine Rv rfl rfl rfl (U_move rfl) rfl rfl ?_
    refine Rv rfl rfl rfl (U_extract rfl rfl) rfl rfl ?_
    refine Rv rfl rfl rfl (U_extract rfl rfl) rfl rfl ?_
    refine Rv rfl rfl rfl (U_assign rfl) rfl rfl ?_
    refine Rv rfl rfl rfl (U_assign rfl) rfl rfl ?_
    refine Re rfl ?_
    refine thenQ_n ?_
    refine W_seq rfl ?_
    refine W_reg rfl ?_
    refine Rv rfl rfl rfl (U_load3 rfl rfl rfl rfl rfl) rfl rfl ?_
    refine Rv rfl rfl rfl (U_call rfl rfl (tinA_p s c (by first | assumption | exact hl) (by first | assumption | exact hbl)) rfl) rfl rfl ?_
    refine Rv rfl rfl rfl (U_move rfl) rfl rfl ?_
    refine Rv rfl rfl rfl (U_extract rfl rfl) rfl rfl ?_
    refine Rv rfl rfl rfl (U_extract rfl rfl) rfl rfl ?_
    refine Rv rfl rfl rfl (U_assign rfl) rfl rfl ?_
    refine Rv rfl rfl rfl (U_assign rfl) rfl rfl ?_
    refine Re rfl ?_
    refine thenQ_n ?_
    refine W_seq rfl ?_
    refine W_reg rfl ?_
    refine Rv rfl rfl rfl (U_load3 rfl rfl rfl rfl rfl) rfl rfl ?_
    refine Rv rfl rfl rfl (U_call rfl rfl (tinRfA_p s c (by first | assumption | exact hl) (by first | assumption | exact hbl)) rfl) rfl rfl ?_
    refine Rv rfl rfl rfl (U_move rfl) rfl rfl ?_
    refine Rv rfl rfl rfl (U_extract rfl rfl) rfl rfl ?_
    refine Rv rfl rfl rfl (U_extract rfl rfl) rfl rfl ?_
    refine Rv rfl rfl rfl (U_assign rfl) rfl rfl ?_
    refine Rv rfl rfl rfl (U_assign rfl) rfl rfl ?_
    refine Re rfl ?_
    refine thenQ_n ?_
    refine W_seq rfl ?_
    refine W_reg rfl ?_
    refine Rv rfl rfl rfl (U_move rfl) rfl rfl ?_
    refine Rv rfl rfl rfl (U_move rfl) rfl rfl ?_
    refine Rv rfl rfl rfl (U_eqlS rfl rfl) rfl rfl ?_
    refine Rv rfl rfl rfl (U_move rfl) rfl rfl ?_
    refine Rv rfl rfl rfl (U_move rfl) rfl rfl ?_
    refine Rv rfl rfl rfl (U_move rfl) rfl rfl ?_
    refine Rv rfl rfl rfl (U_eqlS rfl rfl) rfl rfl ?_
    refine Rv rfl rfl rfl (U_pick_t rfl rfl) rfl rfl ?_
    refine Rv rfl rfl rfl (U_move rfl) rfl rfl ?_
    refine Rv rfl rfl rfl (U_move rfl) rfl rfl ?_
    refine Rv rfl rfl rfl (U_move rfl) rfl rfl ?_
    refine Rv rfl rfl rfl (U_call rfl rfl (intsS_p (tinR s) none none (by first | assumption | omega | exact Sz.le | (simp; done) | (simp; omega))) rfl) rfl rfl ?_
    refine Rv rfl rfl rfl (U_pick_t rfl rfl) rfl rfl ?_
    refine Rv rfl rfl rfl (U_move rfl) rfl rfl ?_
    refine Rv rfl rfl rfl (U_move rfl) rfl rfl ?_
    refine Rv rfl rfl rfl (U_move rfl) rfl rfl ?_
    refine Rv rfl rfl rfl (U_eqlS rfl rfl) rfl rfl ?_
    refine Rv rfl rfl rfl (U_pick_t rfl rfl) rfl rfl ?_
    refine Rv rfl rfl rfl (U_move rfl) rfl rfl ?_
    refine Rv rfl rfl rfl (U_call rfl rfl (works_p) rfl) rfl rfl ?_
    refine Rv rfl rfl rfl (U_pick_t rfl rfl) rfl rfl ?_
    refine Rv rfl rfl rfl (U_assign rfl) rfl rfl ?_
    refine Re rfl ?_
    refine thenQ_n ?_
    refine W_ret rfl ?_
    exact retL (rlT rfl rl0) rfl rfl
end Go.Proofs.Ythlolelbmhfdbaa
end
