import Derived.Test.YthlolelbmhfdbaaM5
set_option linter.all false
section
namespace Go.AE
open Go.RowKit
section
variable {ρ : Env} {Φ : Fz} {w : World}
end
section
variable {C : Ctx} {o : Oper} {T : AT} {H : AH} {nx nx' : Nat} {v : AV} {ups : AH}
end
section ops
variable {C : Ctx} {T : AT} {H : AH} {nx : Nat} {d : Option Tmp} {ty : TypeId} {pos : String} {after : Array Edge} {g : Option (Nat × Bool)}
section num
variable {x y : Operand} {k : IntKind} {a b c : Int} {t t' : TypeId}
theorem U_mul (hx : ev T x = some (.int k a)) (hy : ev T y = some (.int k b)) (hc : k.wrap (a * b) = c) : OpU C ⟨d, .binOp .mul t x y t', ty, pos, after, g⟩ T H nx (.int k c) [] nx :=
  binInt hx hy rfl (by simp) fun w => ⟨.int k c, by simp [binOp, Op.intArith, hc], fun _ _ => mk_int⟩
theorem U_quo (hx : ev T x = some (.int k a)) (hy : ev T y = some (.int k b)) (h0 : b ≠ 0) (hc : k.wrap (a.tdiv b) = c) : OpU C ⟨d, .binOp .quo t x y t', ty, pos, after, g⟩ T H nx (.int k c) [] nx :=
  binInt hx hy rfl (by simp) fun w => ⟨.int k c, by simp [binOp, Op.intDiv, h0, hc], fun _ _ => mk_int⟩
end num
end ops
end Go.AE
end

section
namespace Go.AE
open Go.RowKit
section
variable {C : Ctx} {ρ : Env} {Φ : Fz} {H : AH} {w : World}
end
section ops
variable {C : Ctx} {T : AT} {H : AH} {nx : Nat} {d : Option Tmp} {ty : TypeId} {pos : String} {after : Array Edge} {g : Option (Nat × Bool)}
theorem len_slice {b o n c : Nat} : ∀ (ρ : Env) Φ w y, Con ρ Φ w (.slice b o n c) y → ∃ a k, y = .slice a n k := fun _ _ _ _ h => by simp only [Con] at h; obtain ⟨_, _, h⟩ := h; exact ⟨_, _, h⟩
end ops
end Go.AE
end

section
namespace Go.AE
open Go.RowKit
section
variable {C : Ctx} {c : Code} {Q : Exit → St → Prop} {T T' : AT} {H H' : AH} {nx : Nat} {df : List Nat} {cs : List AV} {t : TypeId}
end
section ops
variable {C : Ctx} {T : AT} {H : AH} {nx : Nat} {d : Option Tmp} {ty : TypeId} {pos : String} {after : Array Edge} {g : Option (Nat × Bool)}
end ops
theorem setM {α : Type} {g : α → AV} {l : List α} {k : Nat} {x : α} : setC (l.map g) (0 + k * 1) [g x] = (l.set k x).map g := by simp [setC, List.map_set]
end Go.AE
end

section
namespace Go.AE
open Go.RowKit
theorem tdivN (a b : Nat) : (a : Int).tdiv b = ((a / b : Nat) : Int) := by rw [Int.tdiv_eq_ediv_of_nonneg (by omega)]; rfl
theorem wquoN {a b : Nat} (h : a ≤ 9223372036854775807) : IntKind.i64.wrap ((a : Int).tdiv b) = ((a / b : Nat) : Int) := by
  rw [tdivN]; have := Nat.div_le_self a b; generalize a / b = q at *; exact w64 (by omega) (by omega)
section
variable {P : Program} {T : AT} {H : AH} {nx : Nat}
end
section ops
variable {C : Ctx} {T : AT} {H : AH} {nx : Nat} {d : Option Tmp} {ty : TypeId} {pos : String} {after : Array Edge} {g : Option (Nat × Bool)}
end ops
end Go.AE
end

section
namespace Go.AE
open Go.RowKit
section ops
variable {C : Ctx} {T : AT} {H : AH} {nx : Nat} {d : Option Tmp} {ty : TypeId} {pos : String} {after : Array Edge} {g : Option (Nat × Bool)}
end ops
theorem rMD {σ σ' : Nat → Nat} {n b : Nat} {cs : List AV} {t : TypeId} {H : AH} (hd : dataL cs) (h : gt H (σ b) = (some (.cells cs t) : Option ABlk).map (ABlk.ren σ')) (hb : b.blt n = true) : rowTo σ n b (some (.cells cs t)) H :=
  rD hd (by rw [h]; simp only [Option.map_some, ABlk.ren, renL_data cs hd]) hb
end Go.AE
end

section
namespace Go.AE
open Go.RowKit
section
variable {C : Ctx} {T : AT} {H : AH} {nx : Nat} {d : Option Tmp} {ty : TypeId} {pos : String} {after : Array Edge} {g : Option (Nat × Bool)}
theorem U_eqlS {t t' : TypeId} {x y : Operand} {k : IntKind} {a : Int} (hx : ev T x = some (.int k a)) (hy : ev T y = some (.int k a)) : OpU C ⟨d, .binOp .eql t x y t', ty, pos, after, g⟩ T H nx (.bool true) [] nx := by
  have h := U_eql (C := C) (t := t) (t' := t') (d := d) (ty := ty) (pos := pos) (after := after) (g := g) (H := H) (nx := nx) hx hy
  rwa [decide_eq_true rfl] at h
end
end Go.AE
end

section
namespace Go.AE
open Go.RowKit
section
variable {C : Ctx} {T : AT} {H : AH} {nx : Nat} {d : Option Tmp} {ty : TypeId} {pos : String} {after : Array Edge} {g : Option (Nat × Bool)}
theorem stLt {α : Type} {f : α → AV} {l : List α} {j : Nat} (h : j < l.length) : 0 + j * 1 + 1 ≤ (l.map f).length := by simp; omega
end
end Go.AE
end

section
namespace Go.Proofs.Ythlolelbmhfdbaa
set_option maxRecDepth 20000
open Go.AE
theorem any_false {α : Type} {p : α → Bool} {l : List α} (h : ∀ j (hj : j < l.length), p l[j] = false) : l.any p = false := by
  rw [List.any_eq_false]; intro x hx; obtain ⟨j, hj, rfl⟩ := List.getElem_of_mem hx; rw [h j hj]; simp
end Go.Proofs.Ythlolelbmhfdbaa
end

section
namespace Go.Proofs.Ythlolelbmhfdbaa
set_option maxRecDepth 20000
open Go.AE
theorem any_f {α : Type} {p : α → Bool} {l : List α} (h : ∀ j (hj : j < l.length), p l[j] = false) : l.any p = false := any_false h
theorem bef_succ {α : Type} {p : α → Bool} {l : List α} {k : Nat} (h : ∀ j (hj : j < l.length), j < k → p l[j] = false) (hk : k < l.length) (hp : p l[k] = false) : ∀ j (hj : j < l.length), j < k + 1 → p l[j] = false := fun j hj h2 => by
  rcases Nat.lt_succ_iff_lt_or_eq.1 h2 with h2 | rfl
  · exact h j hj h2
  · exact hp
theorem isBR_p (b : Bx) (H Z : Int) (hH : 1 ≤ H ∧ H ≤ 48) (hZ : 1 ≤ Z ∧ Z ≤ 24) : Pure Try.prog 74 [bxA b, i64 H, i64 Z] (.bool (isB b H Z)) := by
  refine pure_of_body Try.func74 (c := body Try.f74) rfl (by simp [Try.ntmps74]) fun w0 Φ0 => ?_
  refine W_seq rfl ?_
  refine W_reg rfl ?_
  refine Rv rfl rfl rfl (U_boxF rfl rfl rfl) rfl rfl ?_
  refine Rv rfl rfl rfl (U_assign rfl) rfl rfl ?_
  refine Re rfl ?_
  refine thenQ_n ?_
  refine W_seq rfl ?_
  refine W_seq rfl ?_
  refine Wjoin ⟨[(2, i64 Z), (3, .rop [i64 b.fr, i64 b.wd, i64 b.lo, i64 b.hi] 0), (26, .bool ((decide (b.fr < 0)) || ((decide (H ≤ b.fr)) || ((decide (b.wd < 1)) || (decide (H < b.wd))))))], [], 0, []⟩ ?_ ?_
  · refine W_reg rfl ?_
    refine Rv rfl rfl rfl (U_fieldAddrR rfl) rfl rfl ?_
    refine Rv rfl rfl rfl (U_load1 rfl rfl rfl) rfl rfl ?_
    refine Rv rfl rfl rfl (U_lss rfl rfl) rfl rfl ?_
    refine Rv rfl rfl rfl (U_move rfl) rfl rfl ?_
    refine Rsplit (t := 10) rfl (fun hg1 => ?_) (fun hg1 => ?_)
    · rw [hg1]
      have hg1' : b.fr < 0 := of_decide_eq_true hg1
      refine Rs rfl rfl rfl rfl rfl ?_
      refine Rs rfl rfl rfl rfl rfl ?_
      refine Rs rfl rfl rfl rfl rfl ?_
      refine Rs rfl rfl rfl rfl rfl ?_
      refine Rv rfl rfl rfl (U_pick_t rfl rfl) rfl rfl ?_
      refine Rv rfl rfl rfl (U_move rfl) rfl rfl ?_
      refine Rs rfl rfl rfl rfl rfl ?_
      refine Rs rfl rfl rfl rfl rfl ?_
      refine Rs rfl rfl rfl rfl rfl ?_
      refine Rv rfl rfl rfl (U_pick_t rfl rfl) rfl rfl ?_
      refine Rv rfl rfl rfl (U_move rfl) rfl rfl ?_
      refine Rs rfl rfl rfl rfl rfl ?_
      refine Rs rfl rfl rfl rfl rfl ?_
      refine Rs rfl rfl rfl rfl rfl ?_
      refine Rs rfl rfl rfl rfl rfl ?_
      refine Rv rfl rfl rfl (U_pick_t rfl rfl) rfl rfl ?_
      refine Re rfl ?_
      exact joinTo id ⟨eD rfl rfl, eD rfl rfl, eD rfl rfl, trivial⟩ trivial rfl rfl rfl rfl (fun _ _ => rfl)
    · rw [hg1]
      have hg1' : ¬ (b.fr < 0) := of_decide_eq_false hg1
      refine Rv rfl rfl rfl (U_fieldAddrR rfl) rfl rfl ?_
      refine Rv rfl rfl rfl (U_load1 rfl rfl rfl) rfl rfl ?_
      refine Rv rfl rfl rfl (U_move rfl) rfl rfl ?_
      refine Rv rfl rfl rfl (U_geq rfl rfl) rfl rfl ?_
      refine Rv rfl rfl rfl (U_pick_f rfl rfl) rfl rfl ?_
      refine Rv rfl rfl rfl (U_move rfl) rfl rfl ?_
      refine Rsplit (t := 16) rfl (fun hg2 => ?_) (fun hg2 => ?_)
      · rw [hg2]
        have hg2' : H ≤ b.fr := of_decide_eq_true hg2
        refine Rs rfl rfl rfl rfl rfl ?_
        refine Rs rfl rfl rfl rfl rfl ?_
        refine Rs rfl rfl rfl rfl rfl ?_
        refine Rv rfl rfl rfl (U_pick_t rfl rfl) rfl rfl ?_
        refine Rv rfl rfl rfl (U_move rfl) rfl rfl ?_
        refine Rs rfl rfl rfl rfl rfl ?_
        refine Rs rfl rfl rfl rfl rfl ?_
        refine Rs rfl rfl rfl rfl rfl ?_
        refine Rs rfl rfl rfl rfl rfl ?_
        refine Rv rfl rfl rfl (U_pick_t rfl rfl) rfl rfl ?_
        refine Re rfl ?_
        exact joinTo id ⟨eD rfl rfl, eD rfl rfl, eD rfl rfl, trivial⟩ trivial rfl rfl rfl rfl (fun _ _ => rfl)
      · rw [hg2]
        have hg2' : ¬ (H ≤ b.fr) := of_decide_eq_false hg2
        refine Rv rfl rfl rfl (U_fieldAddrR rfl) rfl rfl ?_
        refine Rv rfl rfl rfl (U_load1 rfl rfl rfl) rfl rfl ?_
        refine Rv rfl rfl rfl (U_lss rfl rfl) rfl rfl ?_
        refine Rv rfl rfl rfl (U_pick_f rfl rfl) rfl rfl ?_
        refine Rv rfl rfl rfl (U_move rfl) rfl rfl ?_
        refine Rsplit (t := 21) rfl (fun hg3 => ?_) (fun hg3 => ?_)
        · rw [hg3]
          have hg3' : b.wd < 1 := of_decide_eq_true hg3
          refine Rs rfl rfl rfl rfl rfl ?_
          refine Rs rfl rfl rfl rfl rfl ?_
          refine Rs rfl rfl rfl rfl rfl ?_
          refine Rs rfl rfl rfl rfl rfl ?_
          refine Rv rfl rfl rfl (U_pick_t rfl rfl) rfl rfl ?_
          refine Re rfl ?_
          exact joinTo id ⟨eD rfl rfl, eD rfl rfl, eD rfl rfl, trivial⟩ trivial rfl rfl rfl rfl (fun _ _ => rfl)
        · rw [hg3]
          have hg3' : ¬ (b.wd < 1) := of_decide_eq_false hg3
          refine Rv rfl rfl rfl (U_fieldAddrR rfl) rfl rfl ?_
          refine Rv rfl rfl rfl (U_load1 rfl rfl rfl) rfl rfl ?_
          refine Rv rfl rfl rfl (U_move rfl) rfl rfl ?_
          refine Rv rfl rfl rfl (U_gtr rfl rfl) rfl rfl ?_
          refine Rv rfl rfl rfl (U_pick_f rfl rfl) rfl rfl ?_
          refine Re rfl ?_
          exact joinTo id ⟨eD rfl rfl, eD rfl rfl, eD rfl rfl, trivial⟩ trivial rfl rfl rfl rfl (fun _ _ => rfl)
  refine thenQ_n ?_
  refine Wcond rfl rfl (fun hc0 => ?_) (fun hc0 => ?_)
  · refine W_seq rfl ?_
    refine W_reg rfl ?_
    refine Rv rfl rfl rfl (U_assign rfl) rfl rfl ?_
    refine Re rfl ?_
    refine thenQ_n ?_
    refine W_ret rfl ?_
    refine thenQ_r ?_
    exact retL (rlT rfl rl0) (by first | rfl | (simp only [packA]; congr 1; symm; unfold isB; rw [inL1, inL1, inL1, inL1, Bool.eq_false_iff]; intro h; simp at h hc0; omega; first | done | rfl) | (simp only [packA]; congr 1; unfold isB; rw [inL1, inL1, inL1, inL1, Bool.eq_iff_iff]; simp at hc0 ⊢; omega; first | done | rfl)) rfl
  · have hc0' := Bool.eq_false_iff.1 hc0
    refine W_skip rfl ?_
    refine thenQ_n ?_
    refine W_seq rfl ?_
    refine Wjoin ⟨[(6, .bool ((decide (0 ≤ b.lo)) && ((decide (b.lo < b.hi)) && (decide (b.hi ≤ Z)))))], [], 0, []⟩ ?_ ?_
    · refine W_reg rfl ?_
      refine Rv rfl rfl rfl (U_fieldAddrR rfl) rfl rfl ?_
      refine Rv rfl rfl rfl (U_load1 rfl rfl rfl) rfl rfl ?_
      refine Rv rfl rfl rfl (U_geq rfl rfl) rfl rfl ?_
      refine Rv rfl rfl rfl (U_move rfl) rfl rfl ?_
      refine Rsplit (t := 30) rfl (fun hg4 => ?_) (fun hg4 => ?_)
      · rw [hg4]
        have hg4' : 0 ≤ b.lo := of_decide_eq_true hg4
        refine Rv rfl rfl rfl (U_fieldAddrR rfl) rfl rfl ?_
        refine Rv rfl rfl rfl (U_load1 rfl rfl rfl) rfl rfl ?_
        refine Rv rfl rfl rfl (U_fieldAddrR rfl) rfl rfl ?_
        refine Rv rfl rfl rfl (U_load1 rfl rfl rfl) rfl rfl ?_
        refine Rv rfl rfl rfl (U_lss rfl rfl) rfl rfl ?_
        refine Rv rfl rfl rfl (U_pick_t rfl rfl) rfl rfl ?_
        refine Rv rfl rfl rfl (U_move rfl) rfl rfl ?_
        refine Rsplit (t := 37) rfl (fun hg5 => ?_) (fun hg5 => ?_)
        · rw [hg5]
          have hg5' : b.lo < b.hi := of_decide_eq_true hg5
          refine Rv rfl rfl rfl (U_fieldAddrR rfl) rfl rfl ?_
          refine Rv rfl rfl rfl (U_load1 rfl rfl rfl) rfl rfl ?_
          refine Rv rfl rfl rfl (U_move rfl) rfl rfl ?_
          refine Rv rfl rfl rfl (U_leq rfl rfl) rfl rfl ?_
          refine Rv rfl rfl rfl (U_pick_t rfl rfl) rfl rfl ?_
          refine Rv rfl rfl rfl (U_assign rfl) rfl rfl ?_
          refine Re rfl ?_
          exact joinTo id ⟨eD rfl rfl, trivial⟩ trivial rfl rfl rfl rfl (fun _ _ => rfl)
        · rw [hg5]
          have hg5' : ¬ (b.lo < b.hi) := of_decide_eq_false hg5
          refine Rs rfl rfl rfl rfl rfl ?_
          refine Rs rfl rfl rfl rfl rfl ?_
          refine Rs rfl rfl rfl rfl rfl ?_
          refine Rs rfl rfl rfl rfl rfl ?_
          refine Rv rfl rfl rfl (U_pick_f rfl rfl) rfl rfl ?_
          refine Rv rfl rfl rfl (U_assign rfl) rfl rfl ?_
          refine Re rfl ?_
          exact joinTo id ⟨eD rfl rfl, trivial⟩ trivial rfl rfl rfl rfl (fun _ _ => rfl)
      · rw [hg4]
        have hg4' : ¬ (0 ≤ b.lo) := of_decide_eq_false hg4
        refine Rs rfl rfl rfl rfl rfl ?_
        refine Rs rfl rfl rfl rfl rfl ?_
        refine Rs rfl rfl rfl rfl rfl ?_
        refine Rs rfl rfl rfl rfl rfl ?_
        refine Rs rfl rfl rfl rfl rfl ?_
        refine Rv rfl rfl rfl (U_pick_f rfl rfl) rfl rfl ?_
        refine Rv rfl rfl rfl (U_move rfl) rfl rfl ?_
        refine Rs rfl rfl rfl rfl rfl ?_
        refine Rs rfl rfl rfl rfl rfl ?_
        refine Rs rfl rfl rfl rfl rfl ?_
        refine Rs rfl rfl rfl rfl rfl ?_
        refine Rv rfl rfl rfl (U_pick_f rfl rfl) rfl rfl ?_
        refine Rv rfl rfl rfl (U_assign rfl) rfl rfl ?_
        refine Re rfl ?_
        exact joinTo id ⟨eD rfl rfl, trivial⟩ trivial rfl rfl rfl rfl (fun _ _ => rfl)
    refine thenQ_n ?_
    refine W_ret rfl ?_
    exact retL (rlT rfl rl0) (by first | rfl | (simp only [packA]; congr 1; symm; unfold isB; rw [inL1, inL1, inL1, inL1, Bool.eq_false_iff]; intro h; simp at h hc0; omega; first | done | rfl) | (simp only [packA]; congr 1; unfold isB; rw [inL1, inL1, inL1, inL1, Bool.eq_iff_iff]; simp at hc0 ⊢; omega; first | done | rfl)) rfl
theorem chkSR_p (s : Sk) (c : Option Nat) (hl : s.ls.length ≤ 1000000) (hbl : ∀ l ∈ s.ls, l.length ≤ 1000000) : Pure Try.prog 23 [.agg [i64 s.h, i64 s.z, landsA s.ls c]] (i64 (chkS s)) := by
  refine pure_of_body Try.func23 (c := body Try.f23) rfl (by simp [Try.ntmps23]) fun w0 Φ0 => ?_
  refine W_seq rfl ?_
  refine W_reg rfl ?_
  refine Rv rfl rfl rfl (U_boxF rfl rfl rfl) rfl rfl ?_
  refine Rv rfl rfl rfl (U_assign rfl) rfl rfl ?_
  refine Re rfl ?_
  refine thenQ_n ?_
  refine W_seq rfl ?_
  refine W_seq rfl ?_
  refine Wjoin ⟨[(1, .rop [i64 s.h, i64 s.z, .ros (s.ls.map boxesL) s.ls.length c] 0), (23, .bool ((decide (s.h < 1)) || ((decide (48 < s.h)) || ((decide (s.z < 1)) || (decide (24 < s.z))))))], [], 0, []⟩ ?_ ?_
  · refine W_reg rfl ?_
    refine Rv rfl rfl rfl (U_fieldAddrR rfl) rfl rfl ?_
    refine Rv rfl rfl rfl (U_load1 rfl rfl rfl) rfl rfl ?_
    refine Rv rfl rfl rfl (U_lss rfl rfl) rfl rfl ?_
    refine Rv rfl rfl rfl (U_move rfl) rfl rfl ?_
    refine Rsplit (t := 9) rfl (fun hg1 => ?_) (fun hg1 => ?_)
    · rw [hg1]
      have hg1' : s.h < 1 := of_decide_eq_true hg1
      refine Rs rfl rfl rfl rfl rfl ?_
      refine Rs rfl rfl rfl rfl rfl ?_
      refine Rs rfl rfl rfl rfl rfl ?_
      refine Rv rfl rfl rfl (U_pick_t rfl rfl) rfl rfl ?_
      refine Rv rfl rfl rfl (U_move rfl) rfl rfl ?_
      refine Rs rfl rfl rfl rfl rfl ?_
      refine Rs rfl rfl rfl rfl rfl ?_
      refine Rs rfl rfl rfl rfl rfl ?_
      refine Rv rfl rfl rfl (U_pick_t rfl rfl) rfl rfl ?_
      refine Rv rfl rfl rfl (U_move rfl) rfl rfl ?_
      refine Rs rfl rfl rfl rfl rfl ?_
      refine Rs rfl rfl rfl rfl rfl ?_
      refine Rs rfl rfl rfl rfl rfl ?_
      refine Rv rfl rfl rfl (U_pick_t rfl rfl) rfl rfl ?_
      refine Re rfl ?_
      exact joinTo id ⟨eD rfl rfl, eD rfl rfl, trivial⟩ trivial rfl rfl rfl rfl (fun _ _ => rfl)
    · rw [hg1]
      have hg1' : ¬ (s.h < 1) := of_decide_eq_false hg1
      refine Rv rfl rfl rfl (U_fieldAddrR rfl) rfl rfl ?_
      refine Rv rfl rfl rfl (U_load1 rfl rfl rfl) rfl rfl ?_
      refine Rv rfl rfl rfl (U_gtr rfl rfl) rfl rfl ?_
      refine Rv rfl rfl rfl (U_pick_f rfl rfl) rfl rfl ?_
      refine Rv rfl rfl rfl (U_move rfl) rfl rfl ?_
      refine Rsplit (t := 14) rfl (fun hg2 => ?_) (fun hg2 => ?_)
      · rw [hg2]
        have hg2' : 48 < s.h := of_decide_eq_true hg2
        refine Rs rfl rfl rfl rfl rfl ?_
        refine Rs rfl rfl rfl rfl rfl ?_
        refine Rs rfl rfl rfl rfl rfl ?_
        refine Rv rfl rfl rfl (U_pick_t rfl rfl) rfl rfl ?_
        refine Rv rfl rfl rfl (U_move rfl) rfl rfl ?_
        refine Rs rfl rfl rfl rfl rfl ?_
        refine Rs rfl rfl rfl rfl rfl ?_
        refine Rs rfl rfl rfl rfl rfl ?_
        refine Rv rfl rfl rfl (U_pick_t rfl rfl) rfl rfl ?_
        refine Re rfl ?_
        exact joinTo id ⟨eD rfl rfl, eD rfl rfl, trivial⟩ trivial rfl rfl rfl rfl (fun _ _ => rfl)
      · rw [hg2]
        have hg2' : ¬ (48 < s.h) := of_decide_eq_false hg2
        refine Rv rfl rfl rfl (U_fieldAddrR rfl) rfl rfl ?_
        refine Rv rfl rfl rfl (U_load1 rfl rfl rfl) rfl rfl ?_
        refine Rv rfl rfl rfl (U_lss rfl rfl) rfl rfl ?_
        refine Rv rfl rfl rfl (U_pick_f rfl rfl) rfl rfl ?_
        refine Rv rfl rfl rfl (U_move rfl) rfl rfl ?_
        refine Rsplit (t := 19) rfl (fun hg3 => ?_) (fun hg3 => ?_)
        · rw [hg3]
          have hg3' : s.z < 1 := of_decide_eq_true hg3
          refine Rs rfl rfl rfl rfl rfl ?_
          refine Rs rfl rfl rfl rfl rfl ?_
          refine Rs rfl rfl rfl rfl rfl ?_
          refine Rv rfl rfl rfl (U_pick_t rfl rfl) rfl rfl ?_
          refine Re rfl ?_
          exact joinTo id ⟨eD rfl rfl, eD rfl rfl, trivial⟩ trivial rfl rfl rfl rfl (fun _ _ => rfl)
        · rw [hg3]
          have hg3' : ¬ (s.z < 1) := of_decide_eq_false hg3
          refine Rv rfl rfl rfl (U_fieldAddrR rfl) rfl rfl ?_
          refine Rv rfl rfl rfl (U_load1 rfl rfl rfl) rfl rfl ?_
          refine Rv rfl rfl rfl (U_gtr rfl rfl) rfl rfl ?_
          refine Rv rfl rfl rfl (U_pick_f rfl rfl) rfl rfl ?_
          refine Re rfl ?_
          exact joinTo id ⟨eD rfl rfl, eD rfl rfl, trivial⟩ trivial rfl rfl rfl rfl (fun _ _ => rfl)
  refine thenQ_n ?_
  refine Wcond rfl rfl (fun hc0 => ?_) (fun hc0 => ?_)
  · have hce : chkS s = 3 := by rw [chkS, if_pos (by rw [inL1, inL1]; simp at hc0 ⊢; omega)]
    refine W_seq rfl ?_
    refine W_reg rfl ?_
    refine Rv rfl rfl rfl (U_assign rfl) rfl rfl ?_
    refine Re rfl ?_
    refine thenQ_n ?_
    refine W_ret rfl ?_
    refine thenQ_r ?_
    exact retL (rlT rfl rl0) (by first | rfl | (simp only [packA]; rw [hce]; first | done | rfl)) rfl
  · have hc0' := Bool.eq_false_iff.1 hc0
    have hr : (1 ≤ s.h ∧ s.h ≤ 48) ∧ 1 ≤ s.z ∧ s.z ≤ 24 := by simp at hc0; omega
    obtain ⟨hh, hz⟩ := hr
    refine W_skip rfl ?_
    refine thenQ_n ?_
    refine W_seq rfl ?_
    refine W_seq rfl ?_
    refine W_reg rfl ?_
    refine Rv rfl rfl rfl (U_fieldAddrR rfl) rfl rfl ?_
    refine Rv rfl rfl rfl (U_load1 rfl rfl rfl) rfl rfl ?_
    refine Rv rfl rfl rfl (U_lenOf rfl len_ros) rfl rfl ?_
    refine Rv rfl rfl rfl (U_gtr rfl rfl) rfl rfl ?_
    refine Re rfl ?_
    refine thenQ_n ?_
    refine WcondP rfl rfl (fun hc1 => ?_) (fun hc1 => ?_)
    · have hce : chkS s = 6 := by rw [chkS, if_neg (by rw [inL1, inL1]; simp; omega), if_pos (by simp; omega)]
      refine W_seq rfl ?_
      refine W_reg rfl ?_
      refine Rv rfl rfl rfl (U_assign rfl) rfl rfl ?_
      refine Re rfl ?_
      refine thenQ_n ?_
      refine W_ret rfl ?_
      refine thenQ_r ?_
      exact retL (rlT rfl rl0) (by first | rfl | (simp only [packA]; rw [hce]; first | done | rfl)) rfl
    · refine W_skip rfl ?_
      refine thenQ_n ?_
      refine W_seq rfl ?_
      refine W_seq rfl ?_
      refine W_reg rfl ?_
      refine Rv rfl rfl rfl (U_assign rfl) rfl rfl ?_
      refine Re rfl ?_
      refine thenQ_n ?_
      refine W_block rfl ?_
      refine LoopTo (T' := [(1, .rop [i64 s.h, i64 s.z, .ros (s.ls.map boxesL) s.ls.length c] 0), (3, i64 ((0 : Nat) : Int))]) (H' := []) (n := 0) rfl (fun mz_ qz_ => ∃ (k : Nat), k ≤ s.ls.length ∧ (∀ j (hj : j < s.ls.length), j < k → decide ((600 : Int) < ((s.ls[j].length : Nat) : Int)) = false) ∧ mz_ = s.ls.length - k ∧ qz_ = ⟨[(1, .rop [i64 s.h, i64 s.z, .ros (s.ls.map boxesL) s.ls.length c] 0), (3, i64 ((k : Nat) : Int))], [], 0, []⟩) ⟨0, (by omega), (fun j hj h => absurd h (Nat.not_lt_zero _)), rfl, rfl⟩ id ⟨eD rfl rfl, eD rfl rfl, trivial⟩ trivial rfl rfl rfl rfl (fun _ _ => rfl) ?_
      rintro _ _ ⟨k, hi0_0, hi0_1, rfl, rfl⟩
      refine W_seq rfl ?_
      refine W_seq rfl ?_
      refine W_reg rfl ?_
      refine Rv rfl rfl rfl (U_move rfl) rfl rfl ?_
      refine Rv rfl rfl rfl (U_fieldAddrR rfl) rfl rfl ?_
      refine Rv rfl rfl rfl (U_load1 rfl rfl rfl) rfl rfl ?_
      refine Rv rfl rfl rfl (U_lenOf rfl len_ros) rfl rfl ?_
      refine Rv rfl rfl rfl (U_lss rfl rfl) rfl rfl ?_
      refine Re rfl ?_
      refine thenQ_n ?_
      refine WcondP rfl rfl (fun hc2 => ?_) (fun hc2 => ?_)
      · have hck : k < s.ls.length := by omega
        refine W_skip rfl ?_
        refine thenQ_n ?_
        refine W_seq rfl ?_
        refine W_block rfl ?_
        refine W_seq rfl ?_
        refine W_reg rfl ?_
        refine Rv rfl rfl rfl (U_fieldAddrR rfl) rfl rfl ?_
        refine Rv rfl rfl rfl (U_load1 rfl rfl rfl) rfl rfl ?_
        refine Rv rfl rfl rfl (U_move rfl) rfl rfl ?_
        have hx4 : k < s.ls.length := by omega
        refine Rv rfl rfl rfl (U_indexR (j := k) rfl rfl rfl hx4) rfl rfl ?_
        refine Rv rfl rfl rfl (U_load1 rfl rfl (getM hx4)) rfl rfl ?_
        refine Rv rfl rfl rfl (U_lenOf rfl len_ros) rfl rfl ?_
        refine Rv rfl rfl rfl (U_gtr rfl rfl) rfl rfl ?_
        refine Re rfl ?_
        refine thenQ_n ?_
        refine WcondP rfl rfl (fun hc3 => ?_) (fun hc3 => ?_)
        · have h600 : (s.ls.any fun l => decide ((600 : Int) < ((l.length : Nat) : Int))) = true := any_true hck (by simpa using hc3)
          have hce : chkS s = 6 := by rw [chkS, if_neg (by rw [inL1, inL1]; simp; omega), if_pos (by rw [h600]; simp)]
          refine W_seq rfl ?_
          refine W_reg rfl ?_
          refine Rv rfl rfl rfl (U_assign rfl) rfl rfl ?_
          refine Re rfl ?_
          refine thenQ_n ?_
          refine W_ret rfl ?_
          refine blkQ_r ?_
          refine thenQ_r ?_
          refine thenQ_r ?_
          refine blkQ_r ?_
          refine thenQ_r ?_
          exact retL (rlT rfl rl0) (by first | rfl | (simp only [packA]; rw [hce]; first | done | rfl)) rfl
        · refine W_skip rfl ?_
          refine blkQ_n ?_
          refine thenQ_n ?_
          refine W_reg rfl ?_
          refine Rv rfl rfl rfl (U_move rfl) rfl rfl ?_
          refine Rv rfl rfl rfl (U_add rfl rfl (w64e (m := ((k + 1 : Nat) : Int)) (by omega) (by omega) (by omega))) rfl rfl ?_
          refine Rv rfl rfl rfl (U_assign rfl) rfl rfl ?_
          refine Re rfl ?_
          refine thenQ_n ?_
          exact againTo (T' := [(1, .rop [i64 s.h, i64 s.z, .ros (s.ls.map boxesL) s.ls.length c] 0), (3, i64 (((k + 1) : Nat) : Int))]) (H' := []) (n := 0) (s.ls.length - (k + 1)) ⟨k + 1, (by omega), (bef_succ (p := fun l : List Bx => decide ((600 : Int) < ((l.length : Nat) : Int))) hi0_1 hck (by simp; omega)), rfl, rfl⟩ (by omega) id ⟨eD rfl rfl, eD rfl rfl, trivial⟩ trivial rfl rfl rfl rfl (fun _ _ => rfl)
      · have h600 : (s.ls.any fun l => decide ((600 : Int) < ((l.length : Nat) : Int))) = false := any_f fun j hj => hi0_1 j hj (by omega)
        refine W_exit rfl ?_
        refine thenQ_x ?_
        refine thenQ_x ?_
        refine blkQ_x rfl ?_
        refine thenQ_n ?_
        refine W_seq rfl ?_
        refine W_seq rfl ?_
        refine W_reg rfl ?_
        refine Rv rfl rfl rfl (U_assign rfl) rfl rfl ?_
        refine Re rfl ?_
        refine thenQ_n ?_
        refine W_block rfl ?_
        refine LoopTo (T' := [(1, .rop [i64 s.h, i64 s.z, .ros (s.ls.map boxesL) s.ls.length c] 0), (4, i64 ((0 : Nat) : Int))]) (H' := []) (n := 0) rfl (fun mz_ qz_ => ∃ (m : Nat), m ≤ s.ls.length ∧ (∀ j (hj : j < s.ls.length), j < m → (s.ls[j].any fun b => !isB b s.h s.z) = false) ∧ mz_ = s.ls.length - m ∧ qz_ = ⟨[(1, .rop [i64 s.h, i64 s.z, .ros (s.ls.map boxesL) s.ls.length c] 0), (4, i64 ((m : Nat) : Int))], [], 0, []⟩) ⟨0, (by omega), (fun j hj h => absurd h (Nat.not_lt_zero _)), rfl, rfl⟩ id ⟨eD rfl rfl, eD rfl rfl, trivial⟩ trivial rfl rfl rfl rfl (fun _ _ => rfl) ?_
        rintro _ _ ⟨m, hi1_0, hi1_1, rfl, rfl⟩
        refine W_seq rfl ?_
        refine W_seq rfl ?_
        refine W_reg rfl ?_
        refine Rv rfl rfl rfl (U_move rfl) rfl rfl ?_
        refine Rv rfl rfl rfl (U_fieldAddrR rfl) rfl rfl ?_
        refine Rv rfl rfl rfl (U_load1 rfl rfl rfl) rfl rfl ?_
        refine Rv rfl rfl rfl (U_lenOf rfl len_ros) rfl rfl ?_
        refine Rv rfl rfl rfl (U_lss rfl rfl) rfl rfl ?_
        refine Re rfl ?_
        refine thenQ_n ?_
        refine WcondP rfl rfl (fun hc4 => ?_) (fun hc4 => ?_)
        · have hcm : m < s.ls.length := by omega
          have hbm := hbl _ (List.getElem_mem hcm)
          refine W_skip rfl ?_
          refine thenQ_n ?_
          refine W_seq rfl ?_
          refine W_block rfl ?_
          refine W_seq rfl ?_
          refine W_reg rfl ?_
          refine Rv rfl rfl rfl (U_assign rfl) rfl rfl ?_
          refine Re rfl ?_
          refine thenQ_n ?_
          refine W_block rfl ?_
          refine LoopTo (T' := [(1, .rop [i64 s.h, i64 s.z, .ros (s.ls.map boxesL) s.ls.length c] 0), (4, i64 ((m : Nat) : Int)), (5, i64 ((0 : Nat) : Int))]) (H' := []) (n := 0) rfl (fun mz_ qz_ => ∃ (i : Nat), i ≤ s.ls[m].length ∧ (∀ j (hj : j < s.ls[m].length), j < i → (!isB s.ls[m][j] s.h s.z) = false) ∧ mz_ = s.ls[m].length - i ∧ qz_ = ⟨[(1, .rop [i64 s.h, i64 s.z, .ros (s.ls.map boxesL) s.ls.length c] 0), (4, i64 ((m : Nat) : Int)), (5, i64 ((i : Nat) : Int))], [], 0, []⟩) ⟨0, (by omega), (fun j hj h => absurd h (Nat.not_lt_zero _)), rfl, rfl⟩ id ⟨eD rfl rfl, eD rfl rfl, eD rfl rfl, trivial⟩ trivial rfl rfl rfl rfl (fun _ _ => rfl) ?_
          rintro _ _ ⟨i, hi2_0, hi2_1, rfl, rfl⟩
          refine W_seq rfl ?_
          refine W_seq rfl ?_
          refine W_reg rfl ?_
          refine Rv rfl rfl rfl (U_move rfl) rfl rfl ?_
          refine Rv rfl rfl rfl (U_fieldAddrR rfl) rfl rfl ?_
          refine Rv rfl rfl rfl (U_load1 rfl rfl rfl) rfl rfl ?_
          refine Rv rfl rfl rfl (U_move rfl) rfl rfl ?_
          have hx5 : m < s.ls.length := by omega
          refine Rv rfl rfl rfl (U_indexR (j := m) rfl rfl rfl hx5) rfl rfl ?_
          refine Rv rfl rfl rfl (U_load1 rfl rfl (getM hx5)) rfl rfl ?_
          refine Rv rfl rfl rfl (U_lenOf rfl len_ros) rfl rfl ?_
          refine Rv rfl rfl rfl (U_lss rfl rfl) rfl rfl ?_
          refine Re rfl ?_
          refine thenQ_n ?_
          refine WcondP rfl rfl (fun hc5 => ?_) (fun hc5 => ?_)
          · have hci : i < s.ls[m].length := by omega
            refine W_skip rfl ?_
            refine thenQ_n ?_
            refine W_seq rfl ?_
            refine W_block rfl ?_
            refine W_seq rfl ?_
            refine Wdraw rfl (by kernel_rfl) (by kernel_rfl) ?_
            refine Dv rfl rfl rfl (U_fieldAddrR rfl) rfl rfl ?_
            refine Dv rfl rfl rfl (U_load1 rfl rfl rfl) rfl rfl ?_
            refine Dv rfl rfl rfl (U_move rfl) rfl rfl ?_
            refine Dv rfl rfl rfl (U_indexR (j := m) rfl rfl rfl hx5) rfl rfl ?_
            refine Dv rfl rfl rfl (U_load1 rfl rfl (getM hx5)) rfl rfl ?_
            refine Dv rfl rfl rfl (U_move rfl) rfl rfl ?_
            have hx6 : i < s.ls[m].length := by omega
            refine Dv rfl rfl rfl (U_indexR (j := i) rfl rfl rfl hx6) rfl rfl ?_
            refine Dv rfl rfl rfl (U_load4 rfl rfl (bxG0 hx6) (bxG1 hx6) (bxG2 hx6) (bxG3 hx6)) rfl rfl ?_
            refine Dv rfl rfl rfl (U_fieldAddrR rfl) rfl rfl ?_
            refine Dv rfl rfl rfl (U_load1 rfl rfl rfl) rfl rfl ?_
            refine Dv rfl rfl rfl (U_fieldAddrR rfl) rfl rfl ?_
            refine Dv rfl rfl rfl (U_load1 rfl rfl rfl) rfl rfl ?_
            refine Dv rfl rfl rfl (U_call rfl rfl (isBR_p (s.ls[m][i]) s.h s.z (by assumption) (by assumption)) rfl) rfl rfl ?_
            refine Dv rfl rfl rfl (U_not rfl) rfl rfl ?_
            refine Dr.nil rfl ?_
            refine thenQ_n ?_
            refine Wcond rfl rfl (fun hc6 => ?_) (fun hc6 => ?_)
            · have hst : (s.ls.any fun l => l.any fun b => !isB b s.h s.z) = true := any_true hcm (any_true hci (by simpa using hc6))
              have hce : chkS s = 2 := by rw [chkS, if_neg (by rw [inL1, inL1]; simp; omega), if_neg (by rw [h600]; simp; omega), if_pos hst]
              refine W_seq rfl ?_
              refine W_reg rfl ?_
              refine Rv rfl rfl rfl (U_assign rfl) rfl rfl ?_
              refine Re rfl ?_
              refine thenQ_n ?_
              refine W_ret rfl ?_
              refine blkQ_r ?_
              refine thenQ_r ?_
              refine thenQ_r ?_
              refine blkQ_r ?_
              refine blkQ_r ?_
              refine thenQ_r ?_
              refine thenQ_r ?_
              refine blkQ_r ?_
              refine thenQ_r ?_
              exact retL (rlT rfl rl0) (by first | rfl | (simp only [packA]; rw [hce]; first | done | rfl)) rfl
            · have hc6' := Bool.eq_false_iff.1 hc6
              refine W_skip rfl ?_
              refine blkQ_n ?_
              refine thenQ_n ?_
              refine W_reg rfl ?_
              refine Rv rfl rfl rfl (U_move rfl) rfl rfl ?_
              refine Rv rfl rfl rfl (U_add rfl rfl (w64e (m := ((i + 1 : Nat) : Int)) (by omega) (by omega) (by omega))) rfl rfl ?_
              refine Rv rfl rfl rfl (U_assign rfl) rfl rfl ?_
              refine Re rfl ?_
              refine thenQ_n ?_
              exact againTo (T' := [(1, .rop [i64 s.h, i64 s.z, .ros (s.ls.map boxesL) s.ls.length c] 0), (4, i64 ((m : Nat) : Int)), (5, i64 (((i + 1) : Nat) : Int))]) (H' := []) (n := 0) (s.ls[m].length - (i + 1)) ⟨i + 1, (by omega), (bef_succ (p := fun b : Bx => !isB b s.h s.z) hi2_1 hci (by simpa using hc6)), rfl, rfl⟩ (by omega) id ⟨eD rfl rfl, eD rfl rfl, eD rfl rfl, trivial⟩ trivial rfl rfl rfl rfl (fun _ _ => rfl)
          · have hla : (s.ls[m].any fun b => !isB b s.h s.z) = false := any_f fun j hj => hi2_1 j hj (by omega)
            refine W_exit rfl ?_
            refine thenQ_x ?_
            refine thenQ_x ?_
            refine blkQ_x rfl ?_
            refine blkQ_n ?_
            refine thenQ_n ?_
            refine W_reg rfl ?_
            refine Rv rfl rfl rfl (U_move rfl) rfl rfl ?_
            refine Rv rfl rfl rfl (U_add rfl rfl (w64e (m := ((m + 1 : Nat) : Int)) (by omega) (by omega) (by omega))) rfl rfl ?_
            refine Rv rfl rfl rfl (U_assign rfl) rfl rfl ?_
            refine Re rfl ?_
            refine thenQ_n ?_
            exact againTo (T' := [(1, .rop [i64 s.h, i64 s.z, .ros (s.ls.map boxesL) s.ls.length c] 0), (4, i64 (((m + 1) : Nat) : Int))]) (H' := []) (n := 0) (s.ls.length - (m + 1)) ⟨m + 1, (by omega), (bef_succ (p := fun l : List Bx => l.any fun b => !isB b s.h s.z) hi1_1 hcm hla), rfl, rfl⟩ (by omega) id ⟨eD rfl rfl, eD rfl rfl, trivial⟩ trivial rfl rfl rfl rfl (fun _ _ => rfl)
        · have hst : (s.ls.any fun l => l.any fun b => !isB b s.h s.z) = false := any_f fun j hj => hi1_1 j hj (by omega)
          have hce : chkS s = 0 := by rw [chkS, if_neg (by rw [inL1, inL1]; simp; omega), if_neg (by rw [h600]; simp; omega), if_neg (by rw [hst]; simp)]
          refine W_exit rfl ?_
          refine thenQ_x ?_
          refine thenQ_x ?_
          refine blkQ_x rfl ?_
          refine thenQ_n ?_
          refine W_seq rfl ?_
          refine W_reg rfl ?_
          refine Rv rfl rfl rfl (U_assign rfl) rfl rfl ?_
          refine Re rfl ?_
          refine thenQ_n ?_
          refine W_ret rfl ?_
          exact retL (rlT rfl rl0) (by first | rfl | (simp only [packA]; rw [hce]; first | done | rfl)) rfl
end Go.Proofs.Ythlolelbmhfdbaa
end

section
namespace Go.Proofs.Ythlolelbmhfdbaa
set_option maxRecDepth 20000
open Go.AE
theorem opS1 {s : Sk} {a : Int} (h : chkS s = 0) : opS s [a] = if 0 ≤ a ∧ a < s.ls.length then 0 else 2 := by
  rw [opS, if_neg (by simpa using h), inL1]
  by_cases h2 : 0 ≤ a ∧ a < s.ls.length
  · rw [if_pos h2, if_pos (by simp; omega)]
  · rw [if_neg h2, if_neg (by simp; omega)]
theorem landed_p (s : Sk) (c : Option Nat) (hl : s.ls.length ≤ 1000000) (hbl : ∀ l ∈ s.ls, l.length ≤ 1000000) (a : Int) : Pure Try.prog 77 [.agg [i64 s.h, i64 s.z, landsA s.ls c], i64 a] (i64 (opS s [a])) := by
  refine pure_of_body Try.func77 (c := body Try.f77) rfl (by simp [Try.ntmps77]) fun w0 Φ0 => ?_
  refine W_seq rfl ?_
  refine W_reg rfl ?_
  refine Rv rfl rfl rfl (U_boxF rfl rfl rfl) rfl rfl ?_
  refine Rv rfl rfl rfl (U_assign rfl) rfl rfl ?_
  refine Re rfl ?_
  refine thenQ_n ?_
  refine W_seq rfl ?_
  refine W_seq rfl ?_
  refine W_reg rfl ?_
  refine Rv rfl rfl rfl (U_load3 rfl rfl rfl rfl rfl) rfl rfl ?_
  refine Rv rfl rfl rfl (U_call rfl rfl (chkSR_p s c hl hbl) rfl) rfl rfl ?_
  refine Rv rfl rfl rfl (U_neq rfl rfl) rfl rfl ?_
  refine Re rfl ?_
  refine thenQ_n ?_
  refine WcondP rfl rfl (fun hc0 => ?_) (fun hc0 => ?_)
  · refine W_seq rfl ?_
    refine W_reg rfl ?_
    refine Rv rfl rfl rfl (U_load3 rfl rfl rfl rfl rfl) rfl rfl ?_
    refine Rv rfl rfl rfl (U_call rfl rfl (chkSR_p s c hl hbl) rfl) rfl rfl ?_
    refine Rv rfl rfl rfl (U_assign rfl) rfl rfl ?_
    refine Re rfl ?_
    refine thenQ_n ?_
    refine W_ret rfl ?_
    refine thenQ_r ?_
    exact retL (rlT rfl rl0) (by first | rfl | (simp only [packA]; rw [opS, if_pos hc0]; first | done | rfl) | (simp only [packA]; rw [opS1 (by simpa using hc0), if_neg (by simp at hc1; omega)]; first | done | rfl) | (simp only [packA]; rw [opS1 (by simpa using hc0), if_pos (by simp at hc1; omega)]; first | done | rfl)) rfl
  · rw [Decidable.not_not] at hc0
    refine W_skip rfl ?_
    refine thenQ_n ?_
    refine W_seq rfl ?_
    refine W_seq rfl ?_
    refine Wjoin ⟨[(18, .bool ((decide (a < 0)) || (decide (((s.ls.length : Nat) : Int) ≤ a))))], [], 0, []⟩ ?_ ?_
    · refine W_reg rfl ?_
      refine Rv rfl rfl rfl (U_move rfl) rfl rfl ?_
      refine Rv rfl rfl rfl (U_lss rfl rfl) rfl rfl ?_
      refine Rv rfl rfl rfl (U_move rfl) rfl rfl ?_
      refine Rsplit (t := 12) rfl (fun hg1 => ?_) (fun hg1 => ?_)
      · rw [hg1]
        have hg1' : a < 0 := of_decide_eq_true hg1
        refine Rs rfl rfl rfl rfl rfl ?_
        refine Rs rfl rfl rfl rfl rfl ?_
        refine Rs rfl rfl rfl rfl rfl ?_
        refine Rs rfl rfl rfl rfl rfl ?_
        refine Rs rfl rfl rfl rfl rfl ?_
        refine Rv rfl rfl rfl (U_pick_t rfl rfl) rfl rfl ?_
        refine Re rfl ?_
        exact joinTo id ⟨eD rfl rfl, trivial⟩ trivial rfl rfl rfl rfl (fun _ _ => rfl)
      · rw [hg1]
        have hg1' : ¬ (a < 0) := of_decide_eq_false hg1
        refine Rv rfl rfl rfl (U_move rfl) rfl rfl ?_
        refine Rv rfl rfl rfl (U_fieldAddrR rfl) rfl rfl ?_
        refine Rv rfl rfl rfl (U_load1 rfl rfl rfl) rfl rfl ?_
        refine Rv rfl rfl rfl (U_lenOf rfl len_ros) rfl rfl ?_
        refine Rv rfl rfl rfl (U_geq rfl rfl) rfl rfl ?_
        refine Rv rfl rfl rfl (U_pick_f rfl rfl) rfl rfl ?_
        refine Re rfl ?_
        exact joinTo id ⟨eD rfl rfl, trivial⟩ trivial rfl rfl rfl rfl (fun _ _ => rfl)
    refine thenQ_n ?_
    refine Wcond rfl rfl (fun hc1 => ?_) (fun hc1 => ?_)
    · refine W_seq rfl ?_
      refine W_reg rfl ?_
      refine Rv rfl rfl rfl (U_assign rfl) rfl rfl ?_
      refine Re rfl ?_
      refine thenQ_n ?_
      refine W_ret rfl ?_
      refine thenQ_r ?_
      exact retL (rlT rfl rl0) (by first | rfl | (simp only [packA]; rw [opS, if_pos hc0]; first | done | rfl) | (simp only [packA]; rw [opS1 (by simpa using hc0), if_neg (by simp at hc1; omega)]; first | done | rfl) | (simp only [packA]; rw [opS1 (by simpa using hc0), if_pos (by simp at hc1; omega)]; first | done | rfl)) rfl
    · have hc1' := Bool.eq_false_iff.1 hc1
      refine W_skip rfl ?_
      refine thenQ_n ?_
      refine W_seq rfl ?_
      refine W_reg rfl ?_
      refine Rv rfl rfl rfl (U_assign rfl) rfl rfl ?_
      refine Re rfl ?_
      refine thenQ_n ?_
      refine W_ret rfl ?_
      exact retL (rlT rfl rl0) (by first | rfl | (simp only [packA]; rw [opS, if_pos hc0]; first | done | rfl) | (simp only [packA]; rw [opS1 (by simpa using hc0), if_neg (by simp at hc1; omega)]; first | done | rfl) | (simp only [packA]; rw [opS1 (by simpa using hc0), if_pos (by simp at hc1; omega)]; first | done | rfl)) rfl
end Go.Proofs.Ythlolelbmhfdbaa
end

section
namespace Go.Proofs.Ythlolelbmhfdbaa
set_option maxRecDepth 20000
open Go.AE
abbrev natsA (l : List Nat) (c : Option Nat) : AV := .ros (l.map n64) l.length c
end Go.Proofs.Ythlolelbmhfdbaa
end

section
namespace Go.Proofs.Ythlolelbmhfdbaa
set_option maxRecDepth 20000
open Go.AE
theorem inBoxR_p (b : Bx) (H z h : Nat) (hH : 1 ≤ H ∧ H ≤ 48) (hf : 0 ≤ b.fr ∧ b.fr < H) (hh : h < H) : Pure Try.prog 92 [bxA b, i64 (H : Nat), i64 (h : Nat), i64 (z : Nat)] (.bool (inN b H z h)) := by
  refine pure_of_body Try.func92 (c := body Try.f92) rfl (by simp [Try.ntmps92]) fun w0 Φ0 => ?_
  refine W_seq rfl ?_
  refine W_reg rfl ?_
  refine Rv rfl rfl rfl (U_boxF rfl rfl rfl) rfl rfl ?_
  refine Rv rfl rfl rfl (U_assign rfl) rfl rfl ?_
  refine Re rfl ?_
  refine thenQ_n ?_
  refine W_seq rfl ?_
  refine Wjoin ⟨[(8, .bool ((decide ((((((h : Nat) : Int) - b.fr) + ((H : Nat) : Int)) % ((H : Nat) : Int)) < b.wd)) && ((decide (b.lo ≤ ((z : Nat) : Int))) && (decide (((z : Nat) : Int) < b.hi)))))], [], 0, []⟩ ?_ ?_
  · refine Wdraw rfl (by kernel_rfl) (by kernel_rfl) ?_
    refine Dv rfl rfl rfl (U_move rfl) rfl rfl ?_
    refine Dv rfl rfl rfl (U_fieldAddrR rfl) rfl rfl ?_
    refine Dv rfl rfl rfl (U_load1 rfl rfl rfl) rfl rfl ?_
    refine Dv rfl rfl rfl (U_sub rfl rfl (w64 (by omega) (by omega))) rfl rfl ?_
    refine Dv rfl rfl rfl (U_move rfl) rfl rfl ?_
    refine Dv rfl rfl rfl (U_add rfl rfl (w64 (by omega) (by omega))) rfl rfl ?_
    refine Dv rfl rfl rfl (U_move rfl) rfl rfl ?_
    refine Dv rfl rfl rfl (U_rem (c := (((((h : Nat) : Int) - b.fr) + ((H : Nat) : Int)) % ((H : Nat) : Int))) rfl rfl (by omega) (tmodP (by omega))) rfl rfl ?_
    refine Dv rfl rfl rfl (U_fieldAddrR rfl) rfl rfl ?_
    refine Dv rfl rfl rfl (U_load1 rfl rfl rfl) rfl rfl ?_
    refine Dv rfl rfl rfl (U_lss rfl rfl) rfl rfl ?_
    refine Dv rfl rfl rfl (U_move rfl) rfl rfl ?_
    refine Dsplit (t := 20) rfl (fun hg1 => ?_) (fun hg1 => ?_)
    · rw [hg1]
      have hg1' : (((((h : Nat) : Int) - b.fr) + ((H : Nat) : Int)) % ((H : Nat) : Int)) < b.wd := of_decide_eq_true hg1
      refine Dv rfl rfl rfl (U_move rfl) rfl rfl ?_
      refine Dv rfl rfl rfl (U_fieldAddrR rfl) rfl rfl ?_
      refine Dv rfl rfl rfl (U_load1 rfl rfl rfl) rfl rfl ?_
      refine Dv rfl rfl rfl (U_geq rfl rfl) rfl rfl ?_
      refine Dv rfl rfl rfl (U_pick_t rfl rfl) rfl rfl ?_
      refine Dv rfl rfl rfl (U_move rfl) rfl rfl ?_
      refine Dsplit (t := 26) rfl (fun hg2 => ?_) (fun hg2 => ?_)
      · rw [hg2]
        have hg2' : b.lo ≤ ((z : Nat) : Int) := of_decide_eq_true hg2
        refine Dv rfl rfl rfl (U_move rfl) rfl rfl ?_
        refine Dv rfl rfl rfl (U_fieldAddrR rfl) rfl rfl ?_
        refine Dv rfl rfl rfl (U_load1 rfl rfl rfl) rfl rfl ?_
        refine Dv rfl rfl rfl (U_lss rfl rfl) rfl rfl ?_
        refine Dv rfl rfl rfl (U_pick_t rfl rfl) rfl rfl ?_
        refine Dv rfl rfl rfl (U_assign rfl) rfl rfl ?_
        refine Dr.nil rfl ?_
        exact joinTo id ⟨eD rfl rfl, trivial⟩ trivial rfl rfl rfl rfl (fun _ _ => rfl)
      · rw [hg2]
        have hg2' : ¬ (b.lo ≤ ((z : Nat) : Int)) := of_decide_eq_false hg2
        refine Ds rfl rfl rfl rfl rfl ?_
        refine Ds rfl rfl rfl rfl rfl ?_
        refine Ds rfl rfl rfl rfl rfl ?_
        refine Ds rfl rfl rfl rfl rfl ?_
        refine Dv rfl rfl rfl (U_pick_f rfl rfl) rfl rfl ?_
        refine Dv rfl rfl rfl (U_assign rfl) rfl rfl ?_
        refine Dr.nil rfl ?_
        exact joinTo id ⟨eD rfl rfl, trivial⟩ trivial rfl rfl rfl rfl (fun _ _ => rfl)
    · rw [hg1]
      have hg1' : ¬ ((((((h : Nat) : Int) - b.fr) + ((H : Nat) : Int)) % ((H : Nat) : Int)) < b.wd) := of_decide_eq_false hg1
      refine Ds rfl rfl rfl rfl rfl ?_
      refine Ds rfl rfl rfl rfl rfl ?_
      refine Ds rfl rfl rfl rfl rfl ?_
      refine Ds rfl rfl rfl rfl rfl ?_
      refine Dv rfl rfl rfl (U_pick_f rfl rfl) rfl rfl ?_
      refine Dv rfl rfl rfl (U_move rfl) rfl rfl ?_
      refine Ds rfl rfl rfl rfl rfl ?_
      refine Ds rfl rfl rfl rfl rfl ?_
      refine Ds rfl rfl rfl rfl rfl ?_
      refine Ds rfl rfl rfl rfl rfl ?_
      refine Dv rfl rfl rfl (U_pick_f rfl rfl) rfl rfl ?_
      refine Dv rfl rfl rfl (U_assign rfl) rfl rfl ?_
      refine Dr.nil rfl ?_
      exact joinTo id ⟨eD rfl rfl, trivial⟩ trivial rfl rfl rfl rfl (fun _ _ => rfl)
  refine thenQ_n ?_
  refine W_ret rfl ?_
  exact retL (rlT rfl rl0) (by first | rfl | (simp only [packA]; congr 1; rw [Bool.eq_iff_iff]; simp only [inN, Bool.and_eq_true, decide_eq_true_eq]; simp; omega; first | done | rfl)) rfl
theorem inR_p (H Z : Nat) (ls : List (List Bx)) (c : Option Nat) (hv : VS ⟨H, Z, ls⟩ H Z) (a z h : Nat) (ha : a < ls.length) (hh : h < H) : Pure Try.prog 94 [.agg [i64 (H : Nat), i64 (Z : Nat), landsA ls c], i64 (a : Nat), i64 (h : Nat), i64 (z : Nat)] (.bool (inL' ls[a] H z h)) := by
  have hv' := hv
  obtain ⟨_, _, hH, hZ1, hln, hlb, hbx⟩ := hv'
  simp only at hln hlb hbx
  have hZ := hZ1.2
  have hHZ : Z * H ≤ 1152 := Nat.mul_le_mul hZ hH.2
  have hHZc : H * Z = Z * H := Nat.mul_comm _ _
  have hlba := hlb _ (List.getElem_mem ha)
  refine pure_of_body Try.func94 (c := body Try.f94) rfl (by simp [Try.ntmps94]) fun w0 Φ0 => ?_
  refine W_seq rfl ?_
  refine W_reg rfl ?_
  refine Rv rfl rfl rfl (U_boxF rfl rfl rfl) rfl rfl ?_
  refine Rv rfl rfl rfl (U_assign rfl) rfl rfl ?_
  refine Re rfl ?_
  refine thenQ_n ?_
  refine W_seq rfl ?_
  refine W_reg rfl ?_
  refine Rv rfl rfl rfl (U_fieldAddrR rfl) rfl rfl ?_
  refine Rv rfl rfl rfl (U_load1 rfl rfl rfl) rfl rfl ?_
  refine Rv rfl rfl rfl (U_move rfl) rfl rfl ?_
  have hx1 : a < ls.length := by omega
  refine Rv rfl rfl rfl (U_indexR (j := a) rfl rfl rfl hx1) rfl rfl ?_
  refine Rv rfl rfl rfl (U_load1 rfl rfl (getM hx1)) rfl rfl ?_
  refine Rv rfl rfl rfl (U_assign rfl) rfl rfl ?_
  refine Re rfl ?_
  refine thenQ_n ?_
  refine W_seq rfl ?_
  refine W_seq rfl ?_
  refine W_reg rfl ?_
  refine Rv rfl rfl rfl (U_assign rfl) rfl rfl ?_
  refine Re rfl ?_
  refine thenQ_n ?_
  refine W_block rfl ?_
  refine LoopTo (T' := [(2, i64 ((h : Nat) : Int)), (3, i64 ((z : Nat) : Int)), (4, .rop [i64 ((H : Nat) : Int), i64 ((Z : Nat) : Int), .ros (ls.map boxesL) ls.length c] 0), (9, .ros (ls[a].flatMap bxC) ls[a].length none), (10, i64 ((0 : Nat) : Int))]) (H' := []) (n := 0) rfl (fun mz_ qz_ => ∃ (k : Nat), k ≤ ls[a].length ∧ ((∀ j (hj : j < ls[a].length), j < k → inN ls[a][j] H z h = false)) ∧ mz_ = ls[a].length - k ∧ qz_ = ⟨[(2, i64 ((h : Nat) : Int)), (3, i64 ((z : Nat) : Int)), (4, .rop [i64 ((H : Nat) : Int), i64 ((Z : Nat) : Int), .ros (ls.map boxesL) ls.length c] 0), (9, .ros (ls[a].flatMap bxC) ls[a].length none), (10, i64 ((k : Nat) : Int))], [], 0, []⟩) ⟨0, (by omega), (fun j hj h => absurd h (Nat.not_lt_zero _)), rfl, rfl⟩ id ⟨eD rfl rfl, eD rfl rfl, eD rfl rfl, eD rfl rfl, eD rfl rfl, trivial⟩ trivial rfl rfl rfl rfl (fun _ _ => rfl) ?_
  rintro _ _ ⟨k, hi0_0, hi0_1, rfl, rfl⟩
  refine W_seq rfl ?_
  refine W_seq rfl ?_
  refine W_reg rfl ?_
  refine Rv rfl rfl rfl (U_move rfl) rfl rfl ?_
  refine Rv rfl rfl rfl (U_move rfl) rfl rfl ?_
  refine Rv rfl rfl rfl (U_lenOf rfl len_ros) rfl rfl ?_
  refine Rv rfl rfl rfl (U_lss rfl rfl) rfl rfl ?_
  refine Re rfl ?_
  refine thenQ_n ?_
  refine WcondP rfl rfl (fun hc0 => ?_) (fun hc0 => ?_)
  · have hck : k < ls[a].length := by omega
    have hbb := hbx _ (List.getElem_mem ha) _ (List.getElem_mem hck)
    refine W_skip rfl ?_
    refine thenQ_n ?_
    refine W_seq rfl ?_
    refine W_block rfl ?_
    refine W_seq rfl ?_
    refine Wdraw rfl (by kernel_rfl) (by kernel_rfl) ?_
    refine Dv rfl rfl rfl (U_move rfl) rfl rfl ?_
    refine Dv rfl rfl rfl (U_move rfl) rfl rfl ?_
    have hx2 : k < ls[a].length := by omega
    refine Dv rfl rfl rfl (U_indexR (j := k) rfl rfl rfl hx2) rfl rfl ?_
    refine Dv rfl rfl rfl (U_load4 rfl rfl (bxG0 hx2) (bxG1 hx2) (bxG2 hx2) (bxG3 hx2)) rfl rfl ?_
    refine Dv rfl rfl rfl (U_fieldAddrR rfl) rfl rfl ?_
    refine Dv rfl rfl rfl (U_load1 rfl rfl rfl) rfl rfl ?_
    refine Dv rfl rfl rfl (U_move rfl) rfl rfl ?_
    refine Dv rfl rfl rfl (U_move rfl) rfl rfl ?_
    refine Dv rfl rfl rfl (U_call rfl rfl (inBoxR_p (ls[a][k]) H z h (by omega) hbb.1 (by omega)) rfl) rfl rfl ?_
    refine Dr.nil rfl ?_
    refine thenQ_n ?_
    refine Wcond rfl rfl (fun hc1 => ?_) (fun hc1 => ?_)
    · refine W_seq rfl ?_
      refine W_reg rfl ?_
      refine Rv rfl rfl rfl (U_assign rfl) rfl rfl ?_
      refine Re rfl ?_
      refine thenQ_n ?_
      refine W_ret rfl ?_
      refine blkQ_r ?_
      refine thenQ_r ?_
      refine thenQ_r ?_
      refine blkQ_r ?_
      refine thenQ_r ?_
      exact retL (rlT rfl rl0) (by first | rfl | (simp only [packA]; rw [inL', show ls[a].any (fun b => inN b H z h) = true from any_true hck hc1]; simp [hh]; first | done | rfl) | (simp only [packA]; rw [inL', any_false fun j hj => hi0_1 j hj (by omega)]; simp; first | done | rfl)) rfl
    · have hc1' := Bool.eq_false_iff.1 hc1
      refine W_skip rfl ?_
      refine blkQ_n ?_
      refine thenQ_n ?_
      refine W_reg rfl ?_
      refine Rv rfl rfl rfl (U_move rfl) rfl rfl ?_
      refine Rv rfl rfl rfl (U_add rfl rfl (w64e (m := ((k + 1 : Nat) : Int)) (by omega) (by omega) (by omega))) rfl rfl ?_
      refine Rv rfl rfl rfl (U_assign rfl) rfl rfl ?_
      refine Re rfl ?_
      refine thenQ_n ?_
      exact againTo (T' := [(2, i64 ((h : Nat) : Int)), (3, i64 ((z : Nat) : Int)), (4, .rop [i64 ((H : Nat) : Int), i64 ((Z : Nat) : Int), .ros (ls.map boxesL) ls.length c] 0), (9, .ros (ls[a].flatMap bxC) ls[a].length none), (10, i64 (((k + 1) : Nat) : Int))]) (H' := []) (n := 0) (ls[a].length - (k + 1)) ⟨k + 1, (by omega), (by intro j hj h; rcases Nat.lt_succ_iff_lt_or_eq.1 h with h | rfl; exact hi0_1 j hj h; simpa using hc1), rfl, rfl⟩ (by omega) id ⟨eD rfl rfl, eD rfl rfl, eD rfl rfl, eD rfl rfl, eD rfl rfl, trivial⟩ trivial rfl rfl rfl rfl (fun _ _ => rfl)
  · refine W_exit rfl ?_
    refine thenQ_x ?_
    refine thenQ_x ?_
    refine blkQ_x rfl ?_
    refine thenQ_n ?_
    refine W_seq rfl ?_
    refine W_reg rfl ?_
    refine Rv rfl rfl rfl (U_assign rfl) rfl rfl ?_
    refine Re rfl ?_
    refine thenQ_n ?_
    refine W_ret rfl ?_
    exact retL (rlT rfl rl0) (by first | rfl | (simp only [packA]; rw [inL', show ls[a].any (fun b => inN b H z h) = true from any_true hck hc1]; simp [hh]; first | done | rfl) | (simp only [packA]; rw [inL', any_false fun j hj => hi0_1 j hj (by omega)]; simp; first | done | rfl)) rfl
abbrev fldA (l : List Nat) (n : Nat) : AV := .ros (l.map n64) n (some n)
def fldK (Z H : Nat) (l : List Bx) (m : Nat) : List Nat := (List.range (Z * H)).map fun i => if i < m then bitQ l H (i / H) (i % H) else 0
theorem fldK_len {Z H m : Nat} {l : List Bx} : (fldK Z H l m).length = Z * H := by simp [fldK]
theorem fldK_0 {Z H : Nat} {l : List Bx} : fldK Z H l 0 = List.replicate (H * Z) 0 := by
  apply List.ext_getElem (by simp [fldK, Nat.mul_comm])
  intro i h1 h2
  simp [fldK]
theorem fldK_all {Z H m : Nat} {l : List Bx} (h : Z * H ≤ m) : fldK Z H l m = fldQ Z H l := by
  refine List.map_congr_left fun i hi => ?_
  rw [if_pos (by have := List.mem_range.1 hi; omega)]
theorem zh_lt {Z H z h : Nat} (hz : z < Z) (hh : h < H) : z * H + h < Z * H := by
  have := Nat.mul_le_mul_right H (show z + 1 ≤ Z by omega)
  rw [Nat.add_mul] at this; omega
theorem fldK_t {Z H z h : Nat} {l : List Bx} (hz : z < Z) (hh : h < H) (e : inL' l H z h = true) : (fldK Z H l (z * H + h)).set (z * H + h) 1 = fldK Z H l (z * H + (h + 1)) := by
  apply List.ext_getElem (by simp [fldK])
  intro i h1 h2
  rw [List.getElem_set]
  have hd := zh_div (z := z) hh
  simp only [fldK, List.getElem_map, List.getElem_range]
  by_cases hi : z * H + h = i
  · subst hi; rw [if_pos rfl, if_pos (by omega), hd.1, hd.2, bitQ, if_pos e]
  · rw [if_neg hi]
    by_cases h3 : i < z * H + h
    · rw [if_pos h3, if_pos (by omega)]
    · rw [if_neg h3, if_neg (by omega)]
theorem fldK_f {Z H z h : Nat} {l : List Bx} (hz : z < Z) (hh : h < H) (e : ¬ inL' l H z h = true) : fldK Z H l (z * H + h) = fldK Z H l (z * H + (h + 1)) := by
  refine List.map_congr_left fun i hi => ?_
  have hd := zh_div (z := z) hh
  by_cases hi : z * H + h = i
  · subst hi; rw [if_neg (by omega), if_pos (by omega), hd.1, hd.2, bitQ, if_neg e]
  · by_cases h3 : i < z * H + h
    · rw [if_pos h3, if_pos (by omega)]
    · rw [if_neg h3, if_neg (by omega)]
theorem field_p (H Z : Nat) (ls : List (List Bx)) (c : Option Nat) (hv : VS ⟨H, Z, ls⟩ H Z) (a : Nat) (ha : a < ls.length) : Pure Try.prog 53 [.agg [i64 (H : Nat), i64 (Z : Nat), landsA ls c], i64 (a : Nat)] (fldA (fldQ Z H ls[a]) (H * Z)) := by
  have hv' := hv
  obtain ⟨_, _, hH, hZ1, hln, hlb, hbx⟩ := hv'
  simp only at hln hlb hbx
  have hZ := hZ1.2
  have hHZ : Z * H ≤ 1152 := Nat.mul_le_mul hZ hH.2
  have hHZc : H * Z = Z * H := Nat.mul_comm _ _
  refine pure_of_body Try.func53 (c := body Try.f53) rfl (by simp [Try.ntmps53]) fun w0 Φ0 => ?_
  refine W_seq rfl ?_
  refine W_reg rfl ?_
  refine Rv rfl rfl rfl (U_boxF rfl rfl rfl) rfl rfl ?_
  refine Rv rfl rfl rfl (U_assign rfl) rfl rfl ?_
  refine Re rfl ?_
  refine thenQ_n ?_
  refine W_seq rfl ?_
  refine W_reg rfl ?_
  refine Rv rfl rfl rfl (U_fieldAddrR rfl) rfl rfl ?_
  refine Rv rfl rfl rfl (U_load1 rfl rfl rfl) rfl rfl ?_
  refine Rv rfl rfl rfl (U_fieldAddrR rfl) rfl rfl ?_
  refine Rv rfl rfl rfl (U_load1 rfl rfl rfl) rfl rfl ?_
  refine Rv rfl rfl rfl (U_mul rfl rfl (w64e (m := ((H * Z : Nat) : Int)) (by omega) (by omega) (by omega))) rfl rfl ?_
  refine Ra rfl rfl rfl (U_mkL (n := H * Z) (cs' := (List.replicate (H * Z) (0 : Nat)).map n64) rfl rfl rfl (by omega) (replM rfl _)) rfl rfl rfl ?_
  refine Rv rfl rfl rfl (U_assign rfl) rfl rfl ?_
  refine Re rfl ?_
  refine thenQ_n ?_
  refine W_seq rfl ?_
  refine W_seq rfl ?_
  refine W_reg rfl ?_
  refine Rv rfl rfl rfl (U_assign rfl) rfl rfl ?_
  refine Re rfl ?_
  refine thenQ_n ?_
  refine W_block rfl ?_
  refine LoopTo (T' := [(1, i64 ((a : Nat) : Int)), (2, .rop [i64 ((H : Nat) : Int), i64 ((Z : Nat) : Int), .ros (ls.map boxesL) ls.length c] 0), (5, .slice 0 0 (H * Z) (H * Z)), (6, i64 ((0 : Nat) : Int))]) (H' := [(0, some (.cells ((List.replicate (H * Z) 0).map n64) 3))]) (n := 1) rfl (fun mz_ qz_ => ∃ (z : Nat) (f : List Nat), z ≤ Z ∧ f = fldK Z H ls[a] (z * H) ∧ mz_ = Z - z ∧ qz_ = ⟨[(1, i64 ((a : Nat) : Int)), (2, .rop [i64 ((H : Nat) : Int), i64 ((Z : Nat) : Int), .ros (ls.map boxesL) ls.length c] 0), (5, .slice 0 0 (H * Z) (H * Z)), (6, i64 ((z : Nat) : Int))], [(0, some (.cells (f.map n64) 3))], 1, []⟩) ⟨0, List.replicate (H * Z) 0, (by omega), (by rw [Nat.zero_mul, fldK_0]), rfl, rfl⟩ id ⟨eD rfl rfl, eD rfl rfl, e_ rfl rfl, eD rfl rfl, trivial⟩ ⟨rD (mapD (fun _ => rfl) _) rfl rfl, trivial⟩ rfl rfl rfl rfl (fun _ _ => rfl) ?_
  rintro _ _ ⟨z, f, hi0_0, hi0_1, rfl, rfl⟩
  refine W_seq rfl ?_
  refine W_seq rfl ?_
  refine W_reg rfl ?_
  refine Rv rfl rfl rfl (U_move rfl) rfl rfl ?_
  refine Rv rfl rfl rfl (U_fieldAddrR rfl) rfl rfl ?_
  refine Rv rfl rfl rfl (U_load1 rfl rfl rfl) rfl rfl ?_
  refine Rv rfl rfl rfl (U_lss rfl rfl) rfl rfl ?_
  refine Re rfl ?_
  refine thenQ_n ?_
  refine WcondP rfl rfl (fun hc0 => ?_) (fun hc0 => ?_)
  · have hcz : z < Z := by omega
    refine W_skip rfl ?_
    refine thenQ_n ?_
    refine W_seq rfl ?_
    refine W_block rfl ?_
    refine W_seq rfl ?_
    refine W_reg rfl ?_
    refine Rv rfl rfl rfl (U_assign rfl) rfl rfl ?_
    refine Re rfl ?_
    refine thenQ_n ?_
    refine W_block rfl ?_
    refine LoopTo (T' := [(1, i64 ((a : Nat) : Int)), (2, .rop [i64 ((H : Nat) : Int), i64 ((Z : Nat) : Int), .ros (ls.map boxesL) ls.length c] 0), (5, .slice 0 0 (H * Z) (H * Z)), (6, i64 ((z : Nat) : Int)), (7, i64 ((0 : Nat) : Int))]) (H' := [(0, some (.cells (f.map n64) 3))]) (n := 1) rfl (fun mz_ qz_ => ∃ (h : Nat) (f2 : List Nat), h ≤ H ∧ f2 = fldK Z H ls[a] (z * H + h) ∧ mz_ = H - h ∧ qz_ = ⟨[(1, i64 ((a : Nat) : Int)), (2, .rop [i64 ((H : Nat) : Int), i64 ((Z : Nat) : Int), .ros (ls.map boxesL) ls.length c] 0), (5, .slice 0 0 (H * Z) (H * Z)), (6, i64 ((z : Nat) : Int)), (7, i64 ((h : Nat) : Int))], [(0, some (.cells (f2.map n64) 3))], 1, []⟩) ⟨0, f, (by omega), (by rw [hi0_1]; rfl), rfl, rfl⟩ id ⟨eD rfl rfl, eD rfl rfl, e_ rfl rfl, eD rfl rfl, eD rfl rfl, trivial⟩ ⟨rD (mapD (fun _ => rfl) _) rfl rfl, trivial⟩ rfl rfl rfl rfl (fun _ _ => rfl) ?_
    rintro _ _ ⟨h, f2, hi1_0, hi1_1, rfl, rfl⟩
    have hfl : f2.length = Z * H := by rw [hi1_1, fldK_len]
    refine W_seq rfl ?_
    refine W_seq rfl ?_
    refine W_reg rfl ?_
    refine Rv rfl rfl rfl (U_move rfl) rfl rfl ?_
    refine Rv rfl rfl rfl (U_fieldAddrR rfl) rfl rfl ?_
    refine Rv rfl rfl rfl (U_load1 rfl rfl rfl) rfl rfl ?_
    refine Rv rfl rfl rfl (U_lss rfl rfl) rfl rfl ?_
    refine Re rfl ?_
    refine thenQ_n ?_
    refine WcondP rfl rfl (fun hc1 => ?_) (fun hc1 => ?_)
    · have hch : h < H := by omega
      have hzh := zh_lt hcz hch
      refine W_skip rfl ?_
      refine thenQ_n ?_
      refine W_seq rfl ?_
      refine W_block rfl ?_
      refine W_seq rfl ?_
      refine W_reg rfl ?_
      refine Rv rfl rfl rfl (U_load3 rfl rfl rfl rfl rfl) rfl rfl ?_
      refine Rv rfl rfl rfl (U_move rfl) rfl rfl ?_
      refine Rv rfl rfl rfl (U_move rfl) rfl rfl ?_
      refine Rv rfl rfl rfl (U_move rfl) rfl rfl ?_
      refine Rv rfl rfl rfl (U_call rfl rfl (inR_p H Z ls c hv a z h (by omega) (by omega)) rfl) rfl rfl ?_
      refine Re rfl ?_
      refine thenQ_n ?_
      refine Wcond rfl rfl (fun hc2 => ?_) (fun hc2 => ?_)
      · refine W_reg rfl ?_
        refine Rv rfl rfl rfl (U_move rfl) rfl rfl ?_
        refine Rv rfl rfl rfl (U_move rfl) rfl rfl ?_
        refine Rv rfl rfl rfl (U_fieldAddrR rfl) rfl rfl ?_
        refine Rv rfl rfl rfl (U_load1 rfl rfl rfl) rfl rfl ?_
        refine Rv rfl rfl rfl (U_mul rfl rfl (w64e (m := ((z * H : Nat) : Int)) (by omega) (by omega) (by omega))) rfl rfl ?_
        refine Rv rfl rfl rfl (U_move rfl) rfl rfl ?_
        refine Rv rfl rfl rfl (U_add rfl rfl (w64e (m := ((z * H + h : Nat) : Int)) (by omega) (by omega) (by omega))) rfl rfl ?_
        have hx1 : (z * H + h) < f2.length := by omega
        refine Rv rfl rfl rfl (U_indexS (j := (z * H + h)) rfl rfl rfl (by omega)) rfl rfl ?_
        refine Rn rfl rfl rfl (U_store (n := 1) (cs' := (f2.set (z * H + h) 1).map n64) rfl rfl rfl rfl rfl (stLt hx1) rfl setM) rfl ?_
        refine Re rfl ?_
        refine blkQ_n ?_
        refine thenQ_n ?_
        refine W_reg rfl ?_
        refine Rv rfl rfl rfl (U_move rfl) rfl rfl ?_
        refine Rv rfl rfl rfl (U_add rfl rfl (w64e (m := ((h + 1 : Nat) : Int)) (by omega) (by omega) (by omega))) rfl rfl ?_
        refine Rv rfl rfl rfl (U_assign rfl) rfl rfl ?_
        refine Re rfl ?_
        refine thenQ_n ?_
        exact againTo (T' := [(1, i64 ((a : Nat) : Int)), (2, .rop [i64 ((H : Nat) : Int), i64 ((Z : Nat) : Int), .ros (ls.map boxesL) ls.length c] 0), (5, .slice 0 0 (H * Z) (H * Z)), (6, i64 ((z : Nat) : Int)), (7, i64 (((h + 1) : Nat) : Int))]) (H' := [(0, some (.cells ((f2.set (z * H + h) 1).map n64) 3))]) (n := 1) (H - (h + 1)) ⟨h + 1, f2.set (z * H + h) 1, (by omega), (by first | (rw [hi1_1]; exact fldK_t (by omega) (by omega) hc2) | (rw [hi1_1]; exact fldK_f (by omega) (by omega) (by simpa using hc2))), rfl, rfl⟩ (by omega) id ⟨eD rfl rfl, eD rfl rfl, e_ rfl rfl, eD rfl rfl, eD rfl rfl, trivial⟩ ⟨rD (mapD (fun _ => rfl) _) rfl rfl, trivial⟩ rfl rfl rfl rfl (fun _ _ => rfl)
      · have hc2' := Bool.eq_false_iff.1 hc2
        refine W_skip rfl ?_
        refine blkQ_n ?_
        refine thenQ_n ?_
        refine W_reg rfl ?_
        refine Rv rfl rfl rfl (U_move rfl) rfl rfl ?_
        refine Rv rfl rfl rfl (U_add rfl rfl (w64e (m := ((h + 1 : Nat) : Int)) (by omega) (by omega) (by omega))) rfl rfl ?_
        refine Rv rfl rfl rfl (U_assign rfl) rfl rfl ?_
        refine Re rfl ?_
        refine thenQ_n ?_
        exact againTo (T' := [(1, i64 ((a : Nat) : Int)), (2, .rop [i64 ((H : Nat) : Int), i64 ((Z : Nat) : Int), .ros (ls.map boxesL) ls.length c] 0), (5, .slice 0 0 (H * Z) (H * Z)), (6, i64 ((z : Nat) : Int)), (7, i64 (((h + 1) : Nat) : Int))]) (H' := [(0, some (.cells (f2.map n64) 3))]) (n := 1) (H - (h + 1)) ⟨h + 1, f2, (by omega), (by first | (rw [hi1_1]; exact fldK_t (by omega) (by omega) hc2) | (rw [hi1_1]; exact fldK_f (by omega) (by omega) (by simpa using hc2))), rfl, rfl⟩ (by omega) id ⟨eD rfl rfl, eD rfl rfl, e_ rfl rfl, eD rfl rfl, eD rfl rfl, trivial⟩ ⟨rD (mapD (fun _ => rfl) _) rfl rfl, trivial⟩ rfl rfl rfl rfl (fun _ _ => rfl)
    · refine W_exit rfl ?_
      refine thenQ_x ?_
      refine thenQ_x ?_
      refine blkQ_x rfl ?_
      refine blkQ_n ?_
      refine thenQ_n ?_
      refine W_reg rfl ?_
      refine Rv rfl rfl rfl (U_move rfl) rfl rfl ?_
      refine Rv rfl rfl rfl (U_add rfl rfl (w64e (m := ((z + 1 : Nat) : Int)) (by omega) (by omega) (by omega))) rfl rfl ?_
      refine Rv rfl rfl rfl (U_assign rfl) rfl rfl ?_
      refine Re rfl ?_
      refine thenQ_n ?_
      exact againTo (T' := [(1, i64 ((a : Nat) : Int)), (2, .rop [i64 ((H : Nat) : Int), i64 ((Z : Nat) : Int), .ros (ls.map boxesL) ls.length c] 0), (5, .slice 0 0 (H * Z) (H * Z)), (6, i64 (((z + 1) : Nat) : Int))]) (H' := [(0, some (.cells (f2.map n64) 3))]) (n := 1) (Z - (z + 1)) ⟨z + 1, f2, (by omega), (by rw [hi1_1, show h = H by omega, Nat.succ_mul]), rfl, rfl⟩ (by omega) id ⟨eD rfl rfl, eD rfl rfl, e_ rfl rfl, eD rfl rfl, trivial⟩ ⟨rD (mapD (fun _ => rfl) _) rfl rfl, trivial⟩ rfl rfl rfl rfl (fun _ _ => rfl)
  · refine W_exit rfl ?_
    refine thenQ_x ?_
    refine thenQ_x ?_
    refine blkQ_x rfl ?_
    refine thenQ_n ?_
    refine W_seq rfl ?_
    refine W_reg rfl ?_
    refine Rv rfl rfl rfl (U_move rfl) rfl rfl ?_
    refine Rv rfl rfl rfl (U_assign rfl) rfl rfl ?_
    refine Re rfl ?_
    refine thenQ_n ?_
    refine WfrN 0 rfl (mapD (fun _ => rfl) _) (T' := [(4, .ros (f.map n64) (H * Z) (some (H * Z)))]) (H' := []) ⟨⟨_, rfl, fr_sl (Nat.le_refl _)⟩, trivial⟩ trivial ?_
    refine W_ret rfl ?_
    exact retL (rlT rfl rl0) (by first | rfl | (simp only [packA]; rw [hi0_1, fldK_all (by rw [show z = Z by omega]; exact Nat.le_refl _)]; first | done | rfl)) rfl
end Go.Proofs.Ythlolelbmhfdbaa
end

section
namespace Go.Proofs.Ythlolelbmhfdbaa
set_option maxRecDepth 20000
open Go.AE
def bsN (Z H i : Nat) : List Nat := (bsP Z H (i / H) (i % H)).map fun p => p.1 * H + p.2
theorem bsN_eq {Z H i : Nat} : bsN Z H i = (if 1 < H then [i / H * H + (i % H + 1) % H] else []) ++ (if 2 < H then [i / H * H + (i % H + H - 1) % H] else []) ++ (if 0 < i / H then [i - H] else []) ++ (if i / H + 1 < Z then [i + H] else []) := by
  have hd := Nat.div_add_mod i H
  rw [Nat.mul_comm] at hd
  have e1 : 0 < i / H → (i / H - 1) * H + i % H = i - H := fun h => by
    obtain ⟨m, hm⟩ : ∃ m, i / H = m + 1 := ⟨i / H - 1, by omega⟩
    rw [hm] at hd ⊢
    rw [Nat.succ_mul] at hd
    rw [Nat.add_sub_cancel]; omega
  have e2 : (i / H + 1) * H + i % H = i + H := by rw [Nat.succ_mul]; omega
  unfold bsN bsP
  simp only [List.map_append]
  congr 1
  · congr 1
    · congr 1 <;> (split <;> simp)
    · split
      · rename_i h; simp [e1 h]
      · simp
  · split
    · simp [e2]
    · simp
theorem bsN_lt {Z H i : Nat} (hi : i < Z * H) : ∀ j ∈ bsN Z H i, j < Z * H := by
  intro j hj
  obtain ⟨p, hp, rfl⟩ := List.mem_map.1 hj
  have hH : 0 < H := by rcases Nat.eq_zero_or_pos H with e | e; subst e; omega; exact e
  have := bsP_in (Nat.div_lt_of_lt_mul (by rw [Nat.mul_comm]; exact hi)) (Nat.mod_lt i hH) p hp
  exact zh_lt this.1 this.2
theorem bsN_len {Z H i : Nat} : (bsN Z H i).length ≤ 4 := by rw [bsN, List.length_map]; exact bsP_len
theorem besideR_p (H Z : Nat) (ls : List (List Bx)) (c : Option Nat) (hv : VS ⟨H, Z, ls⟩ H Z) (i : Nat) (hi : i < Z * H) : Pure Try.prog 79 [.agg [i64 (H : Nat), i64 (Z : Nat), landsA ls c], i64 (i : Nat)] (natsA (bsN Z H i) none) := by
  have hv' := hv
  obtain ⟨_, _, hH, hZ1, hln, hlb, hbx⟩ := hv'
  simp only at hln hlb hbx
  have hZ := hZ1.2
  have hHZ : Z * H ≤ 1152 := Nat.mul_le_mul hZ hH.2
  have hHZc : H * Z = Z * H := Nat.mul_comm _ _
  have hdm := Nat.div_add_mod i H
  have hdv : i / H < Z := Nat.div_lt_of_lt_mul (by rw [Nat.mul_comm]; exact hi)
  have hmd : i % H < H := Nat.mod_lt _ (by omega)
  rw [Nat.mul_comm] at hdm
  obtain ⟨z, hzq⟩ : ∃ z, i / H = z := ⟨_, rfl⟩
  obtain ⟨h, hhq⟩ : ∃ h, i % H = h := ⟨_, rfl⟩
  rw [hzq, hhq] at hdm
  rw [hzq] at hdv
  rw [hhq] at hmd
  have hm1 : (h + 1) % H < H := Nat.mod_lt _ (by omega)
  have hm2 : (h + H - 1) % H < H := Nat.mod_lt _ (by omega)
  have hz1 : 0 < z → H ≤ z * H := fun h0 => Nat.le_mul_of_pos_left H h0
  have hzc : H * z = z * H := Nat.mul_comm _ _
  refine pure_of_body Try.func79 (c := body Try.f79) rfl (by simp [Try.ntmps79]) fun w0 Φ0 => ?_
  refine W_seq rfl ?_
  refine W_reg rfl ?_
  refine Rv rfl rfl rfl (U_boxF rfl rfl rfl) rfl rfl ?_
  refine Rv rfl rfl rfl (U_assign rfl) rfl rfl ?_
  refine Re rfl ?_
  refine thenQ_n ?_
  refine W_seq rfl ?_
  refine Wdraw rfl (by kernel_rfl) (by kernel_rfl) ?_
  refine Dv rfl rfl rfl (U_move rfl) rfl rfl ?_
  refine Dv rfl rfl rfl (U_fieldAddrR rfl) rfl rfl ?_
  refine Dv rfl rfl rfl (U_load1 rfl rfl rfl) rfl rfl ?_
  refine Dv rfl rfl rfl (U_rem (c := ((h : Nat) : Int)) rfl rfl (by omega) (by rw [← hhq]; exact tmodN _ _)) rfl rfl ?_
  refine Dv rfl rfl rfl (U_move rfl) rfl rfl ?_
  refine Dv rfl rfl rfl (U_fieldAddrR rfl) rfl rfl ?_
  refine Dv rfl rfl rfl (U_load1 rfl rfl rfl) rfl rfl ?_
  refine Dv rfl rfl rfl (U_quo (c := ((z : Nat) : Int)) rfl rfl (by omega) (by rw [← hzq]; exact wquoN (by omega))) rfl rfl ?_
  refine Dv rfl rfl rfl (U_assign rfl) rfl rfl ?_
  refine Dv rfl rfl rfl (U_assign rfl) rfl rfl ?_
  refine Dr.nil rfl ?_
  refine thenQ_n ?_
  refine W_seq rfl ?_
  refine W_reg rfl ?_
  refine Rv rfl rfl rfl (U_assign rfl) rfl rfl ?_
  refine Re rfl ?_
  refine thenQ_n ?_
  refine W_seq rfl ?_
  refine W_seq rfl ?_
  refine W_reg rfl ?_
  refine Rv rfl rfl rfl (U_fieldAddrR rfl) rfl rfl ?_
  refine Rv rfl rfl rfl (U_load1 rfl rfl rfl) rfl rfl ?_
  refine Rv rfl rfl rfl (U_gtr rfl rfl) rfl rfl ?_
  refine Re rfl ?_
  refine thenQ_n ?_
  refine WcondP rfl rfl (fun hc0 => ?_) (fun hc0 => ?_)
  · refine Wdraw rfl (by kernel_rfl) (by kernel_rfl) ?_
    refine Dv rfl rfl rfl (U_move rfl) rfl rfl ?_
    refine Dv rfl rfl rfl (U_move rfl) rfl rfl ?_
    refine Dv rfl rfl rfl (U_fieldAddrR rfl) rfl rfl ?_
    refine Dv rfl rfl rfl (U_load1 rfl rfl rfl) rfl rfl ?_
    refine Dv rfl rfl rfl (U_mul rfl rfl (w64e (m := ((z * H : Nat) : Int)) (by omega) (by omega) (by omega))) rfl rfl ?_
    refine Dv rfl rfl rfl (U_move rfl) rfl rfl ?_
    refine Dv rfl rfl rfl (U_add rfl rfl (w64e (m := ((h + 1 : Nat) : Int)) (by omega) (by omega) (by omega))) rfl rfl ?_
    refine Dv rfl rfl rfl (U_fieldAddrR rfl) rfl rfl ?_
    refine Dv rfl rfl rfl (U_load1 rfl rfl rfl) rfl rfl ?_
    refine Dv rfl rfl rfl (U_rem (c := (((h + 1) % H : Nat) : Int)) rfl rfl (by omega) (tmodN _ _)) rfl rfl ?_
    refine Dv rfl rfl rfl (U_add rfl rfl (w64e (m := ((z * H + (h + 1) % H : Nat) : Int)) (by omega) (by omega) (by omega))) rfl rfl ?_
    refine Dv rfl rfl rfl (U_buildSliceF (by rfl) (by decide) rfl rfl rfl) rfl rfl ?_
    refine Da rfl rfl rfl (U_appN (m := 0) (cs' := [z * H + (h + 1) % H].map n64) (n' := [z * H + (h + 1) % H].length) rfl rfl rfl (by omega) rfl rfl) rfl rfl rfl rfl ?_
    refine Dv rfl rfl rfl (U_assign rfl) rfl rfl ?_
    refine Dr.nil rfl ?_
    refine thenQ_n ?_
    refine W_seq rfl ?_
    refine W_seq rfl ?_
    refine W_reg rfl ?_
    refine Rv rfl rfl rfl (U_fieldAddrR rfl) rfl rfl ?_
    refine Rv rfl rfl rfl (U_load1 rfl rfl rfl) rfl rfl ?_
    refine Rv rfl rfl rfl (U_gtr rfl rfl) rfl rfl ?_
    refine Re rfl ?_
    refine thenQ_n ?_
    refine WcondP rfl rfl (fun hc1 => ?_) (fun hc1 => ?_)
    · refine Wjoin ⟨[(1, i64 ((i : Nat) : Int)), (2, .rop [i64 ((H : Nat) : Int), i64 ((Z : Nat) : Int), .ros (ls.map boxesL) ls.length c] 0), (6, i64 ((z : Nat) : Int)), (7, .out 1 (([z * H + (h + 1) % H] ++ [z * H + (h + H - 1) % H]).length) 1)], [(1, outB (([z * H + (h + 1) % H] ++ [z * H + (h + H - 1) % H]).map n64) 3 (([z * H + (h + 1) % H] ++ [z * H + (h + H - 1) % H]).length))], 2, []⟩ ?_ ?_
      · rcases Nat.eq_zero_or_pos [z * H + (h + 1) % H].length with hz1 | hz1
        · refine Wdraw rfl (by kernel_rfl) (by kernel_rfl) ?_
          refine Dv rfl rfl rfl (U_move rfl) rfl rfl ?_
          refine Dv rfl rfl rfl (U_move rfl) rfl rfl ?_
          refine Dv rfl rfl rfl (U_fieldAddrR rfl) rfl rfl ?_
          refine Dv rfl rfl rfl (U_load1 rfl rfl rfl) rfl rfl ?_
          refine Dv rfl rfl rfl (U_mul rfl rfl (w64e (m := ((z * H : Nat) : Int)) (by omega) (by omega) (by omega))) rfl rfl ?_
          refine Dv rfl rfl rfl (U_move rfl) rfl rfl ?_
          refine Dv rfl rfl rfl (U_fieldAddrR rfl) rfl rfl ?_
          refine Dv rfl rfl rfl (U_load1 rfl rfl rfl) rfl rfl ?_
          refine Dv rfl rfl rfl (U_add rfl rfl (w64e (m := ((h + H : Nat) : Int)) (by omega) (by omega) (by omega))) rfl rfl ?_
          refine Dv rfl rfl rfl (U_sub rfl rfl (w64e (m := ((h + H - 1 : Nat) : Int)) (by omega) (by omega) (by omega))) rfl rfl ?_
          refine Dv rfl rfl rfl (U_fieldAddrR rfl) rfl rfl ?_
          refine Dv rfl rfl rfl (U_load1 rfl rfl rfl) rfl rfl ?_
          refine Dv rfl rfl rfl (U_rem (c := (((h + H - 1) % H : Nat) : Int)) rfl rfl (by omega) (tmodN _ _)) rfl rfl ?_
          refine Dv rfl rfl rfl (U_add rfl rfl (w64e (m := ((z * H + (h + H - 1) % H : Nat) : Int)) (by omega) (by omega) (by omega))) rfl rfl ?_
          refine Dv rfl rfl rfl (U_buildSliceF (by rfl) (by decide) rfl rfl rfl) rfl rfl ?_
          refine Da rfl rfl rfl (U_appO0 (b := 0) (cs := ([z * H + (h + 1) % H].map n64)) (m := 0) (cs' := ([z * H + (h + 1) % H] ++ [z * H + (h + H - 1) % H]).map n64) (n' := ([z * H + (h + 1) % H] ++ [z * H + (h + H - 1) % H]).length) rfl hz1 rfl (by simp) (map_len1 _) rfl (by simp) (appM _ _) (len1 _ _)) rfl rfl rfl rfl ?_
          refine Dv rfl rfl rfl (U_assign rfl) rfl rfl ?_
          refine Dr.nil rfl ?_
          exact joinTo id ⟨eD rfl rfl, eD rfl rfl, eD rfl rfl, e_ rfl rfl, trivial⟩ ⟨rO (mapD (fun _ => rfl) _) rfl rfl, trivial⟩ rfl rfl rfl rfl (fun _ _ => rfl)
        · refine Wdraw rfl (by kernel_rfl) (by kernel_rfl) ?_
          refine Dv rfl rfl rfl (U_move rfl) rfl rfl ?_
          refine Dv rfl rfl rfl (U_move rfl) rfl rfl ?_
          refine Dv rfl rfl rfl (U_fieldAddrR rfl) rfl rfl ?_
          refine Dv rfl rfl rfl (U_load1 rfl rfl rfl) rfl rfl ?_
          refine Dv rfl rfl rfl (U_mul rfl rfl (w64e (m := ((z * H : Nat) : Int)) (by omega) (by omega) (by omega))) rfl rfl ?_
          refine Dv rfl rfl rfl (U_move rfl) rfl rfl ?_
          refine Dv rfl rfl rfl (U_fieldAddrR rfl) rfl rfl ?_
          refine Dv rfl rfl rfl (U_load1 rfl rfl rfl) rfl rfl ?_
          refine Dv rfl rfl rfl (U_add rfl rfl (w64e (m := ((h + H : Nat) : Int)) (by omega) (by omega) (by omega))) rfl rfl ?_
          refine Dv rfl rfl rfl (U_sub rfl rfl (w64e (m := ((h + H - 1 : Nat) : Int)) (by omega) (by omega) (by omega))) rfl rfl ?_
          refine Dv rfl rfl rfl (U_fieldAddrR rfl) rfl rfl ?_
          refine Dv rfl rfl rfl (U_load1 rfl rfl rfl) rfl rfl ?_
          refine Dv rfl rfl rfl (U_rem (c := (((h + H - 1) % H : Nat) : Int)) rfl rfl (by omega) (tmodN _ _)) rfl rfl ?_
          refine Dv rfl rfl rfl (U_add rfl rfl (w64e (m := ((z * H + (h + H - 1) % H : Nat) : Int)) (by omega) (by omega) (by omega))) rfl rfl ?_
          refine Dv rfl rfl rfl (U_buildSliceF (by rfl) (by decide) rfl rfl rfl) rfl rfl ?_
          refine Da rfl rfl rfl (U_appO (b := 0) (m := 0) (cs' := ([z * H + (h + 1) % H] ++ [z * H + (h + H - 1) % H]).map n64) (n' := ([z * H + (h + 1) % H] ++ [z * H + (h + H - 1) % H]).length) rfl rfl (by simp) rfl (map_len1 _) rfl rfl (by simp) (appM _ _) (len1 _ _)) rfl rfl rfl (upsO rfl hz1) ?_
          refine Dv rfl rfl rfl (U_assign rfl) rfl rfl ?_
          refine Dr.nil rfl ?_
          exact joinTo id ⟨eD rfl rfl, eD rfl rfl, eD rfl rfl, e_ rfl rfl, trivial⟩ ⟨rO (mapD (fun _ => rfl) _) rfl rfl, trivial⟩ rfl rfl rfl rfl (fun _ _ => rfl)
      refine thenQ_n ?_
      refine W_seq rfl ?_
      refine W_seq rfl ?_
      refine W_reg rfl ?_
      refine Rv rfl rfl rfl (U_move rfl) rfl rfl ?_
      refine Rv rfl rfl rfl (U_gtr rfl rfl) rfl rfl ?_
      refine Re rfl ?_
      refine thenQ_n ?_
      refine WcondP rfl rfl (fun hc2 => ?_) (fun hc2 => ?_)
      · refine W_reg rfl ?_
        refine Rv rfl rfl rfl (U_move rfl) rfl rfl ?_
        refine Rv rfl rfl rfl (U_move rfl) rfl rfl ?_
        refine Rv rfl rfl rfl (U_fieldAddrR rfl) rfl rfl ?_
        refine Rv rfl rfl rfl (U_load1 rfl rfl rfl) rfl rfl ?_
        refine Rv rfl rfl rfl (U_sub rfl rfl (w64e (m := ((i - H : Nat) : Int)) (by omega) (by omega) (by omega))) rfl rfl ?_
        refine Rv rfl rfl rfl (U_buildSliceF (by rfl) (by decide) rfl rfl rfl) rfl rfl ?_
        refine Ra rfl rfl rfl (U_appO (b := 1) (m := 0) (cs' := (([z * H + (h + 1) % H] ++ [z * H + (h + H - 1) % H]) ++ [i - H]).map n64) (n' := (([z * H + (h + 1) % H] ++ [z * H + (h + H - 1) % H]) ++ [i - H]).length) rfl rfl (by simp) rfl (map_len1 _) rfl rfl (by simp) (appM _ _) (len1 _ _)) rfl rfl rfl ?_
        refine Rv rfl rfl rfl (U_assign rfl) rfl rfl ?_
        refine Re rfl ?_
        refine thenQ_n ?_
        refine W_seq rfl ?_
        refine W_seq rfl ?_
        refine W_reg rfl ?_
        refine Rv rfl rfl rfl (U_move rfl) rfl rfl ?_
        refine Rv rfl rfl rfl (U_add rfl rfl (w64e (m := ((z + 1 : Nat) : Int)) (by omega) (by omega) (by omega))) rfl rfl ?_
        refine Rv rfl rfl rfl (U_fieldAddrR rfl) rfl rfl ?_
        refine Rv rfl rfl rfl (U_load1 rfl rfl rfl) rfl rfl ?_
        refine Rv rfl rfl rfl (U_lss rfl rfl) rfl rfl ?_
        refine Re rfl ?_
        refine thenQ_n ?_
        refine WcondP rfl rfl (fun hc3 => ?_) (fun hc3 => ?_)
        · refine W_reg rfl ?_
          refine Rv rfl rfl rfl (U_move rfl) rfl rfl ?_
          refine Rv rfl rfl rfl (U_move rfl) rfl rfl ?_
          refine Rv rfl rfl rfl (U_fieldAddrR rfl) rfl rfl ?_
          refine Rv rfl rfl rfl (U_load1 rfl rfl rfl) rfl rfl ?_
          refine Rv rfl rfl rfl (U_add rfl rfl (w64e (m := ((i + H : Nat) : Int)) (by omega) (by omega) (by omega))) rfl rfl ?_
          refine Rv rfl rfl rfl (U_buildSliceF (by rfl) (by decide) rfl rfl rfl) rfl rfl ?_
          refine Ra rfl rfl rfl (U_appO (b := 2) (m := 0) (cs' := ((([z * H + (h + 1) % H] ++ [z * H + (h + H - 1) % H]) ++ [i - H]) ++ [i + H]).map n64) (n' := ((([z * H + (h + 1) % H] ++ [z * H + (h + H - 1) % H]) ++ [i - H]) ++ [i + H]).length) rfl rfl (by simp) rfl (map_len1 _) rfl rfl (by simp) (appM _ _) (len1 _ _)) rfl rfl rfl ?_
          refine Rv rfl rfl rfl (U_assign rfl) rfl rfl ?_
          refine Re rfl ?_
          refine thenQ_n ?_
          refine W_seq rfl ?_
          refine W_reg rfl ?_
          refine Rv rfl rfl rfl (U_move rfl) rfl rfl ?_
          refine Rv rfl rfl rfl (U_assign rfl) rfl rfl ?_
          refine Re rfl ?_
          refine thenQ_n ?_
          refine WfrO 3 (((([z * H + (h + 1) % H] ++ [z * H + (h + H - 1) % H]) ++ [i - H]) ++ [i + H]).map n64) rfl (mapD (fun _ => rfl) _) (T' := [(4, .ros (((([z * H + (h + 1) % H] ++ [z * H + (h + H - 1) % H]) ++ [i - H]) ++ [i + H]).map n64) (((([z * H + (h + 1) % H] ++ [z * H + (h + H - 1) % H]) ++ [i - H]) ++ [i + H]).length) none)]) (H' := []) ⟨fO rfl, trivial⟩ trivial ?_
          refine W_ret rfl ?_
          exact retL (rlT rfl rl0) (by first | rfl | (simp only [packA]; rw [bsN_eq, hzq, hhq]; (repeat' split) <;> first | rfl | omega; first | done | rfl)) rfl
        · refine W_skip rfl ?_
          refine thenQ_n ?_
          refine W_seq rfl ?_
          refine W_reg rfl ?_
          refine Rv rfl rfl rfl (U_move rfl) rfl rfl ?_
          refine Rv rfl rfl rfl (U_assign rfl) rfl rfl ?_
          refine Re rfl ?_
          refine thenQ_n ?_
          refine WfrO 2 ((([z * H + (h + 1) % H] ++ [z * H + (h + H - 1) % H]) ++ [i - H]).map n64) rfl (mapD (fun _ => rfl) _) (T' := [(4, .ros ((([z * H + (h + 1) % H] ++ [z * H + (h + H - 1) % H]) ++ [i - H]).map n64) ((([z * H + (h + 1) % H] ++ [z * H + (h + H - 1) % H]) ++ [i - H]).length) none)]) (H' := []) ⟨fO rfl, trivial⟩ trivial ?_
          refine W_ret rfl ?_
          exact retL (rlT rfl rl0) (by first | rfl | (simp only [packA]; rw [bsN_eq, hzq, hhq]; (repeat' split) <;> first | rfl | omega; first | done | rfl)) rfl
      · refine W_skip rfl ?_
        refine thenQ_n ?_
        refine W_seq rfl ?_
        refine W_seq rfl ?_
        refine W_reg rfl ?_
        refine Rv rfl rfl rfl (U_move rfl) rfl rfl ?_
        refine Rv rfl rfl rfl (U_add rfl rfl (w64e (m := ((z + 1 : Nat) : Int)) (by omega) (by omega) (by omega))) rfl rfl ?_
        refine Rv rfl rfl rfl (U_fieldAddrR rfl) rfl rfl ?_
        refine Rv rfl rfl rfl (U_load1 rfl rfl rfl) rfl rfl ?_
        refine Rv rfl rfl rfl (U_lss rfl rfl) rfl rfl ?_
        refine Re rfl ?_
        refine thenQ_n ?_
        refine WcondP rfl rfl (fun hc3 => ?_) (fun hc3 => ?_)
        · refine W_reg rfl ?_
          refine Rv rfl rfl rfl (U_move rfl) rfl rfl ?_
          refine Rv rfl rfl rfl (U_move rfl) rfl rfl ?_
          refine Rv rfl rfl rfl (U_fieldAddrR rfl) rfl rfl ?_
          refine Rv rfl rfl rfl (U_load1 rfl rfl rfl) rfl rfl ?_
          refine Rv rfl rfl rfl (U_add rfl rfl (w64e (m := ((i + H : Nat) : Int)) (by omega) (by omega) (by omega))) rfl rfl ?_
          refine Rv rfl rfl rfl (U_buildSliceF (by rfl) (by decide) rfl rfl rfl) rfl rfl ?_
          refine Ra rfl rfl rfl (U_appO (b := 1) (m := 0) (cs' := (([z * H + (h + 1) % H] ++ [z * H + (h + H - 1) % H]) ++ [i + H]).map n64) (n' := (([z * H + (h + 1) % H] ++ [z * H + (h + H - 1) % H]) ++ [i + H]).length) rfl rfl (by simp) rfl (map_len1 _) rfl rfl (by simp) (appM _ _) (len1 _ _)) rfl rfl rfl ?_
          refine Rv rfl rfl rfl (U_assign rfl) rfl rfl ?_
          refine Re rfl ?_
          refine thenQ_n ?_
          refine W_seq rfl ?_
          refine W_reg rfl ?_
          refine Rv rfl rfl rfl (U_move rfl) rfl rfl ?_
          refine Rv rfl rfl rfl (U_assign rfl) rfl rfl ?_
          refine Re rfl ?_
          refine thenQ_n ?_
          refine WfrO 2 ((([z * H + (h + 1) % H] ++ [z * H + (h + H - 1) % H]) ++ [i + H]).map n64) rfl (mapD (fun _ => rfl) _) (T' := [(4, .ros ((([z * H + (h + 1) % H] ++ [z * H + (h + H - 1) % H]) ++ [i + H]).map n64) ((([z * H + (h + 1) % H] ++ [z * H + (h + H - 1) % H]) ++ [i + H]).length) none)]) (H' := []) ⟨fO rfl, trivial⟩ trivial ?_
          refine W_ret rfl ?_
          exact retL (rlT rfl rl0) (by first | rfl | (simp only [packA]; rw [bsN_eq, hzq, hhq]; (repeat' split) <;> first | rfl | omega; first | done | rfl)) rfl
        · refine W_skip rfl ?_
          refine thenQ_n ?_
          refine W_seq rfl ?_
          refine W_reg rfl ?_
          refine Rv rfl rfl rfl (U_move rfl) rfl rfl ?_
          refine Rv rfl rfl rfl (U_assign rfl) rfl rfl ?_
          refine Re rfl ?_
          refine thenQ_n ?_
          refine WfrO 1 (([z * H + (h + 1) % H] ++ [z * H + (h + H - 1) % H]).map n64) rfl (mapD (fun _ => rfl) _) (T' := [(4, .ros (([z * H + (h + 1) % H] ++ [z * H + (h + H - 1) % H]).map n64) (([z * H + (h + 1) % H] ++ [z * H + (h + H - 1) % H]).length) none)]) (H' := []) ⟨fO rfl, trivial⟩ trivial ?_
          refine W_ret rfl ?_
          exact retL (rlT rfl rl0) (by first | rfl | (simp only [packA]; rw [bsN_eq, hzq, hhq]; (repeat' split) <;> first | rfl | omega; first | done | rfl)) rfl
    · refine W_skip rfl ?_
      refine thenQ_n ?_
      refine W_seq rfl ?_
      refine W_seq rfl ?_
      refine W_reg rfl ?_
      refine Rv rfl rfl rfl (U_move rfl) rfl rfl ?_
      refine Rv rfl rfl rfl (U_gtr rfl rfl) rfl rfl ?_
      refine Re rfl ?_
      refine thenQ_n ?_
      refine WcondP rfl rfl (fun hc2 => ?_) (fun hc2 => ?_)
      · refine W_reg rfl ?_
        refine Rv rfl rfl rfl (U_move rfl) rfl rfl ?_
        refine Rv rfl rfl rfl (U_move rfl) rfl rfl ?_
        refine Rv rfl rfl rfl (U_fieldAddrR rfl) rfl rfl ?_
        refine Rv rfl rfl rfl (U_load1 rfl rfl rfl) rfl rfl ?_
        refine Rv rfl rfl rfl (U_sub rfl rfl (w64e (m := ((i - H : Nat) : Int)) (by omega) (by omega) (by omega))) rfl rfl ?_
        refine Rv rfl rfl rfl (U_buildSliceF (by rfl) (by decide) rfl rfl rfl) rfl rfl ?_
        refine Ra rfl rfl rfl (U_appO (b := 0) (m := 0) (cs' := ([z * H + (h + 1) % H] ++ [i - H]).map n64) (n' := ([z * H + (h + 1) % H] ++ [i - H]).length) rfl rfl (by simp) rfl (map_len1 _) rfl rfl (by simp) (appM _ _) (len1 _ _)) rfl rfl rfl ?_
        refine Rv rfl rfl rfl (U_assign rfl) rfl rfl ?_
        refine Re rfl ?_
        refine thenQ_n ?_
        refine W_seq rfl ?_
        refine W_seq rfl ?_
        refine W_reg rfl ?_
        refine Rv rfl rfl rfl (U_move rfl) rfl rfl ?_
        refine Rv rfl rfl rfl (U_add rfl rfl (w64e (m := ((z + 1 : Nat) : Int)) (by omega) (by omega) (by omega))) rfl rfl ?_
        refine Rv rfl rfl rfl (U_fieldAddrR rfl) rfl rfl ?_
        refine Rv rfl rfl rfl (U_load1 rfl rfl rfl) rfl rfl ?_
        refine Rv rfl rfl rfl (U_lss rfl rfl) rfl rfl ?_
        refine Re rfl ?_
        refine thenQ_n ?_
        refine WcondP rfl rfl (fun hc3 => ?_) (fun hc3 => ?_)
        · refine W_reg rfl ?_
          refine Rv rfl rfl rfl (U_move rfl) rfl rfl ?_
          refine Rv rfl rfl rfl (U_move rfl) rfl rfl ?_
          refine Rv rfl rfl rfl (U_fieldAddrR rfl) rfl rfl ?_
          refine Rv rfl rfl rfl (U_load1 rfl rfl rfl) rfl rfl ?_
          refine Rv rfl rfl rfl (U_add rfl rfl (w64e (m := ((i + H : Nat) : Int)) (by omega) (by omega) (by omega))) rfl rfl ?_
          refine Rv rfl rfl rfl (U_buildSliceF (by rfl) (by decide) rfl rfl rfl) rfl rfl ?_
          refine Ra rfl rfl rfl (U_appO (b := 1) (m := 0) (cs' := (([z * H + (h + 1) % H] ++ [i - H]) ++ [i + H]).map n64) (n' := (([z * H + (h + 1) % H] ++ [i - H]) ++ [i + H]).length) rfl rfl (by simp) rfl (map_len1 _) rfl rfl (by simp) (appM _ _) (len1 _ _)) rfl rfl rfl ?_
          refine Rv rfl rfl rfl (U_assign rfl) rfl rfl ?_
          refine Re rfl ?_
          refine thenQ_n ?_
          refine W_seq rfl ?_
          refine W_reg rfl ?_
          refine Rv rfl rfl rfl (U_move rfl) rfl rfl ?_
          refine Rv rfl rfl rfl (U_assign rfl) rfl rfl ?_
          refine Re rfl ?_
          refine thenQ_n ?_
          refine WfrO 2 ((([z * H + (h + 1) % H] ++ [i - H]) ++ [i + H]).map n64) rfl (mapD (fun _ => rfl) _) (T' := [(4, .ros ((([z * H + (h + 1) % H] ++ [i - H]) ++ [i + H]).map n64) ((([z * H + (h + 1) % H] ++ [i - H]) ++ [i + H]).length) none)]) (H' := []) ⟨fO rfl, trivial⟩ trivial ?_
          refine W_ret rfl ?_
          exact retL (rlT rfl rl0) (by first | rfl | (simp only [packA]; rw [bsN_eq, hzq, hhq]; (repeat' split) <;> first | rfl | omega; first | done | rfl)) rfl
        · refine W_skip rfl ?_
          refine thenQ_n ?_
          refine W_seq rfl ?_
          refine W_reg rfl ?_
          refine Rv rfl rfl rfl (U_move rfl) rfl rfl ?_
          refine Rv rfl rfl rfl (U_assign rfl) rfl rfl ?_
          refine Re rfl ?_
          refine thenQ_n ?_
          refine WfrO 1 (([z * H + (h + 1) % H] ++ [i - H]).map n64) rfl (mapD (fun _ => rfl) _) (T' := [(4, .ros (([z * H + (h + 1) % H] ++ [i - H]).map n64) (([z * H + (h + 1) % H] ++ [i - H]).length) none)]) (H' := []) ⟨fO rfl, trivial⟩ trivial ?_
          refine W_ret rfl ?_
          exact retL (rlT rfl rl0) (by first | rfl | (simp only [packA]; rw [bsN_eq, hzq, hhq]; (repeat' split) <;> first | rfl | omega; first | done | rfl)) rfl
      · refine W_skip rfl ?_
        refine thenQ_n ?_
        refine W_seq rfl ?_
        refine W_seq rfl ?_
        refine W_reg rfl ?_
        refine Rv rfl rfl rfl (U_move rfl) rfl rfl ?_
        refine Rv rfl rfl rfl (U_add rfl rfl (w64e (m := ((z + 1 : Nat) : Int)) (by omega) (by omega) (by omega))) rfl rfl ?_
        refine Rv rfl rfl rfl (U_fieldAddrR rfl) rfl rfl ?_
        refine Rv rfl rfl rfl (U_load1 rfl rfl rfl) rfl rfl ?_
        refine Rv rfl rfl rfl (U_lss rfl rfl) rfl rfl ?_
        refine Re rfl ?_
        refine thenQ_n ?_
        refine WcondP rfl rfl (fun hc3 => ?_) (fun hc3 => ?_)
        · refine W_reg rfl ?_
          refine Rv rfl rfl rfl (U_move rfl) rfl rfl ?_
          refine Rv rfl rfl rfl (U_move rfl) rfl rfl ?_
          refine Rv rfl rfl rfl (U_fieldAddrR rfl) rfl rfl ?_
          refine Rv rfl rfl rfl (U_load1 rfl rfl rfl) rfl rfl ?_
          refine Rv rfl rfl rfl (U_add rfl rfl (w64e (m := ((i + H : Nat) : Int)) (by omega) (by omega) (by omega))) rfl rfl ?_
          refine Rv rfl rfl rfl (U_buildSliceF (by rfl) (by decide) rfl rfl rfl) rfl rfl ?_
          refine Ra rfl rfl rfl (U_appO (b := 0) (m := 0) (cs' := ([z * H + (h + 1) % H] ++ [i + H]).map n64) (n' := ([z * H + (h + 1) % H] ++ [i + H]).length) rfl rfl (by simp) rfl (map_len1 _) rfl rfl (by simp) (appM _ _) (len1 _ _)) rfl rfl rfl ?_
          refine Rv rfl rfl rfl (U_assign rfl) rfl rfl ?_
          refine Re rfl ?_
          refine thenQ_n ?_
          refine W_seq rfl ?_
          refine W_reg rfl ?_
          refine Rv rfl rfl rfl (U_move rfl) rfl rfl ?_
          refine Rv rfl rfl rfl (U_assign rfl) rfl rfl ?_
          refine Re rfl ?_
          refine thenQ_n ?_
          refine WfrO 1 (([z * H + (h + 1) % H] ++ [i + H]).map n64) rfl (mapD (fun _ => rfl) _) (T' := [(4, .ros (([z * H + (h + 1) % H] ++ [i + H]).map n64) (([z * H + (h + 1) % H] ++ [i + H]).length) none)]) (H' := []) ⟨fO rfl, trivial⟩ trivial ?_
          refine W_ret rfl ?_
          exact retL (rlT rfl rl0) (by first | rfl | (simp only [packA]; rw [bsN_eq, hzq, hhq]; (repeat' split) <;> first | rfl | omega; first | done | rfl)) rfl
        · refine W_skip rfl ?_
          refine thenQ_n ?_
          refine W_seq rfl ?_
          refine W_reg rfl ?_
          refine Rv rfl rfl rfl (U_move rfl) rfl rfl ?_
          refine Rv rfl rfl rfl (U_assign rfl) rfl rfl ?_
          refine Re rfl ?_
          refine thenQ_n ?_
          refine WfrO 0 ([z * H + (h + 1) % H].map n64) rfl (mapD (fun _ => rfl) _) (T' := [(4, .ros ([z * H + (h + 1) % H].map n64) ([z * H + (h + 1) % H].length) none)]) (H' := []) ⟨fO rfl, trivial⟩ trivial ?_
          refine W_ret rfl ?_
          exact retL (rlT rfl rl0) (by first | rfl | (simp only [packA]; rw [bsN_eq, hzq, hhq]; (repeat' split) <;> first | rfl | omega; first | done | rfl)) rfl
  · refine W_skip rfl ?_
    refine thenQ_n ?_
    refine W_seq rfl ?_
    refine W_seq rfl ?_
    refine W_reg rfl ?_
    refine Rv rfl rfl rfl (U_fieldAddrR rfl) rfl rfl ?_
    refine Rv rfl rfl rfl (U_load1 rfl rfl rfl) rfl rfl ?_
    refine Rv rfl rfl rfl (U_gtr rfl rfl) rfl rfl ?_
    refine Re rfl ?_
    refine thenQ_n ?_
    refine WcondP rfl rfl (fun hc1 => ?_) (fun hc1 => ?_)
    · refine Wdraw rfl (by kernel_rfl) (by kernel_rfl) ?_
      refine Dv rfl rfl rfl (U_move rfl) rfl rfl ?_
      refine Dv rfl rfl rfl (U_move rfl) rfl rfl ?_
      refine Dv rfl rfl rfl (U_fieldAddrR rfl) rfl rfl ?_
      refine Dv rfl rfl rfl (U_load1 rfl rfl rfl) rfl rfl ?_
      refine Dv rfl rfl rfl (U_mul rfl rfl (w64e (m := ((z * H : Nat) : Int)) (by omega) (by omega) (by omega))) rfl rfl ?_
      refine Dv rfl rfl rfl (U_move rfl) rfl rfl ?_
      refine Dv rfl rfl rfl (U_fieldAddrR rfl) rfl rfl ?_
      refine Dv rfl rfl rfl (U_load1 rfl rfl rfl) rfl rfl ?_
      refine Dv rfl rfl rfl (U_add rfl rfl (w64e (m := ((h + H : Nat) : Int)) (by omega) (by omega) (by omega))) rfl rfl ?_
      refine Dv rfl rfl rfl (U_sub rfl rfl (w64e (m := ((h + H - 1 : Nat) : Int)) (by omega) (by omega) (by omega))) rfl rfl ?_
      refine Dv rfl rfl rfl (U_fieldAddrR rfl) rfl rfl ?_
      refine Dv rfl rfl rfl (U_load1 rfl rfl rfl) rfl rfl ?_
      refine Dv rfl rfl rfl (U_rem (c := (((h + H - 1) % H : Nat) : Int)) rfl rfl (by omega) (tmodN _ _)) rfl rfl ?_
      refine Dv rfl rfl rfl (U_add rfl rfl (w64e (m := ((z * H + (h + H - 1) % H : Nat) : Int)) (by omega) (by omega) (by omega))) rfl rfl ?_
      refine Dv rfl rfl rfl (U_buildSliceF (by rfl) (by decide) rfl rfl rfl) rfl rfl ?_
      refine Da rfl rfl rfl (U_appN (m := 0) (cs' := [z * H + (h + H - 1) % H].map n64) (n' := [z * H + (h + H - 1) % H].length) rfl rfl rfl (by omega) rfl rfl) rfl rfl rfl rfl ?_
      refine Dv rfl rfl rfl (U_assign rfl) rfl rfl ?_
      refine Dr.nil rfl ?_
      refine thenQ_n ?_
      refine W_seq rfl ?_
      refine W_seq rfl ?_
      refine W_reg rfl ?_
      refine Rv rfl rfl rfl (U_move rfl) rfl rfl ?_
      refine Rv rfl rfl rfl (U_gtr rfl rfl) rfl rfl ?_
      refine Re rfl ?_
      refine thenQ_n ?_
      refine WcondP rfl rfl (fun hc2 => ?_) (fun hc2 => ?_)
      · refine W_reg rfl ?_
        refine Rv rfl rfl rfl (U_move rfl) rfl rfl ?_
        refine Rv rfl rfl rfl (U_move rfl) rfl rfl ?_
        refine Rv rfl rfl rfl (U_fieldAddrR rfl) rfl rfl ?_
        refine Rv rfl rfl rfl (U_load1 rfl rfl rfl) rfl rfl ?_
        refine Rv rfl rfl rfl (U_sub rfl rfl (w64e (m := ((i - H : Nat) : Int)) (by omega) (by omega) (by omega))) rfl rfl ?_
        refine Rv rfl rfl rfl (U_buildSliceF (by rfl) (by decide) rfl rfl rfl) rfl rfl ?_
        refine Ra rfl rfl rfl (U_appO (b := 0) (m := 0) (cs' := ([z * H + (h + H - 1) % H] ++ [i - H]).map n64) (n' := ([z * H + (h + H - 1) % H] ++ [i - H]).length) rfl rfl (by simp) rfl (map_len1 _) rfl rfl (by simp) (appM _ _) (len1 _ _)) rfl rfl rfl ?_
        refine Rv rfl rfl rfl (U_assign rfl) rfl rfl ?_
        refine Re rfl ?_
        refine thenQ_n ?_
        refine W_seq rfl ?_
        refine W_seq rfl ?_
        refine W_reg rfl ?_
        refine Rv rfl rfl rfl (U_move rfl) rfl rfl ?_
        refine Rv rfl rfl rfl (U_add rfl rfl (w64e (m := ((z + 1 : Nat) : Int)) (by omega) (by omega) (by omega))) rfl rfl ?_
        refine Rv rfl rfl rfl (U_fieldAddrR rfl) rfl rfl ?_
        refine Rv rfl rfl rfl (U_load1 rfl rfl rfl) rfl rfl ?_
        refine Rv rfl rfl rfl (U_lss rfl rfl) rfl rfl ?_
        refine Re rfl ?_
        refine thenQ_n ?_
        refine WcondP rfl rfl (fun hc3 => ?_) (fun hc3 => ?_)
        · refine W_reg rfl ?_
          refine Rv rfl rfl rfl (U_move rfl) rfl rfl ?_
          refine Rv rfl rfl rfl (U_move rfl) rfl rfl ?_
          refine Rv rfl rfl rfl (U_fieldAddrR rfl) rfl rfl ?_
          refine Rv rfl rfl rfl (U_load1 rfl rfl rfl) rfl rfl ?_
          refine Rv rfl rfl rfl (U_add rfl rfl (w64e (m := ((i + H : Nat) : Int)) (by omega) (by omega) (by omega))) rfl rfl ?_
          refine Rv rfl rfl rfl (U_buildSliceF (by rfl) (by decide) rfl rfl rfl) rfl rfl ?_
          refine Ra rfl rfl rfl (U_appO (b := 1) (m := 0) (cs' := (([z * H + (h + H - 1) % H] ++ [i - H]) ++ [i + H]).map n64) (n' := (([z * H + (h + H - 1) % H] ++ [i - H]) ++ [i + H]).length) rfl rfl (by simp) rfl (map_len1 _) rfl rfl (by simp) (appM _ _) (len1 _ _)) rfl rfl rfl ?_
          refine Rv rfl rfl rfl (U_assign rfl) rfl rfl ?_
          refine Re rfl ?_
          refine thenQ_n ?_
          refine W_seq rfl ?_
          refine W_reg rfl ?_
          refine Rv rfl rfl rfl (U_move rfl) rfl rfl ?_
          refine Rv rfl rfl rfl (U_assign rfl) rfl rfl ?_
          refine Re rfl ?_
          refine thenQ_n ?_
          refine WfrO 2 ((([z * H + (h + H - 1) % H] ++ [i - H]) ++ [i + H]).map n64) rfl (mapD (fun _ => rfl) _) (T' := [(4, .ros ((([z * H + (h + H - 1) % H] ++ [i - H]) ++ [i + H]).map n64) ((([z * H + (h + H - 1) % H] ++ [i - H]) ++ [i + H]).length) none)]) (H' := []) ⟨fO rfl, trivial⟩ trivial ?_
          refine W_ret rfl ?_
          exact retL (rlT rfl rl0) (by first | rfl | (simp only [packA]; rw [bsN_eq, hzq, hhq]; (repeat' split) <;> first | rfl | omega; first | done | rfl)) rfl
        · refine W_skip rfl ?_
          refine thenQ_n ?_
          refine W_seq rfl ?_
          refine W_reg rfl ?_
          refine Rv rfl rfl rfl (U_move rfl) rfl rfl ?_
          refine Rv rfl rfl rfl (U_assign rfl) rfl rfl ?_
          refine Re rfl ?_
          refine thenQ_n ?_
          refine WfrO 1 (([z * H + (h + H - 1) % H] ++ [i - H]).map n64) rfl (mapD (fun _ => rfl) _) (T' := [(4, .ros (([z * H + (h + H - 1) % H] ++ [i - H]).map n64) (([z * H + (h + H - 1) % H] ++ [i - H]).length) none)]) (H' := []) ⟨fO rfl, trivial⟩ trivial ?_
          refine W_ret rfl ?_
          exact retL (rlT rfl rl0) (by first | rfl | (simp only [packA]; rw [bsN_eq, hzq, hhq]; (repeat' split) <;> first | rfl | omega; first | done | rfl)) rfl
      · refine W_skip rfl ?_
        refine thenQ_n ?_
        refine W_seq rfl ?_
        refine W_seq rfl ?_
        refine W_reg rfl ?_
        refine Rv rfl rfl rfl (U_move rfl) rfl rfl ?_
        refine Rv rfl rfl rfl (U_add rfl rfl (w64e (m := ((z + 1 : Nat) : Int)) (by omega) (by omega) (by omega))) rfl rfl ?_
        refine Rv rfl rfl rfl (U_fieldAddrR rfl) rfl rfl ?_
        refine Rv rfl rfl rfl (U_load1 rfl rfl rfl) rfl rfl ?_
        refine Rv rfl rfl rfl (U_lss rfl rfl) rfl rfl ?_
        refine Re rfl ?_
        refine thenQ_n ?_
        refine WcondP rfl rfl (fun hc3 => ?_) (fun hc3 => ?_)
        · refine W_reg rfl ?_
          refine Rv rfl rfl rfl (U_move rfl) rfl rfl ?_
          refine Rv rfl rfl rfl (U_move rfl) rfl rfl ?_
          refine Rv rfl rfl rfl (U_fieldAddrR rfl) rfl rfl ?_
          refine Rv rfl rfl rfl (U_load1 rfl rfl rfl) rfl rfl ?_
          refine Rv rfl rfl rfl (U_add rfl rfl (w64e (m := ((i + H : Nat) : Int)) (by omega) (by omega) (by omega))) rfl rfl ?_
          refine Rv rfl rfl rfl (U_buildSliceF (by rfl) (by decide) rfl rfl rfl) rfl rfl ?_
          refine Ra rfl rfl rfl (U_appO (b := 0) (m := 0) (cs' := ([z * H + (h + H - 1) % H] ++ [i + H]).map n64) (n' := ([z * H + (h + H - 1) % H] ++ [i + H]).length) rfl rfl (by simp) rfl (map_len1 _) rfl rfl (by simp) (appM _ _) (len1 _ _)) rfl rfl rfl ?_
          refine Rv rfl rfl rfl (U_assign rfl) rfl rfl ?_
          refine Re rfl ?_
          refine thenQ_n ?_
          refine W_seq rfl ?_
          refine W_reg rfl ?_
          refine Rv rfl rfl rfl (U_move rfl) rfl rfl ?_
          refine Rv rfl rfl rfl (U_assign rfl) rfl rfl ?_
          refine Re rfl ?_
          refine thenQ_n ?_
          refine WfrO 1 (([z * H + (h + H - 1) % H] ++ [i + H]).map n64) rfl (mapD (fun _ => rfl) _) (T' := [(4, .ros (([z * H + (h + H - 1) % H] ++ [i + H]).map n64) (([z * H + (h + H - 1) % H] ++ [i + H]).length) none)]) (H' := []) ⟨fO rfl, trivial⟩ trivial ?_
          refine W_ret rfl ?_
          exact retL (rlT rfl rl0) (by first | rfl | (simp only [packA]; rw [bsN_eq, hzq, hhq]; (repeat' split) <;> first | rfl | omega; first | done | rfl)) rfl
        · refine W_skip rfl ?_
          refine thenQ_n ?_
          refine W_seq rfl ?_
          refine W_reg rfl ?_
          refine Rv rfl rfl rfl (U_move rfl) rfl rfl ?_
          refine Rv rfl rfl rfl (U_assign rfl) rfl rfl ?_
          refine Re rfl ?_
          refine thenQ_n ?_
          refine WfrO 0 ([z * H + (h + H - 1) % H].map n64) rfl (mapD (fun _ => rfl) _) (T' := [(4, .ros ([z * H + (h + H - 1) % H].map n64) ([z * H + (h + H - 1) % H].length) none)]) (H' := []) ⟨fO rfl, trivial⟩ trivial ?_
          refine W_ret rfl ?_
          exact retL (rlT rfl rl0) (by first | rfl | (simp only [packA]; rw [bsN_eq, hzq, hhq]; (repeat' split) <;> first | rfl | omega; first | done | rfl)) rfl
    · refine W_skip rfl ?_
      refine thenQ_n ?_
      refine W_seq rfl ?_
      refine W_seq rfl ?_
      refine W_reg rfl ?_
      refine Rv rfl rfl rfl (U_move rfl) rfl rfl ?_
      refine Rv rfl rfl rfl (U_gtr rfl rfl) rfl rfl ?_
      refine Re rfl ?_
      refine thenQ_n ?_
      refine WcondP rfl rfl (fun hc2 => ?_) (fun hc2 => ?_)
      · refine W_reg rfl ?_
        refine Rv rfl rfl rfl (U_move rfl) rfl rfl ?_
        refine Rv rfl rfl rfl (U_move rfl) rfl rfl ?_
        refine Rv rfl rfl rfl (U_fieldAddrR rfl) rfl rfl ?_
        refine Rv rfl rfl rfl (U_load1 rfl rfl rfl) rfl rfl ?_
        refine Rv rfl rfl rfl (U_sub rfl rfl (w64e (m := ((i - H : Nat) : Int)) (by omega) (by omega) (by omega))) rfl rfl ?_
        refine Rv rfl rfl rfl (U_buildSliceF (by rfl) (by decide) rfl rfl rfl) rfl rfl ?_
        refine Ra rfl rfl rfl (U_appN (m := 0) (cs' := [i - H].map n64) (n' := [i - H].length) rfl rfl rfl (by omega) rfl rfl) rfl rfl rfl ?_
        refine Rv rfl rfl rfl (U_assign rfl) rfl rfl ?_
        refine Re rfl ?_
        refine thenQ_n ?_
        refine W_seq rfl ?_
        refine W_seq rfl ?_
        refine W_reg rfl ?_
        refine Rv rfl rfl rfl (U_move rfl) rfl rfl ?_
        refine Rv rfl rfl rfl (U_add rfl rfl (w64e (m := ((z + 1 : Nat) : Int)) (by omega) (by omega) (by omega))) rfl rfl ?_
        refine Rv rfl rfl rfl (U_fieldAddrR rfl) rfl rfl ?_
        refine Rv rfl rfl rfl (U_load1 rfl rfl rfl) rfl rfl ?_
        refine Rv rfl rfl rfl (U_lss rfl rfl) rfl rfl ?_
        refine Re rfl ?_
        refine thenQ_n ?_
        refine WcondP rfl rfl (fun hc3 => ?_) (fun hc3 => ?_)
        · refine W_reg rfl ?_
          refine Rv rfl rfl rfl (U_move rfl) rfl rfl ?_
          refine Rv rfl rfl rfl (U_move rfl) rfl rfl ?_
          refine Rv rfl rfl rfl (U_fieldAddrR rfl) rfl rfl ?_
          refine Rv rfl rfl rfl (U_load1 rfl rfl rfl) rfl rfl ?_
          refine Rv rfl rfl rfl (U_add rfl rfl (w64e (m := ((i + H : Nat) : Int)) (by omega) (by omega) (by omega))) rfl rfl ?_
          refine Rv rfl rfl rfl (U_buildSliceF (by rfl) (by decide) rfl rfl rfl) rfl rfl ?_
          refine Ra rfl rfl rfl (U_appO (b := 0) (m := 0) (cs' := ([i - H] ++ [i + H]).map n64) (n' := ([i - H] ++ [i + H]).length) rfl rfl (by simp) rfl (map_len1 _) rfl rfl (by simp) (appM _ _) (len1 _ _)) rfl rfl rfl ?_
          refine Rv rfl rfl rfl (U_assign rfl) rfl rfl ?_
          refine Re rfl ?_
          refine thenQ_n ?_
          refine W_seq rfl ?_
          refine W_reg rfl ?_
          refine Rv rfl rfl rfl (U_move rfl) rfl rfl ?_
          refine Rv rfl rfl rfl (U_assign rfl) rfl rfl ?_
          refine Re rfl ?_
          refine thenQ_n ?_
          refine WfrO 1 (([i - H] ++ [i + H]).map n64) rfl (mapD (fun _ => rfl) _) (T' := [(4, .ros (([i - H] ++ [i + H]).map n64) (([i - H] ++ [i + H]).length) none)]) (H' := []) ⟨fO rfl, trivial⟩ trivial ?_
          refine W_ret rfl ?_
          exact retL (rlT rfl rl0) (by first | rfl | (simp only [packA]; rw [bsN_eq, hzq, hhq]; (repeat' split) <;> first | rfl | omega; first | done | rfl)) rfl
        · refine W_skip rfl ?_
          refine thenQ_n ?_
          refine W_seq rfl ?_
          refine W_reg rfl ?_
          refine Rv rfl rfl rfl (U_move rfl) rfl rfl ?_
          refine Rv rfl rfl rfl (U_assign rfl) rfl rfl ?_
          refine Re rfl ?_
          refine thenQ_n ?_
          refine WfrO 0 ([i - H].map n64) rfl (mapD (fun _ => rfl) _) (T' := [(4, .ros ([i - H].map n64) ([i - H].length) none)]) (H' := []) ⟨fO rfl, trivial⟩ trivial ?_
          refine W_ret rfl ?_
          exact retL (rlT rfl rl0) (by first | rfl | (simp only [packA]; rw [bsN_eq, hzq, hhq]; (repeat' split) <;> first | rfl | omega; first | done | rfl)) rfl
      · refine W_skip rfl ?_
        refine thenQ_n ?_
        refine W_seq rfl ?_
        refine W_seq rfl ?_
        refine W_reg rfl ?_
        refine Rv rfl rfl rfl (U_move rfl) rfl rfl ?_
        refine Rv rfl rfl rfl (U_add rfl rfl (w64e (m := ((z + 1 : Nat) : Int)) (by omega) (by omega) (by omega))) rfl rfl ?_
        refine Rv rfl rfl rfl (U_fieldAddrR rfl) rfl rfl ?_
        refine Rv rfl rfl rfl (U_load1 rfl rfl rfl) rfl rfl ?_
        refine Rv rfl rfl rfl (U_lss rfl rfl) rfl rfl ?_
        refine Re rfl ?_
        refine thenQ_n ?_
        refine WcondP rfl rfl (fun hc3 => ?_) (fun hc3 => ?_)
        · refine W_reg rfl ?_
          refine Rv rfl rfl rfl (U_move rfl) rfl rfl ?_
          refine Rv rfl rfl rfl (U_move rfl) rfl rfl ?_
          refine Rv rfl rfl rfl (U_fieldAddrR rfl) rfl rfl ?_
          refine Rv rfl rfl rfl (U_load1 rfl rfl rfl) rfl rfl ?_
          refine Rv rfl rfl rfl (U_add rfl rfl (w64e (m := ((i + H : Nat) : Int)) (by omega) (by omega) (by omega))) rfl rfl ?_
          refine Rv rfl rfl rfl (U_buildSliceF (by rfl) (by decide) rfl rfl rfl) rfl rfl ?_
          refine Ra rfl rfl rfl (U_appN (m := 0) (cs' := [i + H].map n64) (n' := [i + H].length) rfl rfl rfl (by omega) rfl rfl) rfl rfl rfl ?_
          refine Rv rfl rfl rfl (U_assign rfl) rfl rfl ?_
          refine Re rfl ?_
          refine thenQ_n ?_
          refine W_seq rfl ?_
          refine W_reg rfl ?_
          refine Rv rfl rfl rfl (U_move rfl) rfl rfl ?_
          refine Rv rfl rfl rfl (U_assign rfl) rfl rfl ?_
          refine Re rfl ?_
          refine thenQ_n ?_
          refine WfrO 0 ([i + H].map n64) rfl (mapD (fun _ => rfl) _) (T' := [(4, .ros ([i + H].map n64) ([i + H].length) none)]) (H' := []) ⟨fO rfl, trivial⟩ trivial ?_
          refine W_ret rfl ?_
          exact retL (rlT rfl rl0) (by first | rfl | (simp only [packA]; rw [bsN_eq, hzq, hhq]; (repeat' split) <;> first | rfl | omega; first | done | rfl)) rfl
        · refine W_skip rfl ?_
          refine thenQ_n ?_
          refine W_seq rfl ?_
          refine W_reg rfl ?_
          refine Rv rfl rfl rfl (U_move rfl) rfl rfl ?_
          refine Rv rfl rfl rfl (U_assign rfl) rfl rfl ?_
          refine Re rfl ?_
          refine thenQ_n ?_
          refine WweakT (j := 4) rfl (le_nils (cs := [])) ?_
          refine W_ret rfl ?_
          exact retL (rlT rfl rl0) (by first | rfl | (simp only [packA]; rw [bsN_eq, hzq, hhq]; (repeat' split) <;> first | rfl | omega; first | done | rfl)) rfl
theorem nbN {Z H i : Nat} {l : List Bx} (hi : i < Z * H) : ((bsN Z H i).map fun j => (fldQ Z H l).getD j 0).sum = nbQ Z H l (i / H) (i % H) := by
  unfold nbQ bsN
  rw [List.map_map]
  congr 1
  refine List.map_congr_left fun p hp => ?_
  have hH : 0 < H := by rcases Nat.eq_zero_or_pos H with e | e; subst e; omega; exact e
  have h1 := bsP_in (Nat.div_lt_of_lt_mul (by rw [Nat.mul_comm]; exact hi)) (Nat.mod_lt i hH) p hp
  have h2 := zh_lt h1.1 h1.2
  have h3 := zh_div (z := p.1) h1.2
  have h4 : p.1 * H + p.2 < (fldQ Z H l).length := by rw [fldQ_len]; exact h2
  simp only [Function.comp]
  rw [List.getD_eq_getElem?_getD, List.getElem?_eq_getElem h4, Option.getD_some, fldQ_get h4, h3.1, h3.2]
theorem brK_step {Z H i : Nat} {la lb : List Bx} (hi : i < Z * H) : brK Z H la lb (i + 1) = brK Z H la lb i + (fldQ Z H la).getD i 0 * ((bsN Z H i).map fun j => (fldQ Z H lb).getD j 0).sum := by
  have h1 : i < (plcQ Z H).length := by rw [plcQ_len]; exact hi
  have h4 : i < (fldQ Z H la).length := by rw [fldQ_len]; exact hi
  rw [nbN hi, brK, sum_snoc h1, plcQ_at h1, List.getD_eq_getElem?_getD, List.getElem?_eq_getElem h4, Option.getD_some, fldQ_get h4]; rfl
theorem getD_at {l : List Nat} {i : Nat} (h : i < l.length) : l.getD i 0 = l[i] := by rw [List.getD_eq_getElem?_getD, List.getElem?_eq_getElem h]; rfl
theorem borderR_p (H Z : Nat) (ls : List (List Bx)) (c : Option Nat) (hv : VS ⟨H, Z, ls⟩ H Z) (a b : Nat) (ha : a < ls.length) (hb : b < ls.length) : Pure Try.prog 81 [.agg [i64 (H : Nat), i64 (Z : Nat), landsA ls c], i64 (a : Nat), i64 (b : Nat)] (i64 ((brQ Z H ls[a] ls[b] : Nat) : Int)) := by
  have hv' := hv
  obtain ⟨_, _, hH, hZ1, hln, hlb, hbx⟩ := hv'
  simp only at hln hlb hbx
  have hZ := hZ1.2
  have hHZ : Z * H ≤ 1152 := Nat.mul_le_mul hZ hH.2
  have hHZc : H * Z = Z * H := Nat.mul_comm _ _
  have hfal : (fldQ Z H ls[a]).length = Z * H := fldQ_len
  have hfbl : (fldQ Z H ls[b]).length = Z * H := fldQ_len
  refine pure_of_body Try.func81 (c := body Try.f81) rfl (by simp [Try.ntmps81]) fun w0 Φ0 => ?_
  refine W_seq rfl ?_
  refine W_reg rfl ?_
  refine Rv rfl rfl rfl (U_boxF rfl rfl rfl) rfl rfl ?_
  refine Rv rfl rfl rfl (U_assign rfl) rfl rfl ?_
  refine Re rfl ?_
  refine thenQ_n ?_
  refine W_seq rfl ?_
  refine Wdraw rfl (by kernel_rfl) (by kernel_rfl) ?_
  refine Dv rfl rfl rfl (U_load3 rfl rfl rfl rfl rfl) rfl rfl ?_
  refine Dv rfl rfl rfl (U_move rfl) rfl rfl ?_
  refine Dv rfl rfl rfl (U_call rfl rfl (field_p H Z ls c hv a (by omega)) rfl) rfl rfl ?_
  refine Dv rfl rfl rfl (U_load3 rfl rfl rfl rfl rfl) rfl rfl ?_
  refine Dv rfl rfl rfl (U_move rfl) rfl rfl ?_
  refine Dv rfl rfl rfl (U_call rfl rfl (field_p H Z ls c hv b (by omega)) rfl) rfl rfl ?_
  refine Dv rfl rfl rfl (U_assign rfl) rfl rfl ?_
  refine Dv rfl rfl rfl (U_assign rfl) rfl rfl ?_
  refine Dr.nil rfl ?_
  refine thenQ_n ?_
  refine W_seq rfl ?_
  refine W_reg rfl ?_
  refine Rv rfl rfl rfl (U_assign rfl) rfl rfl ?_
  refine Re rfl ?_
  refine thenQ_n ?_
  refine W_seq rfl ?_
  refine W_seq rfl ?_
  refine W_reg rfl ?_
  refine Rv rfl rfl rfl (U_assign rfl) rfl rfl ?_
  refine Re rfl ?_
  refine thenQ_n ?_
  refine W_block rfl ?_
  refine LoopTo (T' := [(3, .rop [i64 ((H : Nat) : Int), i64 ((Z : Nat) : Int), .ros (ls.map boxesL) ls.length c] 0), (7, .ros ((fldQ Z H ls[a]).map n64) (H * Z) (some (H * Z))), (8, .ros ((fldQ Z H ls[b]).map n64) (H * Z) (some (H * Z))), (9, i64 ((0 : Nat) : Int)), (10, i64 ((0 : Nat) : Int))]) (H' := []) (n := 0) rfl (fun mz_ qz_ => ∃ (i : Nat) (n : Nat), i ≤ H * Z ∧ n = brK Z H ls[a] ls[b] i ∧ mz_ = H * Z - i ∧ qz_ = ⟨[(3, .rop [i64 ((H : Nat) : Int), i64 ((Z : Nat) : Int), .ros (ls.map boxesL) ls.length c] 0), (7, .ros ((fldQ Z H ls[a]).map n64) (H * Z) (some (H * Z))), (8, .ros ((fldQ Z H ls[b]).map n64) (H * Z) (some (H * Z))), (9, i64 ((n : Nat) : Int)), (10, i64 ((i : Nat) : Int))], [], 0, []⟩) ⟨0, 0, (by omega), rfl, rfl, rfl⟩ id ⟨eD rfl rfl, eD rfl rfl, eD rfl rfl, eD rfl rfl, eD rfl rfl, trivial⟩ trivial rfl rfl rfl rfl (fun _ _ => rfl) ?_
  rintro _ _ ⟨i, n, hi0_0, hi0_1, rfl, rfl⟩
  have hbk := brK_le (Z := Z) (H := H) (la := ls[a]) (lb := ls[b]) (i := i)
  refine W_seq rfl ?_
  refine W_seq rfl ?_
  refine W_reg rfl ?_
  refine Rv rfl rfl rfl (U_move rfl) rfl rfl ?_
  refine Rv rfl rfl rfl (U_move rfl) rfl rfl ?_
  refine Rv rfl rfl rfl (U_lenOf rfl len_ros) rfl rfl ?_
  refine Rv rfl rfl rfl (U_lss rfl rfl) rfl rfl ?_
  refine Re rfl ?_
  refine thenQ_n ?_
  refine WcondP rfl rfl (fun hc0 => ?_) (fun hc0 => ?_)
  · have hci : i < Z * H := by omega
    have hbs := bsN_len (Z := Z) (H := H) (i := i)
    have hfa := fldQ_le (Z := Z) (H := H) (l := ls[a]) (i := i) (by omega)
    refine W_skip rfl ?_
    refine thenQ_n ?_
    refine W_seq rfl ?_
    refine W_block rfl ?_
    refine W_seq rfl ?_
    refine W_reg rfl ?_
    refine Rv rfl rfl rfl (U_load3 rfl rfl rfl rfl rfl) rfl rfl ?_
    refine Rv rfl rfl rfl (U_move rfl) rfl rfl ?_
    refine Rv rfl rfl rfl (U_call rfl rfl (besideR_p H Z ls c hv i (by omega)) rfl) rfl rfl ?_
    refine Rv rfl rfl rfl (U_assign rfl) rfl rfl ?_
    refine Re rfl ?_
    refine thenQ_n ?_
    refine W_seq rfl ?_
    refine W_reg rfl ?_
    refine Rv rfl rfl rfl (U_assign rfl) rfl rfl ?_
    refine Re rfl ?_
    refine thenQ_n ?_
    refine W_block rfl ?_
    refine LoopTo (T' := [(3, .rop [i64 ((H : Nat) : Int), i64 ((Z : Nat) : Int), .ros (ls.map boxesL) ls.length c] 0), (7, .ros ((fldQ Z H ls[a]).map n64) (H * Z) (some (H * Z))), (8, .ros ((fldQ Z H ls[b]).map n64) (H * Z) (some (H * Z))), (9, i64 ((n : Nat) : Int)), (10, i64 ((i : Nat) : Int)), (11, .ros ((bsN Z H i).map n64) ((bsN Z H i).length) none), (12, i64 ((0 : Nat) : Int))]) (H' := []) (n := 0) rfl (fun mz_ qz_ => ∃ (k : Nat) (m : Nat), k ≤ (bsN Z H i).length ∧ (m = n + (fldQ Z H ls[a]).getD i 0 * (((bsN Z H i).take k).map fun j => (fldQ Z H ls[b]).getD j 0).sum) ∧ m ≤ n + k ∧ mz_ = (bsN Z H i).length - k ∧ qz_ = ⟨[(3, .rop [i64 ((H : Nat) : Int), i64 ((Z : Nat) : Int), .ros (ls.map boxesL) ls.length c] 0), (7, .ros ((fldQ Z H ls[a]).map n64) (H * Z) (some (H * Z))), (8, .ros ((fldQ Z H ls[b]).map n64) (H * Z) (some (H * Z))), (9, i64 ((m : Nat) : Int)), (10, i64 ((i : Nat) : Int)), (11, .ros ((bsN Z H i).map n64) ((bsN Z H i).length) none), (12, i64 ((k : Nat) : Int))], [], 0, []⟩) ⟨0, n, (by omega), (by simp), (by omega), rfl, rfl⟩ id ⟨eD rfl rfl, eD rfl rfl, eD rfl rfl, eD rfl rfl, eD rfl rfl, eD rfl rfl, eD rfl rfl, trivial⟩ trivial rfl rfl rfl rfl (fun _ _ => rfl) ?_
    rintro _ _ ⟨k, m, hi1_0, hi1_1, hi1_2, rfl, rfl⟩
    refine W_seq rfl ?_
    refine W_seq rfl ?_
    refine W_reg rfl ?_
    refine Rv rfl rfl rfl (U_move rfl) rfl rfl ?_
    refine Rv rfl rfl rfl (U_move rfl) rfl rfl ?_
    refine Rv rfl rfl rfl (U_lenOf rfl len_ros) rfl rfl ?_
    refine Rv rfl rfl rfl (U_lss rfl rfl) rfl rfl ?_
    refine Re rfl ?_
    refine thenQ_n ?_
    refine WcondP rfl rfl (fun hc1 => ?_) (fun hc1 => ?_)
    · have hck : k < (bsN Z H i).length := by omega
      have hbj := bsN_lt hci _ (List.getElem_mem hck)
      have hfb := fldQ_le (Z := Z) (H := H) (l := ls[b]) (i := (bsN Z H i)[k]) (by rw [fldQ_len]; exact hbj)
      have hfab := Nat.mul_le_mul hfa hfb
      refine W_skip rfl ?_
      refine thenQ_n ?_
      refine W_seq rfl ?_
      refine W_block rfl ?_
      refine Wdraw rfl (by kernel_rfl) (by kernel_rfl) ?_
      refine Dv rfl rfl rfl (U_move rfl) rfl rfl ?_
      refine Dv rfl rfl rfl (U_move rfl) rfl rfl ?_
      refine Dv rfl rfl rfl (U_move rfl) rfl rfl ?_
      have hx1 : i < (fldQ Z H ls[a]).length := by omega
      refine Dv rfl rfl rfl (U_indexR (j := i) rfl rfl rfl (by omega)) rfl rfl ?_
      refine Dv rfl rfl rfl (U_load1 rfl rfl (getM hx1)) rfl rfl ?_
      refine Dv rfl rfl rfl (U_move rfl) rfl rfl ?_
      refine Dv rfl rfl rfl (U_move rfl) rfl rfl ?_
      refine Dv rfl rfl rfl (U_move rfl) rfl rfl ?_
      have hx2 : k < (bsN Z H i).length := by omega
      refine Dv rfl rfl rfl (U_indexR (j := k) rfl rfl rfl hx2) rfl rfl ?_
      refine Dv rfl rfl rfl (U_load1 rfl rfl (getM hx2)) rfl rfl ?_
      have hx3 : ((bsN Z H i)[k]) < (fldQ Z H ls[b]).length := by rw [fldQ_len]; exact hbj
      refine Dv rfl rfl rfl (U_indexR (j := ((bsN Z H i)[k])) rfl rfl rfl (by omega)) rfl rfl ?_
      refine Dv rfl rfl rfl (U_load1 rfl rfl (getM hx3)) rfl rfl ?_
      refine Dv rfl rfl rfl (U_mul rfl rfl (w64e (m := (((fldQ Z H ls[a])[i] * (fldQ Z H ls[b])[(bsN Z H i)[k]] : Nat) : Int)) (by omega) (by omega) (by omega))) rfl rfl ?_
      refine Dv rfl rfl rfl (U_add rfl rfl (w64e (m := ((m + (fldQ Z H ls[a])[i] * (fldQ Z H ls[b])[(bsN Z H i)[k]] : Nat) : Int)) (by omega) (by omega) (by omega))) rfl rfl ?_
      refine Dv rfl rfl rfl (U_assign rfl) rfl rfl ?_
      refine Dr.nil rfl ?_
      refine blkQ_n ?_
      refine thenQ_n ?_
      refine W_reg rfl ?_
      refine Rv rfl rfl rfl (U_move rfl) rfl rfl ?_
      refine Rv rfl rfl rfl (U_add rfl rfl (w64e (m := ((k + 1 : Nat) : Int)) (by omega) (by omega) (by omega))) rfl rfl ?_
      refine Rv rfl rfl rfl (U_assign rfl) rfl rfl ?_
      refine Re rfl ?_
      refine thenQ_n ?_
      exact againTo (T' := [(3, .rop [i64 ((H : Nat) : Int), i64 ((Z : Nat) : Int), .ros (ls.map boxesL) ls.length c] 0), (7, .ros ((fldQ Z H ls[a]).map n64) (H * Z) (some (H * Z))), (8, .ros ((fldQ Z H ls[b]).map n64) (H * Z) (some (H * Z))), (9, i64 (((m + (fldQ Z H ls[a])[i] * (fldQ Z H ls[b])[(bsN Z H i)[k]]) : Nat) : Int)), (10, i64 ((i : Nat) : Int)), (11, .ros ((bsN Z H i).map n64) ((bsN Z H i).length) none), (12, i64 (((k + 1) : Nat) : Int))]) (H' := []) (n := 0) ((bsN Z H i).length - (k + 1)) ⟨k + 1, m + (fldQ Z H ls[a])[i] * (fldQ Z H ls[b])[(bsN Z H i)[k]], (by omega), (by rw [sum_snoc hck, Nat.mul_add, ← Nat.add_assoc, ← hi1_1, getD_at (by omega), getD_at (i := (bsN Z H i)[k]) (by rw [fldQ_len]; exact hbj)]), (by omega), rfl, rfl⟩ (by omega) id ⟨eD rfl rfl, eD rfl rfl, eD rfl rfl, eD rfl rfl, eD rfl rfl, eD rfl rfl, eD rfl rfl, trivial⟩ trivial rfl rfl rfl rfl (fun _ _ => rfl)
    · have hend : m = n + (fldQ Z H ls[a]).getD i 0 * ((bsN Z H i).map fun j => (fldQ Z H ls[b]).getD j 0).sum := by rw [hi1_1, List.take_of_length_le (by omega)]
      refine W_exit rfl ?_
      refine thenQ_x ?_
      refine thenQ_x ?_
      refine blkQ_x rfl ?_
      refine blkQ_n ?_
      refine thenQ_n ?_
      refine W_reg rfl ?_
      refine Rv rfl rfl rfl (U_move rfl) rfl rfl ?_
      refine Rv rfl rfl rfl (U_add rfl rfl (w64e (m := ((i + 1 : Nat) : Int)) (by omega) (by omega) (by omega))) rfl rfl ?_
      refine Rv rfl rfl rfl (U_assign rfl) rfl rfl ?_
      refine Re rfl ?_
      refine thenQ_n ?_
      exact againTo (T' := [(3, .rop [i64 ((H : Nat) : Int), i64 ((Z : Nat) : Int), .ros (ls.map boxesL) ls.length c] 0), (7, .ros ((fldQ Z H ls[a]).map n64) (H * Z) (some (H * Z))), (8, .ros ((fldQ Z H ls[b]).map n64) (H * Z) (some (H * Z))), (9, i64 ((m : Nat) : Int)), (10, i64 (((i + 1) : Nat) : Int))]) (H' := []) (n := 0) (H * Z - (i + 1)) ⟨i + 1, m, (by omega), (by rw [brK_step hci, ← hi0_1, hend]), rfl, rfl⟩ (by omega) id ⟨eD rfl rfl, eD rfl rfl, eD rfl rfl, eD rfl rfl, eD rfl rfl, trivial⟩ trivial rfl rfl rfl rfl (fun _ _ => rfl)
  · refine W_exit rfl ?_
    refine thenQ_x ?_
    refine thenQ_x ?_
    refine blkQ_x rfl ?_
    refine thenQ_n ?_
    refine W_seq rfl ?_
    refine W_reg rfl ?_
    refine Rv rfl rfl rfl (U_move rfl) rfl rfl ?_
    refine Rv rfl rfl rfl (U_assign rfl) rfl rfl ?_
    refine Re rfl ?_
    refine thenQ_n ?_
    refine W_ret rfl ?_
    exact retL (rlT rfl rl0) (by first | rfl | (simp only [packA]; rw [hi0_1, ← brK_all, plcQ_len, show i = Z * H by omega]; first | done | rfl)) rfl
theorem met_fld {Z H : Nat} {la lb : List Bx} {i : Nat} (hi : i < Z * H) (h1 : (fldQ Z H la).getD i 0 = 1) (h2 : (fldQ Z H lb).getD i 0 = 1) : metQ Z H la lb = true := by
  have hH : 0 < H := by rcases Nat.eq_zero_or_pos H with e | e; subst e; omega; exact e
  have hA : i < (fldQ Z H la).length := by rw [fldQ_len]; exact hi
  have hB : i < (fldQ Z H lb).length := by rw [fldQ_len]; exact hi
  rw [getD_at hA, fldQ_get hA, bitQ] at h1
  rw [getD_at hB, fldQ_get hB, bitQ] at h2
  refine met_true (Nat.div_lt_of_lt_mul (by rw [Nat.mul_comm]; exact hi)) (Nat.mod_lt i hH) ?_ ?_
  · exact Decidable.byContradiction fun h => by rw [if_neg h] at h1; cases h1
  · exact Decidable.byContradiction fun h => by rw [if_neg h] at h2; cases h2
theorem met_no {Z H : Nat} {la lb : List Bx} (h : ∀ i, i < Z * H → ¬ ((fldQ Z H la).getD i 0 = 1 ∧ (fldQ Z H lb).getD i 0 = 1)) : metQ Z H la lb = false := by
  refine met_false fun z x hz hx h2 => h (z * H + x) (zh_lt hz hx) ?_
  have hd := zh_div (z := z) hx
  have hA : z * H + x < (fldQ Z H la).length := by rw [fldQ_len]; exact zh_lt hz hx
  have hB : z * H + x < (fldQ Z H lb).length := by rw [fldQ_len]; exact zh_lt hz hx
  rw [getD_at hA, fldQ_get hA, getD_at hB, fldQ_get hB, hd.1, hd.2, bitQ, bitQ, if_pos h2.1, if_pos h2.2]
  exact ⟨rfl, rfl⟩
theorem meet_p (H Z : Nat) (ls : List (List Bx)) (c : Option Nat) (hv : VS ⟨H, Z, ls⟩ H Z) (a b : Nat) (ha : a < ls.length) (hb : b < ls.length) : Pure Try.prog 56 [.agg [i64 (H : Nat), i64 (Z : Nat), landsA ls c], i64 (a : Nat), i64 (b : Nat)] (.bool (metQ Z H ls[a] ls[b])) := by
  have hv' := hv
  obtain ⟨_, _, hH, hZ1, hln, hlb, hbx⟩ := hv'
  simp only at hln hlb hbx
  have hZ := hZ1.2
  have hHZ : Z * H ≤ 1152 := Nat.mul_le_mul hZ hH.2
  have hHZc : H * Z = Z * H := Nat.mul_comm _ _
  have hfal : (fldQ Z H ls[a]).length = Z * H := fldQ_len
  have hfbl : (fldQ Z H ls[b]).length = Z * H := fldQ_len
  refine pure_of_body Try.func56 (c := body Try.f56) rfl (by simp [Try.ntmps56]) fun w0 Φ0 => ?_
  refine W_seq rfl ?_
  refine W_reg rfl ?_
  refine Rv rfl rfl rfl (U_boxF rfl rfl rfl) rfl rfl ?_
  refine Rv rfl rfl rfl (U_assign rfl) rfl rfl ?_
  refine Re rfl ?_
  refine thenQ_n ?_
  refine W_seq rfl ?_
  refine Wdraw rfl (by kernel_rfl) (by kernel_rfl) ?_
  refine Dv rfl rfl rfl (U_load3 rfl rfl rfl rfl rfl) rfl rfl ?_
  refine Dv rfl rfl rfl (U_move rfl) rfl rfl ?_
  refine Dv rfl rfl rfl (U_call rfl rfl (field_p H Z ls c hv a (by omega)) rfl) rfl rfl ?_
  refine Dv rfl rfl rfl (U_load3 rfl rfl rfl rfl rfl) rfl rfl ?_
  refine Dv rfl rfl rfl (U_move rfl) rfl rfl ?_
  refine Dv rfl rfl rfl (U_call rfl rfl (field_p H Z ls c hv b (by omega)) rfl) rfl rfl ?_
  refine Dv rfl rfl rfl (U_assign rfl) rfl rfl ?_
  refine Dv rfl rfl rfl (U_assign rfl) rfl rfl ?_
  refine Dr.nil rfl ?_
  refine thenQ_n ?_
  refine W_seq rfl ?_
  refine W_seq rfl ?_
  refine W_reg rfl ?_
  refine Rv rfl rfl rfl (U_assign rfl) rfl rfl ?_
  refine Re rfl ?_
  refine thenQ_n ?_
  refine W_block rfl ?_
  refine LoopTo (T' := [(7, .ros ((fldQ Z H ls[a]).map n64) (H * Z) (some (H * Z))), (8, .ros ((fldQ Z H ls[b]).map n64) (H * Z) (some (H * Z))), (9, i64 ((0 : Nat) : Int))]) (H' := []) (n := 0) rfl (fun mz_ qz_ => ∃ (i : Nat), i ≤ H * Z ∧ ((∀ j, j < i → ¬ ((fldQ Z H ls[a]).getD j 0 = 1 ∧ (fldQ Z H ls[b]).getD j 0 = 1))) ∧ mz_ = H * Z - i ∧ qz_ = ⟨[(7, .ros ((fldQ Z H ls[a]).map n64) (H * Z) (some (H * Z))), (8, .ros ((fldQ Z H ls[b]).map n64) (H * Z) (some (H * Z))), (9, i64 ((i : Nat) : Int))], [], 0, []⟩) ⟨0, (by omega), (fun j h => absurd h (Nat.not_lt_zero _)), rfl, rfl⟩ id ⟨eD rfl rfl, eD rfl rfl, eD rfl rfl, trivial⟩ trivial rfl rfl rfl rfl (fun _ _ => rfl) ?_
  rintro _ _ ⟨i, hi0_0, hi0_1, rfl, rfl⟩
  refine W_seq rfl ?_
  refine W_seq rfl ?_
  refine W_reg rfl ?_
  refine Rv rfl rfl rfl (U_move rfl) rfl rfl ?_
  refine Rv rfl rfl rfl (U_move rfl) rfl rfl ?_
  refine Rv rfl rfl rfl (U_lenOf rfl len_ros) rfl rfl ?_
  refine Rv rfl rfl rfl (U_lss rfl rfl) rfl rfl ?_
  refine Re rfl ?_
  refine thenQ_n ?_
  refine WcondP rfl rfl (fun hc0 => ?_) (fun hc0 => ?_)
  · have hci : i < Z * H := by omega
    refine W_skip rfl ?_
    refine thenQ_n ?_
    refine W_seq rfl ?_
    refine W_block rfl ?_
    refine W_seq rfl ?_
    refine Wjoin ⟨[(7, .ros ((fldQ Z H ls[a]).map n64) (H * Z) (some (H * Z))), (8, .ros ((fldQ Z H ls[b]).map n64) (H * Z) (some (H * Z))), (9, i64 ((i : Nat) : Int)), (33, .bool ((decide ((((fldQ Z H ls[a])[i] : Nat) : Int) = 1)) && (decide ((((fldQ Z H ls[b])[i] : Nat) : Int) = 1))))], [], 0, []⟩ ?_ ?_
    · refine W_reg rfl ?_
      refine Rv rfl rfl rfl (U_move rfl) rfl rfl ?_
      refine Rv rfl rfl rfl (U_move rfl) rfl rfl ?_
      have hx1 : i < (fldQ Z H ls[a]).length := by omega
      refine Rv rfl rfl rfl (U_indexR (j := i) rfl rfl rfl (by omega)) rfl rfl ?_
      refine Rv rfl rfl rfl (U_load1 rfl rfl (getM hx1)) rfl rfl ?_
      refine Rv rfl rfl rfl (U_eql rfl rfl) rfl rfl ?_
      refine Rv rfl rfl rfl (U_move rfl) rfl rfl ?_
      refine Rsplit (t := 27) rfl (fun hg2 => ?_) (fun hg2 => ?_)
      · rw [hg2]
        have hg2' : (((fldQ Z H ls[a])[i] : Nat) : Int) = 1 := of_decide_eq_true hg2
        refine Rv rfl rfl rfl (U_move rfl) rfl rfl ?_
        refine Rv rfl rfl rfl (U_move rfl) rfl rfl ?_
        have hx3 : i < (fldQ Z H ls[b]).length := by omega
        refine Rv rfl rfl rfl (U_indexR (j := i) rfl rfl rfl (by omega)) rfl rfl ?_
        refine Rv rfl rfl rfl (U_load1 rfl rfl (getM hx3)) rfl rfl ?_
        refine Rv rfl rfl rfl (U_eql rfl rfl) rfl rfl ?_
        refine Rv rfl rfl rfl (U_pick_t rfl rfl) rfl rfl ?_
        refine Re rfl ?_
        exact joinTo id ⟨eD rfl rfl, eD rfl rfl, eD rfl rfl, eD rfl rfl, trivial⟩ trivial rfl rfl rfl rfl (fun _ _ => rfl)
      · rw [hg2]
        have hg2' : ¬ ((((fldQ Z H ls[a])[i] : Nat) : Int) = 1) := of_decide_eq_false hg2
        refine Rs rfl rfl rfl rfl rfl ?_
        refine Rs rfl rfl rfl rfl rfl ?_
        refine Rs rfl rfl rfl rfl rfl ?_
        refine Rs rfl rfl rfl rfl rfl ?_
        refine Rs rfl rfl rfl rfl rfl ?_
        refine Rv rfl rfl rfl (U_pick_f rfl rfl) rfl rfl ?_
        refine Re rfl ?_
        exact joinTo id ⟨eD rfl rfl, eD rfl rfl, eD rfl rfl, eD rfl rfl, trivial⟩ trivial rfl rfl rfl rfl (fun _ _ => rfl)
    refine thenQ_n ?_
    refine Wcond rfl rfl (fun hc1 => ?_) (fun hc1 => ?_)
    · refine W_seq rfl ?_
      refine W_reg rfl ?_
      refine Rv rfl rfl rfl (U_assign rfl) rfl rfl ?_
      refine Re rfl ?_
      refine thenQ_n ?_
      refine W_ret rfl ?_
      refine blkQ_r ?_
      refine thenQ_r ?_
      refine thenQ_r ?_
      refine blkQ_r ?_
      refine thenQ_r ?_
      exact retL (rlT rfl rl0) (by first | rfl | (simp only [packA]; rw [met_fld hci (by rw [getD_at (by omega)]; simp at hc1; omega) (by rw [getD_at (by omega)]; simp at hc1; omega)]; first | done | rfl) | (simp only [packA]; rw [met_no fun j hj => hi0_1 j (by omega)]; first | done | rfl)) rfl
    · have hc1' := Bool.eq_false_iff.1 hc1
      refine W_skip rfl ?_
      refine blkQ_n ?_
      refine thenQ_n ?_
      refine W_reg rfl ?_
      refine Rv rfl rfl rfl (U_move rfl) rfl rfl ?_
      refine Rv rfl rfl rfl (U_add rfl rfl (w64e (m := ((i + 1 : Nat) : Int)) (by omega) (by omega) (by omega))) rfl rfl ?_
      refine Rv rfl rfl rfl (U_assign rfl) rfl rfl ?_
      refine Re rfl ?_
      refine thenQ_n ?_
      exact againTo (T' := [(7, .ros ((fldQ Z H ls[a]).map n64) (H * Z) (some (H * Z))), (8, .ros ((fldQ Z H ls[b]).map n64) (H * Z) (some (H * Z))), (9, i64 (((i + 1) : Nat) : Int))]) (H' := []) (n := 0) (H * Z - (i + 1)) ⟨i + 1, (by omega), (by intro j h; rcases Nat.lt_succ_iff_lt_or_eq.1 h with h | rfl; exact hi0_1 j h; rw [getD_at (by omega), getD_at (by omega)]; simp at hc1; omega), rfl, rfl⟩ (by omega) id ⟨eD rfl rfl, eD rfl rfl, eD rfl rfl, trivial⟩ trivial rfl rfl rfl rfl (fun _ _ => rfl)
  · refine W_exit rfl ?_
    refine thenQ_x ?_
    refine thenQ_x ?_
    refine blkQ_x rfl ?_
    refine thenQ_n ?_
    refine W_seq rfl ?_
    refine W_reg rfl ?_
    refine Rv rfl rfl rfl (U_assign rfl) rfl rfl ?_
    refine Re rfl ?_
    refine thenQ_n ?_
    refine W_ret rfl ?_
    exact retL (rlT rfl rl0) (by first | rfl | (simp only [packA]; rw [met_fld hci (by rw [getD_at (by omega)]; simp at hc1; omega) (by rw [getD_at (by omega)]; simp at hc1; omega)]; first | done | rfl) | (simp only [packA]; rw [met_no fun j hj => hi0_1 j (by omega)]; first | done | rfl)) rfl
theorem nearR_p (H Z : Nat) (ls : List (List Bx)) (c : Option Nat) (hv : VS ⟨H, Z, ls⟩ H Z) (a b : Nat) (ha : a < ls.length) (hb : b < ls.length) : Pure Try.prog 83 [.agg [i64 (H : Nat), i64 (Z : Nat), landsA ls c], i64 (a : Nat), i64 (b : Nat)] (.bool (nrQ Z H ls[a] ls[b])) := by
  have hv' := hv
  obtain ⟨_, _, hH, hZ1, hln, hlb, hbx⟩ := hv'
  simp only at hln hlb hbx
  have hZ := hZ1.2
  have hHZ : Z * H ≤ 1152 := Nat.mul_le_mul hZ hH.2
  have hHZc : H * Z = Z * H := Nat.mul_comm _ _
  refine pure_of_body Try.func83 (c := body Try.f83) rfl (by simp [Try.ntmps83]) fun w0 Φ0 => ?_
  refine W_seq rfl ?_
  refine W_reg rfl ?_
  refine Rv rfl rfl rfl (U_boxF rfl rfl rfl) rfl rfl ?_
  refine Rv rfl rfl rfl (U_assign rfl) rfl rfl ?_
  refine Re rfl ?_
  refine thenQ_n ?_
  refine W_seq rfl ?_
  refine Wjoin ⟨[(6, .bool ((metQ Z H ls[a] ls[b]) || (decide (0 < ((brQ Z H ls[a] ls[b] : Nat) : Int)))))], [], 0, []⟩ ?_ ?_
  · refine W_reg rfl ?_
    refine Rv rfl rfl rfl (U_load3 rfl rfl rfl rfl rfl) rfl rfl ?_
    refine Rv rfl rfl rfl (U_move rfl) rfl rfl ?_
    refine Rv rfl rfl rfl (U_move rfl) rfl rfl ?_
    refine Rv rfl rfl rfl (U_call rfl rfl (meet_p H Z ls c hv a b (by omega) (by omega)) rfl) rfl rfl ?_
    refine Rv rfl rfl rfl (U_move rfl) rfl rfl ?_
    refine Rsplit (t := 11) rfl (fun hg1 => ?_) (fun hg1 => ?_)
    · rw [hg1]
      refine Rs rfl rfl rfl rfl rfl ?_
      refine Rs rfl rfl rfl rfl rfl ?_
      refine Rs rfl rfl rfl rfl rfl ?_
      refine Rs rfl rfl rfl rfl rfl ?_
      refine Rs rfl rfl rfl rfl rfl ?_
      refine Rv rfl rfl rfl (U_pick_t rfl rfl) rfl rfl ?_
      refine Rv rfl rfl rfl (U_assign rfl) rfl rfl ?_
      refine Re rfl ?_
      exact joinTo id ⟨eD rfl rfl, trivial⟩ trivial rfl rfl rfl rfl (fun _ _ => rfl)
    · rw [hg1]
      refine Rv rfl rfl rfl (U_load3 rfl rfl rfl rfl rfl) rfl rfl ?_
      refine Rv rfl rfl rfl (U_move rfl) rfl rfl ?_
      refine Rv rfl rfl rfl (U_move rfl) rfl rfl ?_
      refine Rv rfl rfl rfl (U_call rfl rfl (borderR_p H Z ls c hv a b (by omega) (by omega)) rfl) rfl rfl ?_
      refine Rv rfl rfl rfl (U_gtr rfl rfl) rfl rfl ?_
      refine Rv rfl rfl rfl (U_pick_f rfl rfl) rfl rfl ?_
      refine Rv rfl rfl rfl (U_assign rfl) rfl rfl ?_
      refine Re rfl ?_
      exact joinTo id ⟨eD rfl rfl, trivial⟩ trivial rfl rfl rfl rfl (fun _ _ => rfl)
  refine thenQ_n ?_
  refine W_ret rfl ?_
  exact retL (rlT rfl rl0) (by first | rfl | (simp only [packA]; rw [nrQ]; congr 1; cases metQ Z H ls[a] ls[b] <;> simp; first | done | rfl) | (simp only [packA]; congr 1; rw [nrQ]; cases metQ Z H ls[a] ls[b] <;> simp; first | done | rfl)) rfl
end Go.Proofs.Ythlolelbmhfdbaa
end

section
namespace Go.Proofs.Ythlolelbmhfdbaa
set_option maxRecDepth 20000
open Go.AE
theorem landedG_p (H Z : Nat) (ls : List (List Bx)) (c : Option Nat) (hc : chkS ⟨H, Z, ls⟩ = 0) (hv : VS ⟨H, Z, ls⟩ H Z) (a : Int) (h : 0 ≤ a ∧ a < ls.length) : Pure Try.prog 77 [.agg [i64 (H : Nat), i64 (Z : Nat), landsA ls c], i64 a] (i64 0) := by
  have := landed_p ⟨H, Z, ls⟩ c hv.hl hv.hbl a
  rwa [opS_0 hc (by rw [inL1]; simp; omega)] at this
end Go.Proofs.Ythlolelbmhfdbaa
end

section
namespace Go.Proofs.Ythlolelbmhfdbaa
set_option maxRecDepth 20000
open Go.AE
theorem sizRf_e (s : Sk) (c : Option Nat) (hl : s.ls.length ≤ 1000000) (hbl : ∀ l ∈ s.ls, l.length ≤ 1000000) (a : Int) (hE : opS s [a] ≠ 0) : Pure Try.prog 28 [.agg [i64 s.h, i64 s.z, landsA s.ls c], i64 a] (.tup [i64 0, i64 (opS s [a])]) := by
  refine pure_of_body Try.func28 (c := body Try.f28) rfl (by simp [Try.ntmps28]) fun w0 Φ0 => ?_
  refine W_seq rfl ?_
  refine W_reg rfl ?_
  refine Rv rfl rfl rfl (U_boxF rfl rfl rfl) rfl rfl ?_
  refine Rv rfl rfl rfl (U_assign rfl) rfl rfl ?_
  refine Rv rfl rfl rfl (U_assign rfl) rfl rfl ?_
  refine Re rfl ?_
  refine thenQ_n ?_
  refine W_seq rfl ?_
  refine W_seq rfl ?_
  refine W_reg rfl ?_
  refine Rv rfl rfl rfl (U_load3 rfl rfl rfl rfl rfl) rfl rfl ?_
  refine Rv rfl rfl rfl (U_move rfl) rfl rfl ?_
  refine Rv rfl rfl rfl (U_call rfl rfl (landed_p s c hl hbl a) rfl) rfl rfl ?_
  refine Rv rfl rfl rfl (U_neq rfl rfl) rfl rfl ?_
  refine Re rfl ?_
  refine thenQ_n ?_
  refine WcondP rfl rfl (fun hc0 => ?_) (fun hc0 => absurd (hE) hc0)
  refine W_seq rfl ?_
  refine W_reg rfl ?_
  refine Rv rfl rfl rfl (U_load3 rfl rfl rfl rfl rfl) rfl rfl ?_
  refine Rv rfl rfl rfl (U_move rfl) rfl rfl ?_
  refine Rv rfl rfl rfl (U_call rfl rfl (landed_p s c hl hbl a) rfl) rfl rfl ?_
  refine Rv rfl rfl rfl (U_assign rfl) rfl rfl ?_
  refine Rv rfl rfl rfl (U_assign rfl) rfl rfl ?_
  refine Re rfl ?_
  refine thenQ_n ?_
  refine W_ret rfl ?_
  refine thenQ_r ?_
  exact retL (rlT rfl (rlT rfl rl0)) rfl rfl
theorem neiRf_e (s : Sk) (c : Option Nat) (hl : s.ls.length ≤ 1000000) (hbl : ∀ l ∈ s.ls, l.length ≤ 1000000) (a : Int) (hE : opS s [a] ≠ 0) : Pure Try.prog 34 [.agg [i64 s.h, i64 s.z, landsA s.ls c], i64 a] (.tup [intsA ([] : List Int) none, i64 (opS s [a])]) := by
  refine pure_of_body Try.func34 (c := body Try.f34) rfl (by simp [Try.ntmps34]) fun w0 Φ0 => ?_
  refine W_seq rfl ?_
  refine W_reg rfl ?_
  refine Rv rfl rfl rfl (U_boxF rfl rfl rfl) rfl rfl ?_
  refine Rv rfl rfl rfl (U_assign rfl) rfl rfl ?_
  refine Rv rfl rfl rfl (U_assign rfl) rfl rfl ?_
  refine Re rfl ?_
  refine thenQ_n ?_
  refine W_seq rfl ?_
  refine W_seq rfl ?_
  refine W_reg rfl ?_
  refine Rv rfl rfl rfl (U_load3 rfl rfl rfl rfl rfl) rfl rfl ?_
  refine Rv rfl rfl rfl (U_move rfl) rfl rfl ?_
  refine Rv rfl rfl rfl (U_call rfl rfl (landed_p s c hl hbl a) rfl) rfl rfl ?_
  refine Rv rfl rfl rfl (U_neq rfl rfl) rfl rfl ?_
  refine Re rfl ?_
  refine thenQ_n ?_
  refine WcondP rfl rfl (fun hc0 => ?_) (fun hc0 => absurd (hE) hc0)
  refine W_seq rfl ?_
  refine W_reg rfl ?_
  refine Rv rfl rfl rfl (U_load3 rfl rfl rfl rfl rfl) rfl rfl ?_
  refine Rv rfl rfl rfl (U_move rfl) rfl rfl ?_
  refine Rv rfl rfl rfl (U_call rfl rfl (landed_p s c hl hbl a) rfl) rfl rfl ?_
  refine Rv rfl rfl rfl (U_assign rfl) rfl rfl ?_
  refine Rv rfl rfl rfl (U_assign rfl) rfl rfl ?_
  refine Re rfl ?_
  refine thenQ_n ?_
  refine WweakT (j := 4) rfl (le_nils (cs := [])) ?_
  refine W_ret rfl ?_
  refine thenQ_r ?_
  exact retL (rlT rfl (rlT rfl rl0)) (by first | rfl | (simp only [packA]; rfl; first | done | rfl)) rfl
theorem opS_two {s : Sk} {a b : Int} : opS s [a, b] = if opS s [a] ≠ 0 then opS s [a] else opS s [b] := by
  unfold opS
  by_cases h : chkS s ≠ 0
  · rw [if_pos h, if_pos h, if_pos h]
  · rw [if_neg h, if_neg h, if_neg h]
    have e : inL 0 ((s.ls.length : Int) - 1) [a, b] = (inL 0 ((s.ls.length : Int) - 1) [a] && inL 0 ((s.ls.length : Int) - 1) [b]) := by simp [inL]
    rw [e]
    cases inL 0 ((s.ls.length : Int) - 1) [a] <;> cases inL 0 ((s.ls.length : Int) - 1) [b] <;> simp
theorem brdRf_e (s : Sk) (c : Option Nat) (hl : s.ls.length ≤ 1000000) (hbl : ∀ l ∈ s.ls, l.length ≤ 1000000) (a b : Int) (hE : opS s [a, b] ≠ 0) : Pure Try.prog 32 [.agg [i64 s.h, i64 s.z, landsA s.ls c], i64 a, i64 b] (.tup [i64 0, i64 (opS s [a, b])]) := by
  refine pure_of_body Try.func32 (c := body Try.f32) rfl (by simp [Try.ntmps32]) fun w0 Φ0 => ?_
  refine W_seq rfl ?_
  refine W_reg rfl ?_
  refine Rv rfl rfl rfl (U_boxF rfl rfl rfl) rfl rfl ?_
  refine Rv rfl rfl rfl (U_assign rfl) rfl rfl ?_
  refine Rv rfl rfl rfl (U_assign rfl) rfl rfl ?_
  refine Re rfl ?_
  refine thenQ_n ?_
  refine W_seq rfl ?_
  refine W_seq rfl ?_
  refine W_reg rfl ?_
  refine Rv rfl rfl rfl (U_load3 rfl rfl rfl rfl rfl) rfl rfl ?_
  refine Rv rfl rfl rfl (U_move rfl) rfl rfl ?_
  refine Rv rfl rfl rfl (U_call rfl rfl (landed_p s c hl hbl a) rfl) rfl rfl ?_
  refine Rv rfl rfl rfl (U_neq rfl rfl) rfl rfl ?_
  refine Re rfl ?_
  refine thenQ_n ?_
  refine WcondP rfl rfl (fun hc0 => ?_) (fun hc0 => ?_)
  · have h2 : opS s [a, b] = opS s [a] := by rw [opS_two, if_pos hc0]
    refine W_seq rfl ?_
    refine W_reg rfl ?_
    refine Rv rfl rfl rfl (U_load3 rfl rfl rfl rfl rfl) rfl rfl ?_
    refine Rv rfl rfl rfl (U_move rfl) rfl rfl ?_
    refine Rv rfl rfl rfl (U_call rfl rfl (landed_p s c hl hbl a) rfl) rfl rfl ?_
    refine Rv rfl rfl rfl (U_assign rfl) rfl rfl ?_
    refine Rv rfl rfl rfl (U_assign rfl) rfl rfl ?_
    refine Re rfl ?_
    refine thenQ_n ?_
    refine W_ret rfl ?_
    refine thenQ_r ?_
    exact retL (rlT rfl (rlT rfl rl0)) (by first | rfl | (simp only [packA]; rw [h2]; first | done | rfl) | (simp only [packA]; rw [show opS s [a, b] = opS s [b] by rw [opS_two, if_neg (by simpa using hc0)]]; first | done | rfl)) rfl
  · rw [Decidable.not_not] at hc0
    refine W_skip rfl ?_
    refine thenQ_n ?_
    refine W_seq rfl ?_
    refine W_seq rfl ?_
    refine W_reg rfl ?_
    refine Rv rfl rfl rfl (U_load3 rfl rfl rfl rfl rfl) rfl rfl ?_
    refine Rv rfl rfl rfl (U_move rfl) rfl rfl ?_
    refine Rv rfl rfl rfl (U_call rfl rfl (landed_p s c hl hbl b) rfl) rfl rfl ?_
    refine Rv rfl rfl rfl (U_neq rfl rfl) rfl rfl ?_
    refine Re rfl ?_
    refine thenQ_n ?_
    refine WcondP rfl rfl (fun hc1 => ?_) (fun hc1 => absurd (fun h4 => hE (by rw [opS_two, if_neg (by simpa using hc0)]; exact h4)) hc1)
    refine W_seq rfl ?_
    refine W_reg rfl ?_
    refine Rv rfl rfl rfl (U_load3 rfl rfl rfl rfl rfl) rfl rfl ?_
    refine Rv rfl rfl rfl (U_move rfl) rfl rfl ?_
    refine Rv rfl rfl rfl (U_call rfl rfl (landed_p s c hl hbl b) rfl) rfl rfl ?_
    refine Rv rfl rfl rfl (U_assign rfl) rfl rfl ?_
    refine Rv rfl rfl rfl (U_assign rfl) rfl rfl ?_
    refine Re rfl ?_
    refine thenQ_n ?_
    refine W_ret rfl ?_
    refine thenQ_r ?_
    exact retL (rlT rfl (rlT rfl rl0)) (by first | rfl | (simp only [packA]; rw [h2]; first | done | rfl) | (simp only [packA]; rw [show opS s [a, b] = opS s [b] by rw [opS_two, if_neg (by simpa using hc0)]]; first | done | rfl)) rfl
theorem sizRf_g (H Z : Nat) (ls : List (List Bx)) (c : Option Nat) (hc : chkS ⟨H, Z, ls⟩ = 0) (hv : VS ⟨H, Z, ls⟩ H Z) (a : Nat) (ha : a < ls.length) : Pure Try.prog 28 [.agg [i64 (H : Nat), i64 (Z : Nat), landsA ls c], i64 (a : Nat)] (.tup [i64 ((sizQ Z H ls[a] : Nat) : Int), i64 0]) := by
  have hv' := hv
  obtain ⟨_, _, hH, hZ1, hln, hlb, hbx⟩ := hv'
  simp only at hln hlb hbx
  have hZ := hZ1.2
  have hHZ : Z * H ≤ 1152 := Nat.mul_le_mul hZ hH.2
  have hHZc : H * Z = Z * H := Nat.mul_comm _ _
  have hfl : (fldQ Z H ls[a]).length = Z * H := fldQ_len
  refine pure_of_body Try.func28 (c := body Try.f28) rfl (by simp [Try.ntmps28]) fun w0 Φ0 => ?_
  refine W_seq rfl ?_
  refine W_reg rfl ?_
  refine Rv rfl rfl rfl (U_boxF rfl rfl rfl) rfl rfl ?_
  refine Rv rfl rfl rfl (U_assign rfl) rfl rfl ?_
  refine Rv rfl rfl rfl (U_assign rfl) rfl rfl ?_
  refine Re rfl ?_
  refine thenQ_n ?_
  refine W_seq rfl ?_
  refine W_seq rfl ?_
  refine W_reg rfl ?_
  refine Rv rfl rfl rfl (U_load3 rfl rfl rfl rfl rfl) rfl rfl ?_
  refine Rv rfl rfl rfl (U_move rfl) rfl rfl ?_
  refine Rv rfl rfl rfl (U_call rfl rfl (landedG_p H Z ls c hc hv ((a : Nat) : Int) (by omega)) rfl) rfl rfl ?_
  refine Rv rfl rfl rfl (U_neq rfl rfl) rfl rfl ?_
  refine Re rfl ?_
  refine thenQ_n ?_
  refine WcondP rfl rfl (fun h => absurd h (by decide)) (fun _ => ?_)
  refine W_skip rfl ?_
  refine thenQ_n ?_
  refine W_seq rfl ?_
  refine W_reg rfl ?_
  refine Rv rfl rfl rfl (U_load3 rfl rfl rfl rfl rfl) rfl rfl ?_
  refine Rv rfl rfl rfl (U_move rfl) rfl rfl ?_
  refine Rv rfl rfl rfl (U_call rfl rfl (field_p H Z ls c hv a (by omega)) rfl) rfl rfl ?_
  refine Rv rfl rfl rfl (U_assign rfl) rfl rfl ?_
  refine Re rfl ?_
  refine thenQ_n ?_
  refine W_seq rfl ?_
  refine W_reg rfl ?_
  refine Rv rfl rfl rfl (U_assign rfl) rfl rfl ?_
  refine Re rfl ?_
  refine thenQ_n ?_
  refine W_seq rfl ?_
  refine W_seq rfl ?_
  refine W_reg rfl ?_
  refine Rv rfl rfl rfl (U_assign rfl) rfl rfl ?_
  refine Re rfl ?_
  refine thenQ_n ?_
  refine W_block rfl ?_
  refine LoopTo (T' := [(6, .ros ((fldQ Z H ls[a]).map n64) (H * Z) (some (H * Z))), (7, i64 ((0 : Nat) : Int)), (8, i64 ((0 : Nat) : Int))]) (H' := []) (n := 0) rfl (fun mz_ qz_ => ∃ (i : Nat) (n : Nat), i ≤ H * Z ∧ n = ((fldQ Z H ls[a]).take i).sum ∧ mz_ = H * Z - i ∧ qz_ = ⟨[(6, .ros ((fldQ Z H ls[a]).map n64) (H * Z) (some (H * Z))), (7, i64 ((n : Nat) : Int)), (8, i64 ((i : Nat) : Int))], [], 0, []⟩) ⟨0, 0, (by omega), rfl, rfl, rfl⟩ id ⟨eD rfl rfl, eD rfl rfl, eD rfl rfl, trivial⟩ trivial rfl rfl rfl rfl (fun _ _ => rfl) ?_
  rintro _ _ ⟨i, n, hi0_0, hi0_1, rfl, rfl⟩
  have hfs := fldQ_sum_le (Z := Z) (H := H) (l := ls[a]) i
  refine W_seq rfl ?_
  refine W_seq rfl ?_
  refine W_reg rfl ?_
  refine Rv rfl rfl rfl (U_move rfl) rfl rfl ?_
  refine Rv rfl rfl rfl (U_move rfl) rfl rfl ?_
  refine Rv rfl rfl rfl (U_lenOf rfl len_ros) rfl rfl ?_
  refine Rv rfl rfl rfl (U_lss rfl rfl) rfl rfl ?_
  refine Re rfl ?_
  refine thenQ_n ?_
  refine WcondP rfl rfl (fun hc1 => ?_) (fun hc1 => ?_)
  · have hfq := fldQ_le (Z := Z) (H := H) (l := ls[a]) (i := i) (by omega)
    refine W_skip rfl ?_
    refine thenQ_n ?_
    refine W_seq rfl ?_
    refine W_block rfl ?_
    refine W_reg rfl ?_
    refine Rv rfl rfl rfl (U_move rfl) rfl rfl ?_
    refine Rv rfl rfl rfl (U_move rfl) rfl rfl ?_
    refine Rv rfl rfl rfl (U_move rfl) rfl rfl ?_
    have hx1 : i < (fldQ Z H ls[a]).length := by omega
    refine Rv rfl rfl rfl (U_indexR (j := i) rfl rfl rfl (by omega)) rfl rfl ?_
    refine Rv rfl rfl rfl (U_load1 rfl rfl (getM hx1)) rfl rfl ?_
    refine Rv rfl rfl rfl (U_add rfl rfl (w64e (m := ((n + (fldQ Z H ls[a])[i] : Nat) : Int)) (by omega) (by omega) (by omega))) rfl rfl ?_
    refine Rv rfl rfl rfl (U_assign rfl) rfl rfl ?_
    refine Re rfl ?_
    refine blkQ_n ?_
    refine thenQ_n ?_
    refine W_reg rfl ?_
    refine Rv rfl rfl rfl (U_move rfl) rfl rfl ?_
    refine Rv rfl rfl rfl (U_add rfl rfl (w64e (m := ((i + 1 : Nat) : Int)) (by omega) (by omega) (by omega))) rfl rfl ?_
    refine Rv rfl rfl rfl (U_assign rfl) rfl rfl ?_
    refine Re rfl ?_
    refine thenQ_n ?_
    exact againTo (T' := [(6, .ros ((fldQ Z H ls[a]).map n64) (H * Z) (some (H * Z))), (7, i64 (((n + (fldQ Z H ls[a])[i]) : Nat) : Int)), (8, i64 (((i + 1) : Nat) : Int))]) (H' := []) (n := 0) (H * Z - (i + 1)) ⟨i + 1, n + (fldQ Z H ls[a])[i], (by omega), (by rw [sumN_snoc (by omega), ← hi0_1]), rfl, rfl⟩ (by omega) id ⟨eD rfl rfl, eD rfl rfl, eD rfl rfl, trivial⟩ trivial rfl rfl rfl rfl (fun _ _ => rfl)
  · refine W_exit rfl ?_
    refine thenQ_x ?_
    refine thenQ_x ?_
    refine blkQ_x rfl ?_
    refine thenQ_n ?_
    refine W_seq rfl ?_
    refine W_reg rfl ?_
    refine Rv rfl rfl rfl (U_move rfl) rfl rfl ?_
    refine Rv rfl rfl rfl (U_assign rfl) rfl rfl ?_
    refine Rv rfl rfl rfl (U_assign rfl) rfl rfl ?_
    refine Re rfl ?_
    refine thenQ_n ?_
    refine W_ret rfl ?_
    exact retL (rlT rfl (rlT rfl rl0)) (by first | rfl | (simp only [packA]; rw [hi0_1, List.take_of_length_le (by omega)]; first | done | rfl)) rfl
theorem brdRf_g (H Z : Nat) (ls : List (List Bx)) (c : Option Nat) (hc : chkS ⟨H, Z, ls⟩ = 0) (hv : VS ⟨H, Z, ls⟩ H Z) (a b : Nat) (ha : a < ls.length) (hb : b < ls.length) (hn : a ≠ b) : Pure Try.prog 32 [.agg [i64 (H : Nat), i64 (Z : Nat), landsA ls c], i64 (a : Nat), i64 (b : Nat)] (.tup [i64 ((brQ Z H ls[a] ls[b] : Nat) : Int), i64 0]) := by
  have hv' := hv
  obtain ⟨_, _, hH, hZ1, hln, hlb, hbx⟩ := hv'
  simp only at hln hlb hbx
  have hZ := hZ1.2
  have hHZ : Z * H ≤ 1152 := Nat.mul_le_mul hZ hH.2
  have hHZc : H * Z = Z * H := Nat.mul_comm _ _
  refine pure_of_body Try.func32 (c := body Try.f32) rfl (by simp [Try.ntmps32]) fun w0 Φ0 => ?_
  refine W_seq rfl ?_
  refine W_reg rfl ?_
  refine Rv rfl rfl rfl (U_boxF rfl rfl rfl) rfl rfl ?_
  refine Rv rfl rfl rfl (U_assign rfl) rfl rfl ?_
  refine Rv rfl rfl rfl (U_assign rfl) rfl rfl ?_
  refine Re rfl ?_
  refine thenQ_n ?_
  refine W_seq rfl ?_
  refine W_seq rfl ?_
  refine W_reg rfl ?_
  refine Rv rfl rfl rfl (U_load3 rfl rfl rfl rfl rfl) rfl rfl ?_
  refine Rv rfl rfl rfl (U_move rfl) rfl rfl ?_
  refine Rv rfl rfl rfl (U_call rfl rfl (landedG_p H Z ls c hc hv ((a : Nat) : Int) (by omega)) rfl) rfl rfl ?_
  refine Rv rfl rfl rfl (U_neq rfl rfl) rfl rfl ?_
  refine Re rfl ?_
  refine thenQ_n ?_
  refine WcondP rfl rfl (fun h => absurd h (by decide)) (fun _ => ?_)
  refine W_skip rfl ?_
  refine thenQ_n ?_
  refine W_seq rfl ?_
  refine W_seq rfl ?_
  refine W_reg rfl ?_
  refine Rv rfl rfl rfl (U_load3 rfl rfl rfl rfl rfl) rfl rfl ?_
  refine Rv rfl rfl rfl (U_move rfl) rfl rfl ?_
  refine Rv rfl rfl rfl (U_call rfl rfl (landedG_p H Z ls c hc hv ((b : Nat) : Int) (by omega)) rfl) rfl rfl ?_
  refine Rv rfl rfl rfl (U_neq rfl rfl) rfl rfl ?_
  refine Re rfl ?_
  refine thenQ_n ?_
  refine WcondP rfl rfl (fun h => absurd h (by decide)) (fun _ => ?_)
  refine W_skip rfl ?_
  refine thenQ_n ?_
  refine W_seq rfl ?_
  refine W_seq rfl ?_
  refine W_reg rfl ?_
  refine Rv rfl rfl rfl (U_move rfl) rfl rfl ?_
  refine Rv rfl rfl rfl (U_move rfl) rfl rfl ?_
  refine Rv rfl rfl rfl (U_eql rfl rfl) rfl rfl ?_
  refine Re rfl ?_
  refine thenQ_n ?_
  refine WcondP rfl rfl (fun hc2 => absurd hc2 (by omega)) (fun hc2 => ?_)
  refine W_skip rfl ?_
  refine thenQ_n ?_
  refine W_seq rfl ?_
  refine W_reg rfl ?_
  refine Rv rfl rfl rfl (U_load3 rfl rfl rfl rfl rfl) rfl rfl ?_
  refine Rv rfl rfl rfl (U_move rfl) rfl rfl ?_
  refine Rv rfl rfl rfl (U_move rfl) rfl rfl ?_
  refine Rv rfl rfl rfl (U_call rfl rfl (borderR_p H Z ls c hv a b (by omega) (by omega)) rfl) rfl rfl ?_
  refine Rv rfl rfl rfl (U_assign rfl) rfl rfl ?_
  refine Rv rfl rfl rfl (U_assign rfl) rfl rfl ?_
  refine Re rfl ?_
  refine thenQ_n ?_
  refine W_ret rfl ?_
  exact retL (rlT rfl (rlT rfl rl0)) rfl rfl
theorem brdRf_q (H Z : Nat) (ls : List (List Bx)) (c : Option Nat) (hc : chkS ⟨H, Z, ls⟩ = 0) (hv : VS ⟨H, Z, ls⟩ H Z) (a : Nat) (ha : a < ls.length) : Pure Try.prog 32 [.agg [i64 (H : Nat), i64 (Z : Nat), landsA ls c], i64 (a : Nat), i64 (a : Nat)] (.tup [i64 0, i64 15]) := by
  have hv' := hv
  obtain ⟨_, _, hH, hZ1, hln, hlb, hbx⟩ := hv'
  simp only at hln hlb hbx
  have hZ := hZ1.2
  have hHZ : Z * H ≤ 1152 := Nat.mul_le_mul hZ hH.2
  have hHZc : H * Z = Z * H := Nat.mul_comm _ _
  refine pure_of_body Try.func32 (c := body Try.f32) rfl (by simp [Try.ntmps32]) fun w0 Φ0 => ?_
  refine W_seq rfl ?_
  refine W_reg rfl ?_
  refine Rv rfl rfl rfl (U_boxF rfl rfl rfl) rfl rfl ?_
  refine Rv rfl rfl rfl (U_assign rfl) rfl rfl ?_
  refine Rv rfl rfl rfl (U_assign rfl) rfl rfl ?_
  refine Re rfl ?_
  refine thenQ_n ?_
  refine W_seq rfl ?_
  refine W_seq rfl ?_
  refine W_reg rfl ?_
  refine Rv rfl rfl rfl (U_load3 rfl rfl rfl rfl rfl) rfl rfl ?_
  refine Rv rfl rfl rfl (U_move rfl) rfl rfl ?_
  refine Rv rfl rfl rfl (U_call rfl rfl (landedG_p H Z ls c hc hv ((a : Nat) : Int) (by omega)) rfl) rfl rfl ?_
  refine Rv rfl rfl rfl (U_neq rfl rfl) rfl rfl ?_
  refine Re rfl ?_
  refine thenQ_n ?_
  refine WcondP rfl rfl (fun h => absurd h (by decide)) (fun _ => ?_)
  refine W_skip rfl ?_
  refine thenQ_n ?_
  refine W_seq rfl ?_
  refine W_seq rfl ?_
  refine W_reg rfl ?_
  refine Rv rfl rfl rfl (U_load3 rfl rfl rfl rfl rfl) rfl rfl ?_
  refine Rv rfl rfl rfl (U_move rfl) rfl rfl ?_
  refine Rv rfl rfl rfl (U_call rfl rfl (landedG_p H Z ls c hc hv ((a : Nat) : Int) (by omega)) rfl) rfl rfl ?_
  refine Rv rfl rfl rfl (U_neq rfl rfl) rfl rfl ?_
  refine Re rfl ?_
  refine thenQ_n ?_
  refine WcondP rfl rfl (fun h => absurd h (by decide)) (fun _ => ?_)
  refine W_skip rfl ?_
  refine thenQ_n ?_
  refine W_seq rfl ?_
  refine W_seq rfl ?_
  refine W_reg rfl ?_
  refine Rv rfl rfl rfl (U_move rfl) rfl rfl ?_
  refine Rv rfl rfl rfl (U_move rfl) rfl rfl ?_
  refine Rv rfl rfl rfl (U_eql rfl rfl) rfl rfl ?_
  refine Re rfl ?_
  refine thenQ_n ?_
  refine WcondP rfl rfl (fun hc2 => ?_) (fun hc2 => absurd (rfl) hc2)
  refine W_seq rfl ?_
  refine W_reg rfl ?_
  refine Rv rfl rfl rfl (U_assign rfl) rfl rfl ?_
  refine Rv rfl rfl rfl (U_assign rfl) rfl rfl ?_
  refine Re rfl ?_
  refine thenQ_n ?_
  refine W_ret rfl ?_
  refine thenQ_r ?_
  exact retL (rlT rfl (rlT rfl rl0)) rfl rfl
theorem neiRf_g (H Z : Nat) (ls : List (List Bx)) (c : Option Nat) (hc : chkS ⟨H, Z, ls⟩ = 0) (hv : VS ⟨H, Z, ls⟩ H Z) (a : Nat) (ha : a < ls.length) : Pure Try.prog 34 [.agg [i64 (H : Nat), i64 (Z : Nat), landsA ls c], i64 (a : Nat)] (.tup [intsA (neiK Z H ls a ls.length) none, i64 0]) := by
  have hv' := hv
  obtain ⟨_, _, hH, hZ1, hln, hlb, hbx⟩ := hv'
  simp only at hln hlb hbx
  have hZ := hZ1.2
  have hHZ : Z * H ≤ 1152 := Nat.mul_le_mul hZ hH.2
  have hHZc : H * Z = Z * H := Nat.mul_comm _ _
  refine pure_of_body Try.func34 (c := body Try.f34) rfl (by simp [Try.ntmps34]) fun w0 Φ0 => ?_
  refine W_seq rfl ?_
  refine W_reg rfl ?_
  refine Rv rfl rfl rfl (U_boxF rfl rfl rfl) rfl rfl ?_
  refine Rv rfl rfl rfl (U_assign rfl) rfl rfl ?_
  refine Rv rfl rfl rfl (U_assign rfl) rfl rfl ?_
  refine Re rfl ?_
  refine thenQ_n ?_
  refine W_seq rfl ?_
  refine W_seq rfl ?_
  refine W_reg rfl ?_
  refine Rv rfl rfl rfl (U_load3 rfl rfl rfl rfl rfl) rfl rfl ?_
  refine Rv rfl rfl rfl (U_move rfl) rfl rfl ?_
  refine Rv rfl rfl rfl (U_call rfl rfl (landedG_p H Z ls c hc hv ((a : Nat) : Int) (by omega)) rfl) rfl rfl ?_
  refine Rv rfl rfl rfl (U_neq rfl rfl) rfl rfl ?_
  refine Re rfl ?_
  refine thenQ_n ?_
  refine WcondP rfl rfl (fun h => absurd h (by decide)) (fun _ => ?_)
  refine W_skip rfl ?_
  refine thenQ_n ?_
  refine W_seq rfl ?_
  refine W_reg rfl ?_
  refine Rv rfl rfl rfl (U_assign rfl) rfl rfl ?_
  refine Re rfl ?_
  refine thenQ_n ?_
  refine W_seq rfl ?_
  refine W_seq rfl ?_
  refine W_reg rfl ?_
  refine Rv rfl rfl rfl (U_assign rfl) rfl rfl ?_
  refine Re rfl ?_
  refine thenQ_n ?_
  refine W_block rfl ?_
  refine LoopTo (T' := [(1, i64 ((a : Nat) : Int)), (2, .rop [i64 ((H : Nat) : Int), i64 ((Z : Nat) : Int), .ros (ls.map boxesL) ls.length c] 0), (6, .out 0 [].length 1), (7, i64 ((0 : Nat) : Int))]) (H' := [(0, outB ([].map i64) 3 [].length)]) (n := 1) rfl (fun mz_ qz_ => ∃ (i : Nat) (l : List Int), i ≤ ls.length ∧ l = neiK Z H ls a i ∧ mz_ = ls.length - i ∧ qz_ = ⟨[(1, i64 ((a : Nat) : Int)), (2, .rop [i64 ((H : Nat) : Int), i64 ((Z : Nat) : Int), .ros (ls.map boxesL) ls.length c] 0), (6, .out 0 l.length 1), (7, i64 ((i : Nat) : Int))], [(0, outB (l.map i64) 3 l.length)], 1, []⟩) ⟨0, [], (by omega), rfl, rfl, rfl⟩ id ⟨eD rfl rfl, eD rfl rfl, eW rfl le_nils_out rfl, eD rfl rfl, trivial⟩ ⟨rO0 rfl, trivial⟩ rfl rfl rfl rfl (fun _ _ => rfl) ?_
  rintro _ _ ⟨i, l, hi0_0, hi0_1, rfl, rfl⟩
  have hll : l.length ≤ i := by rw [hi0_1]; exact neiK_len
  refine W_seq rfl ?_
  refine W_seq rfl ?_
  refine W_reg rfl ?_
  refine Rv rfl rfl rfl (U_move rfl) rfl rfl ?_
  refine Rv rfl rfl rfl (U_fieldAddrR rfl) rfl rfl ?_
  refine Rv rfl rfl rfl (U_load1 rfl rfl rfl) rfl rfl ?_
  refine Rv rfl rfl rfl (U_lenOf rfl len_ros) rfl rfl ?_
  refine Rv rfl rfl rfl (U_lss rfl rfl) rfl rfl ?_
  refine Re rfl ?_
  refine thenQ_n ?_
  refine WcondP rfl rfl (fun hc1 => ?_) (fun hc1 => ?_)
  · have hck : i < ls.length := by omega
    refine W_skip rfl ?_
    refine thenQ_n ?_
    refine W_seq rfl ?_
    refine W_block rfl ?_
    refine W_seq rfl ?_
    refine Wjoin ⟨[(1, i64 ((a : Nat) : Int)), (2, .rop [i64 ((H : Nat) : Int), i64 ((Z : Nat) : Int), .ros (ls.map boxesL) ls.length c] 0), (6, .out 0 l.length 1), (7, i64 ((i : Nat) : Int)), (30, .bool ((decide (((i : Nat) : Int) ≠ ((a : Nat) : Int))) && (nrQ Z H ls[a] ls[i])))], [(0, outB (l.map i64) 3 l.length)], 1, []⟩ ?_ ?_
    · refine W_reg rfl ?_
      refine Rv rfl rfl rfl (U_move rfl) rfl rfl ?_
      refine Rv rfl rfl rfl (U_move rfl) rfl rfl ?_
      refine Rv rfl rfl rfl (U_neq rfl rfl) rfl rfl ?_
      refine Rv rfl rfl rfl (U_move rfl) rfl rfl ?_
      refine Rsplit (t := 25) rfl (fun hg1 => ?_) (fun hg1 => ?_)
      · rw [hg1]
        have hg1' : ((i : Nat) : Int) ≠ ((a : Nat) : Int) := of_decide_eq_true hg1
        refine Rv rfl rfl rfl (U_load3 rfl rfl rfl rfl rfl) rfl rfl ?_
        refine Rv rfl rfl rfl (U_move rfl) rfl rfl ?_
        refine Rv rfl rfl rfl (U_move rfl) rfl rfl ?_
        refine Rv rfl rfl rfl (U_call rfl rfl (nearR_p H Z ls c hv a i (by omega) (by omega)) rfl) rfl rfl ?_
        refine Rv rfl rfl rfl (U_pick_t rfl rfl) rfl rfl ?_
        refine Re rfl ?_
        exact joinTo id ⟨eD rfl rfl, eD rfl rfl, e_ rfl rfl, eD rfl rfl, eD rfl rfl, trivial⟩ ⟨rO (mapD (fun _ => rfl) _) rfl rfl, trivial⟩ rfl rfl rfl rfl (fun _ _ => rfl)
      · rw [hg1]
        have hg1' : ¬ (((i : Nat) : Int) ≠ ((a : Nat) : Int)) := of_decide_eq_false hg1
        refine Rs rfl rfl rfl rfl rfl ?_
        refine Rs rfl rfl rfl rfl rfl ?_
        refine Rs rfl rfl rfl rfl rfl ?_
        refine Rs rfl rfl rfl rfl rfl ?_
        refine Rv rfl rfl rfl (U_pick_f rfl rfl) rfl rfl ?_
        refine Re rfl ?_
        exact joinTo id ⟨eD rfl rfl, eD rfl rfl, e_ rfl rfl, eD rfl rfl, eD rfl rfl, trivial⟩ ⟨rO (mapD (fun _ => rfl) _) rfl rfl, trivial⟩ rfl rfl rfl rfl (fun _ _ => rfl)
    refine thenQ_n ?_
    refine Wcond rfl rfl (fun hc2 => ?_) (fun hc2 => ?_)
    · have hbt : i ≠ a ∧ nrQ Z H ls[a] ls[i] = true := by simp at hc2; exact ⟨fun e => hc2.1 (by omega), hc2.2⟩
      refine W_reg rfl ?_
      refine Rv rfl rfl rfl (U_move rfl) rfl rfl ?_
      refine Rv rfl rfl rfl (U_move rfl) rfl rfl ?_
      refine Rv rfl rfl rfl (U_buildSliceF (by rfl) (by decide) rfl rfl rfl) rfl rfl ?_
      refine Ra rfl rfl rfl (U_appO (b := 0) (m := 0) (cs' := (l ++ [((i : Nat) : Int)]).map i64) (n' := (l ++ [((i : Nat) : Int)]).length) rfl rfl (by simp) rfl (map_len1 _) rfl rfl (by omega) (appM _ _) (len1 _ _)) rfl rfl rfl ?_
      refine Rv rfl rfl rfl (U_assign rfl) rfl rfl ?_
      refine Re rfl ?_
      refine blkQ_n ?_
      refine thenQ_n ?_
      refine W_reg rfl ?_
      refine Rv rfl rfl rfl (U_move rfl) rfl rfl ?_
      refine Rv rfl rfl rfl (U_add rfl rfl (w64e (m := ((i + 1 : Nat) : Int)) (by omega) (by omega) (by omega))) rfl rfl ?_
      refine Rv rfl rfl rfl (U_assign rfl) rfl rfl ?_
      refine Re rfl ?_
      refine thenQ_n ?_
      exact againTo (T' := [(1, i64 ((a : Nat) : Int)), (2, .rop [i64 ((H : Nat) : Int), i64 ((Z : Nat) : Int), .ros (ls.map boxesL) ls.length c] 0), (6, .out 0 (l ++ [((i : Nat) : Int)]).length 1), (7, i64 (((i + 1) : Nat) : Int))]) (H' := [(0, outB ((l ++ [((i : Nat) : Int)]).map i64) 3 (l ++ [((i : Nat) : Int)]).length)]) (n := 1) (ls.length - (i + 1)) ⟨i + 1, l ++ [((i : Nat) : Int)], (by omega), (by first | (rw [neiK_t ha hck hbt.1 hbt.2, hi0_1]; done) | (rw [neiK_f ha hck hbt]; exact hi0_1)), rfl, rfl⟩ (by omega) (mapN [1]) ⟨eD rfl rfl, eD rfl rfl, e_ rfl rfl, eD rfl rfl, trivial⟩ ⟨rO (mapD (fun _ => rfl) _) rfl rfl, trivial⟩ rfl rfl rfl rfl (fun _ h => absurd h (Nat.not_lt_zero _))
    · have hc2' := Bool.eq_false_iff.1 hc2
      have hbt : ¬ (i ≠ a ∧ nrQ Z H ls[a] ls[i] = true) := by rintro ⟨h1, h2⟩; simp [h2] at hc2; omega
      refine W_skip rfl ?_
      refine blkQ_n ?_
      refine thenQ_n ?_
      refine W_reg rfl ?_
      refine Rv rfl rfl rfl (U_move rfl) rfl rfl ?_
      refine Rv rfl rfl rfl (U_add rfl rfl (w64e (m := ((i + 1 : Nat) : Int)) (by omega) (by omega) (by omega))) rfl rfl ?_
      refine Rv rfl rfl rfl (U_assign rfl) rfl rfl ?_
      refine Re rfl ?_
      refine thenQ_n ?_
      exact againTo (T' := [(1, i64 ((a : Nat) : Int)), (2, .rop [i64 ((H : Nat) : Int), i64 ((Z : Nat) : Int), .ros (ls.map boxesL) ls.length c] 0), (6, .out 0 l.length 1), (7, i64 (((i + 1) : Nat) : Int))]) (H' := [(0, outB (l.map i64) 3 l.length)]) (n := 1) (ls.length - (i + 1)) ⟨i + 1, l, (by omega), (by first | (rw [neiK_t ha hck hbt.1 hbt.2, hi0_1]; done) | (rw [neiK_f ha hck hbt]; exact hi0_1)), rfl, rfl⟩ (by omega) id ⟨eD rfl rfl, eD rfl rfl, e_ rfl rfl, eD rfl rfl, trivial⟩ ⟨rO (mapD (fun _ => rfl) _) rfl rfl, trivial⟩ rfl rfl rfl rfl (fun _ _ => rfl)
  · refine W_exit rfl ?_
    refine thenQ_x ?_
    refine thenQ_x ?_
    refine blkQ_x rfl ?_
    refine thenQ_n ?_
    refine W_seq rfl ?_
    refine W_reg rfl ?_
    refine Rv rfl rfl rfl (U_move rfl) rfl rfl ?_
    refine Rv rfl rfl rfl (U_assign rfl) rfl rfl ?_
    refine Rv rfl rfl rfl (U_assign rfl) rfl rfl ?_
    refine Re rfl ?_
    refine thenQ_n ?_
    refine WfrO 0 (l.map i64) rfl (mapD (fun _ => rfl) _) (T' := [(4, .ros (l.map i64) l.length none), (5, i64 0)]) (H' := []) ⟨fO rfl, fD rfl rfl, trivial⟩ trivial ?_
    refine W_ret rfl ?_
    exact retL (rlT rfl (rlT rfl rl0)) (by first | rfl | (simp only [packA]; rw [hi0_1, show i = ls.length by omega]; first | done | rfl)) rfl
theorem sizRfA_p (s : Sk) (c : Option Nat) (hl : s.ls.length ≤ 1000000) (hbl : ∀ l ∈ s.ls, l.length ≤ 1000000) (a : Int) : Pure Try.prog 28 [.agg [i64 s.h, i64 s.z, landsA s.ls c], i64 a] (.tup [i64 (sizR s a), i64 (opS s [a])]) := by
  by_cases hE : opS s [a] = 0
  · obtain ⟨H, Z, ls, rfl, hc, hv, hin⟩ := opS_ok hE
    obtain ⟨a, rfl, ha⟩ := in1_ok hin
    rw [sizR_g hc ha, hE]
    exact sizRf_g H Z ls c hc hv a ha
  · rw [sizR_e hE]
    exact sizRf_e s c hl hbl a hE
theorem neiRfA_p (s : Sk) (c : Option Nat) (hl : s.ls.length ≤ 1000000) (hbl : ∀ l ∈ s.ls, l.length ≤ 1000000) (a : Int) : Pure Try.prog 34 [.agg [i64 s.h, i64 s.z, landsA s.ls c], i64 a] (.tup [intsA (neiR s a) none, i64 (opS s [a])]) := by
  by_cases hE : opS s [a] = 0
  · obtain ⟨H, Z, ls, rfl, hc, hv, hin⟩ := opS_ok hE
    obtain ⟨a, rfl, ha⟩ := in1_ok hin
    rw [neiR_g hc ha, hE]
    exact neiRf_g H Z ls c hc hv a ha
  · have e : neiR s a = [] := if_neg hE
    rw [e]
    exact neiRf_e s c hl hbl a hE
theorem brdRfA_p (s : Sk) (c : Option Nat) (hl : s.ls.length ≤ 1000000) (hbl : ∀ l ∈ s.ls, l.length ≤ 1000000) (a b : Int) : Pure Try.prog 32 [.agg [i64 s.h, i64 s.z, landsA s.ls c], i64 a, i64 b] (.tup [i64 (brdR s a b), i64 (brdE s a b)]) := by
  by_cases hE : opS s [a, b] = 0
  · obtain ⟨H, Z, ls, rfl, hc, hv, hin⟩ := opS_ok hE
    have h2 := inL2b hin
    obtain ⟨a, rfl⟩ : ∃ m : Nat, a = (m : Int) := ⟨a.toNat, by omega⟩
    obtain ⟨b, rfl⟩ : ∃ m : Nat, b = (m : Int) := ⟨b.toNat, by omega⟩
    by_cases hn : a = b
    · subst hn
      rw [(brdR_q hc (by omega)).1, (brdR_q hc (by omega)).2]
      exact brdRf_q H Z ls c hc hv a (by omega)
    · rw [(brdR_g hc (by omega) (by omega) hn).1, (brdR_g hc (by omega) (by omega) hn).2]
      exact brdRf_g H Z ls c hc hv a b (by omega) (by omega) hn
  · rw [(brdR_e hE).1, (brdR_e hE).2]
    exact brdRf_e s c hl hbl a b hE
end Go.Proofs.Ythlolelbmhfdbaa
end

section
namespace Go.Proofs.Ythlolelbmhfdbaa
set_option maxRecDepth 20000
open Go.AE
theorem fieldM_p (H Z : Nat) (ls : List (List Bx)) (c : Option Nat) (hv : VS ⟨H, Z, ls⟩ H Z) (a : Nat) (ha : a < ls.length) : MutP Try.prog 53 [.agg [i64 (H : Nat), i64 (Z : Nat), landsA ls c], i64 (a : Nat)] [] 0 (.slice 0 0 (H * Z) (H * Z)) [(0, some (.cells ((fldQ Z H ls[a]).map n64) 3))] 1 := by
  have hv' := hv
  obtain ⟨_, _, hH, hZ1, hln, hlb, hbx⟩ := hv'
  simp only at hln hlb hbx
  have hZ := hZ1.2
  have hHZ : Z * H ≤ 1152 := Nat.mul_le_mul hZ hH.2
  have hHZc : H * Z = Z * H := Nat.mul_comm _ _
  refine mut_of_body Try.func53 (c := body Try.f53) rfl (by decide) (by simp [Try.ntmps53]) fun w0 Φ0 ρ0 => ?_
  refine W_seq rfl ?_
  refine W_reg rfl ?_
  refine Rv rfl rfl rfl (U_boxF rfl rfl rfl) rfl rfl ?_
  refine Rv rfl rfl rfl (U_assign rfl) rfl rfl ?_
  refine Re rfl ?_
  refine thenQ_n ?_
  refine W_seq rfl ?_
  refine W_reg rfl ?_
  refine Rv rfl rfl rfl (U_fieldAddrR rfl) rfl rfl ?_
  refine Rv rfl rfl rfl (U_load1 rfl rfl rfl) rfl rfl ?_
  refine Rv rfl rfl rfl (U_fieldAddrR rfl) rfl rfl ?_
  refine Rv rfl rfl rfl (U_load1 rfl rfl rfl) rfl rfl ?_
  refine Rv rfl rfl rfl (U_mul rfl rfl (w64e (m := ((H * Z : Nat) : Int)) (by omega) (by omega) (by omega))) rfl rfl ?_
  refine Ra rfl rfl rfl (U_mkL (n := H * Z) (cs' := (List.replicate (H * Z) (0 : Nat)).map n64) rfl rfl rfl (by omega) (replM rfl _)) rfl rfl rfl ?_
  refine Rv rfl rfl rfl (U_assign rfl) rfl rfl ?_
  refine Re rfl ?_
  refine thenQ_n ?_
  refine W_seq rfl ?_
  refine W_seq rfl ?_
  refine W_reg rfl ?_
  refine Rv rfl rfl rfl (U_assign rfl) rfl rfl ?_
  refine Re rfl ?_
  refine thenQ_n ?_
  refine W_block rfl ?_
  refine LoopTo (T' := [(1, i64 ((a : Nat) : Int)), (2, .rop [i64 ((H : Nat) : Int), i64 ((Z : Nat) : Int), .ros (ls.map boxesL) ls.length c] 0), (5, .slice 0 0 (H * Z) (H * Z)), (6, i64 ((0 : Nat) : Int))]) (H' := [(0, some (.cells ((List.replicate (H * Z) 0).map n64) 3))]) (n := 1) rfl (fun mz_ qz_ => ∃ (z : Nat) (f : List Nat), z ≤ Z ∧ f = fldK Z H ls[a] (z * H) ∧ mz_ = Z - z ∧ qz_ = ⟨[(1, i64 ((a : Nat) : Int)), (2, .rop [i64 ((H : Nat) : Int), i64 ((Z : Nat) : Int), .ros (ls.map boxesL) ls.length c] 0), (5, .slice 0 0 (H * Z) (H * Z)), (6, i64 ((z : Nat) : Int))], [(0, some (.cells (f.map n64) 3))], 1, []⟩) ⟨0, List.replicate (H * Z) 0, (by omega), (by rw [Nat.zero_mul, fldK_0]), rfl, rfl⟩ id ⟨eD rfl rfl, eD rfl rfl, e_ rfl rfl, eD rfl rfl, trivial⟩ ⟨rD (mapD (fun _ => rfl) _) rfl rfl, trivial⟩ rfl rfl rfl rfl (fun _ _ => rfl) ?_
  rintro _ _ ⟨z, f, hi0_0, hi0_1, rfl, rfl⟩
  refine W_seq rfl ?_
  refine W_seq rfl ?_
  refine W_reg rfl ?_
  refine Rv rfl rfl rfl (U_move rfl) rfl rfl ?_
  refine Rv rfl rfl rfl (U_fieldAddrR rfl) rfl rfl ?_
  refine Rv rfl rfl rfl (U_load1 rfl rfl rfl) rfl rfl ?_
  refine Rv rfl rfl rfl (U_lss rfl rfl) rfl rfl ?_
  refine Re rfl ?_
  refine thenQ_n ?_
  refine WcondP rfl rfl (fun hc0 => ?_) (fun hc0 => ?_)
  · have hcz : z < Z := by omega
    refine W_skip rfl ?_
    refine thenQ_n ?_
    refine W_seq rfl ?_
    refine W_block rfl ?_
    refine W_seq rfl ?_
    refine W_reg rfl ?_
    refine Rv rfl rfl rfl (U_assign rfl) rfl rfl ?_
    refine Re rfl ?_
    refine thenQ_n ?_
    refine W_block rfl ?_
    refine LoopTo (T' := [(1, i64 ((a : Nat) : Int)), (2, .rop [i64 ((H : Nat) : Int), i64 ((Z : Nat) : Int), .ros (ls.map boxesL) ls.length c] 0), (5, .slice 0 0 (H * Z) (H * Z)), (6, i64 ((z : Nat) : Int)), (7, i64 ((0 : Nat) : Int))]) (H' := [(0, some (.cells (f.map n64) 3))]) (n := 1) rfl (fun mz_ qz_ => ∃ (h : Nat) (f2 : List Nat), h ≤ H ∧ f2 = fldK Z H ls[a] (z * H + h) ∧ mz_ = H - h ∧ qz_ = ⟨[(1, i64 ((a : Nat) : Int)), (2, .rop [i64 ((H : Nat) : Int), i64 ((Z : Nat) : Int), .ros (ls.map boxesL) ls.length c] 0), (5, .slice 0 0 (H * Z) (H * Z)), (6, i64 ((z : Nat) : Int)), (7, i64 ((h : Nat) : Int))], [(0, some (.cells (f2.map n64) 3))], 1, []⟩) ⟨0, f, (by omega), (by rw [hi0_1]; rfl), rfl, rfl⟩ id ⟨eD rfl rfl, eD rfl rfl, e_ rfl rfl, eD rfl rfl, eD rfl rfl, trivial⟩ ⟨rD (mapD (fun _ => rfl) _) rfl rfl, trivial⟩ rfl rfl rfl rfl (fun _ _ => rfl) ?_
    rintro _ _ ⟨h, f2, hi1_0, hi1_1, rfl, rfl⟩
    have hfl : f2.length = Z * H := by rw [hi1_1, fldK_len]
    refine W_seq rfl ?_
    refine W_seq rfl ?_
    refine W_reg rfl ?_
    refine Rv rfl rfl rfl (U_move rfl) rfl rfl ?_
    refine Rv rfl rfl rfl (U_fieldAddrR rfl) rfl rfl ?_
    refine Rv rfl rfl rfl (U_load1 rfl rfl rfl) rfl rfl ?_
    refine Rv rfl rfl rfl (U_lss rfl rfl) rfl rfl ?_
    refine Re rfl ?_
    refine thenQ_n ?_
    refine WcondP rfl rfl (fun hc1 => ?_) (fun hc1 => ?_)
    · have hch : h < H := by omega
      have hzh := zh_lt hcz hch
      refine W_skip rfl ?_
      refine thenQ_n ?_
      refine W_seq rfl ?_
      refine W_block rfl ?_
      refine W_seq rfl ?_
      refine W_reg rfl ?_
      refine Rv rfl rfl rfl (U_load3 rfl rfl rfl rfl rfl) rfl rfl ?_
      refine Rv rfl rfl rfl (U_move rfl) rfl rfl ?_
      refine Rv rfl rfl rfl (U_move rfl) rfl rfl ?_
      refine Rv rfl rfl rfl (U_move rfl) rfl rfl ?_
      refine Rv rfl rfl rfl (U_call rfl rfl (inR_p H Z ls c hv a z h (by omega) (by omega)) rfl) rfl rfl ?_
      refine Re rfl ?_
      refine thenQ_n ?_
      refine Wcond rfl rfl (fun hc2 => ?_) (fun hc2 => ?_)
      · refine W_reg rfl ?_
        refine Rv rfl rfl rfl (U_move rfl) rfl rfl ?_
        refine Rv rfl rfl rfl (U_move rfl) rfl rfl ?_
        refine Rv rfl rfl rfl (U_fieldAddrR rfl) rfl rfl ?_
        refine Rv rfl rfl rfl (U_load1 rfl rfl rfl) rfl rfl ?_
        refine Rv rfl rfl rfl (U_mul rfl rfl (w64e (m := ((z * H : Nat) : Int)) (by omega) (by omega) (by omega))) rfl rfl ?_
        refine Rv rfl rfl rfl (U_move rfl) rfl rfl ?_
        refine Rv rfl rfl rfl (U_add rfl rfl (w64e (m := ((z * H + h : Nat) : Int)) (by omega) (by omega) (by omega))) rfl rfl ?_
        have hx1 : (z * H + h) < f2.length := by omega
        refine Rv rfl rfl rfl (U_indexS (j := (z * H + h)) rfl rfl rfl (by omega)) rfl rfl ?_
        refine Rn rfl rfl rfl (U_store (n := 1) (cs' := (f2.set (z * H + h) 1).map n64) rfl rfl rfl rfl rfl (stLt hx1) rfl setM) rfl ?_
        refine Re rfl ?_
        refine blkQ_n ?_
        refine thenQ_n ?_
        refine W_reg rfl ?_
        refine Rv rfl rfl rfl (U_move rfl) rfl rfl ?_
        refine Rv rfl rfl rfl (U_add rfl rfl (w64e (m := ((h + 1 : Nat) : Int)) (by omega) (by omega) (by omega))) rfl rfl ?_
        refine Rv rfl rfl rfl (U_assign rfl) rfl rfl ?_
        refine Re rfl ?_
        refine thenQ_n ?_
        exact againTo (T' := [(1, i64 ((a : Nat) : Int)), (2, .rop [i64 ((H : Nat) : Int), i64 ((Z : Nat) : Int), .ros (ls.map boxesL) ls.length c] 0), (5, .slice 0 0 (H * Z) (H * Z)), (6, i64 ((z : Nat) : Int)), (7, i64 (((h + 1) : Nat) : Int))]) (H' := [(0, some (.cells ((f2.set (z * H + h) 1).map n64) 3))]) (n := 1) (H - (h + 1)) ⟨h + 1, f2.set (z * H + h) 1, (by omega), (by first | (rw [hi1_1]; exact fldK_t (by omega) (by omega) hc2) | (rw [hi1_1]; exact fldK_f (by omega) (by omega) (by simpa using hc2))), rfl, rfl⟩ (by omega) id ⟨eD rfl rfl, eD rfl rfl, e_ rfl rfl, eD rfl rfl, eD rfl rfl, trivial⟩ ⟨rD (mapD (fun _ => rfl) _) rfl rfl, trivial⟩ rfl rfl rfl rfl (fun _ _ => rfl)
      · have hc2' := Bool.eq_false_iff.1 hc2
        refine W_skip rfl ?_
        refine blkQ_n ?_
        refine thenQ_n ?_
        refine W_reg rfl ?_
        refine Rv rfl rfl rfl (U_move rfl) rfl rfl ?_
        refine Rv rfl rfl rfl (U_add rfl rfl (w64e (m := ((h + 1 : Nat) : Int)) (by omega) (by omega) (by omega))) rfl rfl ?_
        refine Rv rfl rfl rfl (U_assign rfl) rfl rfl ?_
        refine Re rfl ?_
        refine thenQ_n ?_
        exact againTo (T' := [(1, i64 ((a : Nat) : Int)), (2, .rop [i64 ((H : Nat) : Int), i64 ((Z : Nat) : Int), .ros (ls.map boxesL) ls.length c] 0), (5, .slice 0 0 (H * Z) (H * Z)), (6, i64 ((z : Nat) : Int)), (7, i64 (((h + 1) : Nat) : Int))]) (H' := [(0, some (.cells (f2.map n64) 3))]) (n := 1) (H - (h + 1)) ⟨h + 1, f2, (by omega), (by first | (rw [hi1_1]; exact fldK_t (by omega) (by omega) hc2) | (rw [hi1_1]; exact fldK_f (by omega) (by omega) (by simpa using hc2))), rfl, rfl⟩ (by omega) id ⟨eD rfl rfl, eD rfl rfl, e_ rfl rfl, eD rfl rfl, eD rfl rfl, trivial⟩ ⟨rD (mapD (fun _ => rfl) _) rfl rfl, trivial⟩ rfl rfl rfl rfl (fun _ _ => rfl)
    · refine W_exit rfl ?_
      refine thenQ_x ?_
      refine thenQ_x ?_
      refine blkQ_x rfl ?_
      refine blkQ_n ?_
      refine thenQ_n ?_
      refine W_reg rfl ?_
      refine Rv rfl rfl rfl (U_move rfl) rfl rfl ?_
      refine Rv rfl rfl rfl (U_add rfl rfl (w64e (m := ((z + 1 : Nat) : Int)) (by omega) (by omega) (by omega))) rfl rfl ?_
      refine Rv rfl rfl rfl (U_assign rfl) rfl rfl ?_
      refine Re rfl ?_
      refine thenQ_n ?_
      exact againTo (T' := [(1, i64 ((a : Nat) : Int)), (2, .rop [i64 ((H : Nat) : Int), i64 ((Z : Nat) : Int), .ros (ls.map boxesL) ls.length c] 0), (5, .slice 0 0 (H * Z) (H * Z)), (6, i64 (((z + 1) : Nat) : Int))]) (H' := [(0, some (.cells (f2.map n64) 3))]) (n := 1) (Z - (z + 1)) ⟨z + 1, f2, (by omega), (by rw [hi1_1, show h = H by omega, Nat.succ_mul]), rfl, rfl⟩ (by omega) id ⟨eD rfl rfl, eD rfl rfl, e_ rfl rfl, eD rfl rfl, trivial⟩ ⟨rD (mapD (fun _ => rfl) _) rfl rfl, trivial⟩ rfl rfl rfl rfl (fun _ _ => rfl)
  · refine W_exit rfl ?_
    refine thenQ_x ?_
    refine thenQ_x ?_
    refine blkQ_x rfl ?_
    refine thenQ_n ?_
    refine W_seq rfl ?_
    refine W_reg rfl ?_
    refine Rv rfl rfl rfl (U_move rfl) rfl rfl ?_
    refine Rv rfl rfl rfl (U_assign rfl) rfl rfl ?_
    refine Re rfl ?_
    refine thenQ_n ?_
    refine W_ret rfl ?_
    have hfq : f = fldQ Z H ls[a] := by rw [hi0_1, fldK_all (by rw [show z = Z by omega]; exact Nat.le_refl _)]
    subst hfq
    exact retTo (T' := [(4, .slice 0 0 (H * Z) (H * Z))]) id ⟨e_ rfl rfl, trivial⟩ ⟨rD (mapD (fun _ => rfl) _) rfl rfl, trivial⟩ rfl rfl (fun _ _ => rfl) (rlT rfl rl0) rfl
section
variable {Z H : Nat} {la : List Bx} {S : List (Nat × Nat)}
def fT (Z H : Nat) (la : List Bx) (S : List (Nat × Nat)) : List Nat := (List.range (Z * H)).map fun i => if S.contains (i / H, i % H) = true then 2 else bitQ la H (i / H) (i % H)
theorem fT_len : (fT Z H la S).length = Z * H := by simp [fT]
theorem fT_nil : fT Z H la [] = fldQ Z H la := List.map_congr_left fun i _ => if_neg (by simp)
theorem fT_get {i : Nat} (hi : i < (fT Z H la S).length) : (fT Z H la S)[i] = if S.contains (i / H, i % H) = true then 2 else bitQ la H (i / H) (i % H) := by simp [fT]
theorem fT_one {i : Nat} (hi : i < (fT Z H la S).length) : (fT Z H la S)[i] = 1 ↔ inL' la H (i / H) (i % H) = true ∧ S.contains (i / H, i % H) = false := by
  rw [fT_get hi]
  split
  · rename_i h; rw [h]; simp
  · rename_i h
    have h := Bool.eq_false_iff.2 h
    rcases bitQ_if (l := la) (H := H) (z := i / H) (x := i % H) with ⟨h1, h2⟩ | ⟨h1, h2⟩
    · rw [h1]; simp only [h2, h, and_self]
    · rw [h1]; simp [h2]
theorem num_dm {q : Nat × Nat} (hq : q.2 < H) : (num H q / H, num H q % H) = q := by
  unfold num; rw [(zh_div hq).1, (zh_div hq).2]
theorem dm_num {i : Nat} : num H (i / H, i % H) = i := by unfold num; simp only; rw [Nat.mul_comm]; exact Nat.div_add_mod i H
theorem num_lt {q : Nat × Nat} (hq : q.1 < Z ∧ q.2 < H) : num H q < Z * H := zh_lt hq.1 hq.2
theorem fT_set {i : Nat} (hi : i < Z * H) : (fT Z H la S).set i 2 = fT Z H la (S ++ [(i / H, i % H)]) := by
  apply List.ext_getElem (by simp [fT])
  intro j h1 h2
  rw [List.getElem_set, fT_get h2]
  by_cases e : i = j
  · subst e; rw [if_pos rfl, if_pos (by simp)]
  · rw [if_neg e, fT_get (by simpa using h1)]
    have : (S ++ [(i / H, i % H)]).contains (j / H, j % H) = S.contains (j / H, j % H) := by
      have hn : ¬ (j / H, j % H) = (i / H, i % H) := fun h => e (by rw [← dm_num (H := H) (i := i), ← dm_num (H := H) (i := j), h])
      rw [Bool.eq_iff_iff]; simp only [List.contains_eq_mem, List.mem_append, List.mem_singleton, hn, or_false]
    rw [this]
theorem bsN_num {q : Nat × Nat} (hq : q.2 < H) : bsN Z H (num H q) = (bsP Z H q.1 q.2).map (num H) := by
  have h := num_dm hq
  have e1 := congrArg Prod.fst h
  have e2 := congrArg Prod.snd h
  simp only at e1 e2
  unfold bsN
  rw [e1, e2]; rfl
end
theorem pieRf_e (s : Sk) (c : Option Nat) (hl : s.ls.length ≤ 1000000) (hbl : ∀ l ∈ s.ls, l.length ≤ 1000000) (a : Int) (hE : opS s [a] ≠ 0) : Pure Try.prog 30 [.agg [i64 s.h, i64 s.z, landsA s.ls c], i64 a] (.tup [i64 0, i64 (opS s [a])]) := by
  refine pure_of_body Try.func30 (c := body Try.f30) rfl (by simp [Try.ntmps30]) fun w0 Φ0 => ?_
  refine W_seq rfl ?_
  refine W_reg rfl ?_
  refine Rv rfl rfl rfl (U_boxF rfl rfl rfl) rfl rfl ?_
  refine Rv rfl rfl rfl (U_assign rfl) rfl rfl ?_
  refine Rv rfl rfl rfl (U_assign rfl) rfl rfl ?_
  refine Re rfl ?_
  refine thenQ_n ?_
  refine W_seq rfl ?_
  refine W_seq rfl ?_
  refine W_reg rfl ?_
  refine Rv rfl rfl rfl (U_load3 rfl rfl rfl rfl rfl) rfl rfl ?_
  refine Rv rfl rfl rfl (U_move rfl) rfl rfl ?_
  refine Rv rfl rfl rfl (U_call rfl rfl (landed_p s c hl hbl a) rfl) rfl rfl ?_
  refine Rv rfl rfl rfl (U_neq rfl rfl) rfl rfl ?_
  refine Re rfl ?_
  refine thenQ_n ?_
  refine WcondP rfl rfl (fun hc0 => ?_) (fun hc0 => absurd (hE) hc0)
  refine W_seq rfl ?_
  refine W_reg rfl ?_
  refine Rv rfl rfl rfl (U_load3 rfl rfl rfl rfl rfl) rfl rfl ?_
  refine Rv rfl rfl rfl (U_move rfl) rfl rfl ?_
  refine Rv rfl rfl rfl (U_call rfl rfl (landed_p s c hl hbl a) rfl) rfl rfl ?_
  refine Rv rfl rfl rfl (U_assign rfl) rfl rfl ?_
  refine Rv rfl rfl rfl (U_assign rfl) rfl rfl ?_
  refine Re rfl ?_
  refine thenQ_n ?_
  refine W_ret rfl ?_
  refine thenQ_r ?_
  exact retL (rlT rfl (rlT rfl rl0)) rfl rfl
theorem pieRf_g (H Z : Nat) (ls : List (List Bx)) (c : Option Nat) (hc : chkS ⟨H, Z, ls⟩ = 0) (hv : VS ⟨H, Z, ls⟩ H Z) (a : Nat) (ha : a < ls.length) : Pure Try.prog 30 [.agg [i64 (H : Nat), i64 (Z : Nat), landsA ls c], i64 (a : Nat)] (.tup [i64 ((pieQ Z H ls[a] : Nat) : Int), i64 0]) := by
  have hv' := hv
  obtain ⟨_, _, hH, hZ1, hln, hlb, hbx⟩ := hv'
  simp only at hln hlb hbx
  have hZ := hZ1.2
  have hHZ : Z * H ≤ 1152 := Nat.mul_le_mul hZ hH.2
  have hHZc : H * Z = Z * H := Nat.mul_comm _ _
  have hfl : (fldQ Z H ls[a]).length = Z * H := fldQ_len
  refine pure_of_body Try.func30 (c := body Try.f30) rfl (by simp [Try.ntmps30]) fun w0 Φ0 => ?_
  refine W_seq rfl ?_
  refine W_reg rfl ?_
  refine Rv rfl rfl rfl (U_boxF rfl rfl rfl) rfl rfl ?_
  refine Rv rfl rfl rfl (U_assign rfl) rfl rfl ?_
  refine Rv rfl rfl rfl (U_assign rfl) rfl rfl ?_
  refine Re rfl ?_
  refine thenQ_n ?_
  refine W_seq rfl ?_
  refine W_seq rfl ?_
  refine W_reg rfl ?_
  refine Rv rfl rfl rfl (U_load3 rfl rfl rfl rfl rfl) rfl rfl ?_
  refine Rv rfl rfl rfl (U_move rfl) rfl rfl ?_
  refine Rv rfl rfl rfl (U_call rfl rfl (landedG_p H Z ls c hc hv ((a : Nat) : Int) (by omega)) rfl) rfl rfl ?_
  refine Rv rfl rfl rfl (U_neq rfl rfl) rfl rfl ?_
  refine Re rfl ?_
  refine thenQ_n ?_
  refine WcondP rfl rfl (fun h => absurd h (by decide)) (fun _ => ?_)
  refine W_skip rfl ?_
  refine thenQ_n ?_
  refine W_seq rfl ?_
  refine W_reg rfl ?_
  refine Rv rfl rfl rfl (U_load3 rfl rfl rfl rfl rfl) rfl rfl ?_
  refine Rv rfl rfl rfl (U_move rfl) rfl rfl ?_
  refine Ra rfl rfl rfl (U_callT (mapN []) rfl rfl (fieldM_p H Z ls c hv a (by omega)) rfl rfl trivial rfl rfl) rfl rfl rfl ?_
  refine Rto (T' := [(2, .rop [i64 ((H : Nat) : Int), i64 ((Z : Nat) : Int), .ros (ls.map boxesL) ls.length c] 0), (22, .slice 0 0 (H * Z) (H * Z))]) (H' := [(0, some (.cells ((fldQ Z H ls[a]).map n64) 3))]) (n := 1) id ⟨eD rfl rfl, e_ rfl rfl, trivial⟩ ⟨rMD (mapD (fun _ => rfl) _) rfl rfl, trivial⟩ rfl rfl rfl rfl (fun _ _ => rfl) ?_
  refine Rv rfl rfl rfl (U_assign rfl) rfl rfl ?_
  refine Re rfl ?_
  refine thenQ_n ?_
  refine W_seq rfl ?_
  refine W_reg rfl ?_
  refine Rv rfl rfl rfl (U_assign rfl) rfl rfl ?_
  refine Re rfl ?_
  refine thenQ_n ?_
  refine W_seq rfl ?_
  refine W_seq rfl ?_
  refine W_reg rfl ?_
  refine Rv rfl rfl rfl (U_assign rfl) rfl rfl ?_
  refine Re rfl ?_
  refine thenQ_n ?_
  refine W_block rfl ?_
  refine LoopTo (T' := [(2, .rop [i64 ((H : Nat) : Int), i64 ((Z : Nat) : Int), .ros (ls.map boxesL) ls.length c] 0), (6, .slice 0 0 (H * Z) (H * Z)), (7, i64 ((0 : Nat) : Int)), (8, i64 ((0 : Nat) : Int))]) (H' := [(0, some (.cells ((fldQ Z H ls[a]).map n64) 3))]) (n := 1) rfl (fun mz_ qz_ => ∃ (i : Nat) (F : List Nat) (n : Nat), i ≤ H * Z ∧ F = fT Z H ls[a] (pieK Z H ls[a] i).1 ∧ n = (pieK Z H ls[a] i).2 ∧ mz_ = H * Z - i ∧ qz_ = ⟨[(2, .rop [i64 ((H : Nat) : Int), i64 ((Z : Nat) : Int), .ros (ls.map boxesL) ls.length c] 0), (6, .slice 0 0 (H * Z) (H * Z)), (7, i64 ((n : Nat) : Int)), (8, i64 ((i : Nat) : Int))], [(0, some (.cells (F.map n64) 3))], 1, []⟩) ⟨0, fldQ Z H ls[a], 0, (by omega), fT_nil.symm, rfl, rfl, rfl⟩ id ⟨eD rfl rfl, e_ rfl rfl, eD rfl rfl, eD rfl rfl, trivial⟩ ⟨rD (mapD (fun _ => rfl) _) rfl rfl, trivial⟩ rfl rfl rfl rfl (fun _ _ => rfl) ?_
  rintro _ _ ⟨i, F, n, hi0_0, hi0_1, hi0_2, rfl, rfl⟩
  have hpk := pieK_ok (Z := Z) (H := H) (la := ls[a]) i
  have hpl := pieK_le (Z := Z) (H := H) (la := ls[a]) i
  have hpL := hpk.len
  have hFl : F.length = Z * H := by rw [hi0_1, fT_len]
  refine W_seq rfl ?_
  refine W_seq rfl ?_
  refine W_reg rfl ?_
  refine Rv rfl rfl rfl (U_move rfl) rfl rfl ?_
  refine Rv rfl rfl rfl (U_move rfl) rfl rfl ?_
  refine Rv rfl rfl rfl (U_lenOf rfl len_slice) rfl rfl ?_
  refine Rv rfl rfl rfl (U_lss rfl rfl) rfl rfl ?_
  refine Re rfl ?_
  refine thenQ_n ?_
  refine WcondP rfl rfl (fun hc1 => ?_) (fun hc1 => ?_)
  · have hci : i < Z * H := by omega
    have hpi : i < (plcQ Z H).length := by rw [plcQ_len]; exact hci
    have hpz := plcQ_in (List.getElem_mem hpi)
    rw [plcQ_at hpi] at hpz
    have hci2 : i < (fT Z H ls[a] (pieK Z H ls[a] i).1).length := by rw [fT_len]; exact hci
    have hFi : F[i] = (fT Z H ls[a] (pieK Z H ls[a] i).1)[i] := by simp only [hi0_1]
    obtain ⟨K0, hK0⟩ : ∃ K0, K0 = (pieK Z H ls[a] i).1.length := ⟨_, rfl⟩
    refine W_skip rfl ?_
    refine thenQ_n ?_
    refine W_seq rfl ?_
    refine W_block rfl ?_
    refine W_seq rfl ?_
    refine W_seq rfl ?_
    refine W_reg rfl ?_
    refine Rv rfl rfl rfl (U_move rfl) rfl rfl ?_
    refine Rv rfl rfl rfl (U_move rfl) rfl rfl ?_
    have hx1 : i < F.length := by omega
    refine Rv rfl rfl rfl (U_indexS (j := i) rfl rfl rfl (by omega)) rfl rfl ?_
    refine Rv rfl rfl rfl (U_load1 rfl rfl (getM0 hx1)) rfl rfl ?_
    refine Rv rfl rfl rfl (U_neq rfl rfl) rfl rfl ?_
    refine Re rfl ?_
    refine thenQ_n ?_
    refine WcondP rfl rfl (fun hc2 => ?_) (fun hc2 => ?_)
    · have hpk1 := pieK_f (la := ls[a]) hpi (by rw [plcQ_at hpi]; intro h9; have := (fT_one hci2).2 h9; omega)
      have hF : F = fT Z H ls[a] (pieK Z H ls[a] (i + 1)).1 := by rw [hpk1]; exact hi0_1
      have hn : n = (pieK Z H ls[a] (i + 1)).2 := by rw [hpk1]; exact hi0_2
      refine W_exit rfl ?_
      refine thenQ_x ?_
      refine blkQ_x rfl ?_
      refine thenQ_n ?_
      refine W_reg rfl ?_
      refine Rv rfl rfl rfl (U_move rfl) rfl rfl ?_
      refine Rv rfl rfl rfl (U_add rfl rfl (w64e (m := ((i + 1 : Nat) : Int)) (by omega) (by omega) (by omega))) rfl rfl ?_
      refine Rv rfl rfl rfl (U_assign rfl) rfl rfl ?_
      refine Re rfl ?_
      refine thenQ_n ?_
      exact againTo (T' := [(2, .rop [i64 ((H : Nat) : Int), i64 ((Z : Nat) : Int), .ros (ls.map boxesL) ls.length c] 0), (6, .slice 0 0 (H * Z) (H * Z)), (7, i64 ((n : Nat) : Int)), (8, i64 (((i + 1) : Nat) : Int))]) (H' := [(0, some (.cells (F.map n64) 3))]) (n := 1) (H * Z - (i + 1)) ⟨i + 1, F, n, (by omega), hF, hn, rfl, rfl⟩ (by omega) id ⟨eD rfl rfl, e_ rfl rfl, eD rfl rfl, eD rfl rfl, trivial⟩ ⟨rD (mapD (fun _ => rfl) _) rfl rfl, trivial⟩ rfl rfl rfl rfl (fun _ _ => rfl)
    · rw [Decidable.not_not] at hc2
      have hin := (fT_one hci2).1 (by omega)
      refine W_skip rfl ?_
      refine thenQ_n ?_
      refine W_seq rfl ?_
      refine W_reg rfl ?_
      refine Rv rfl rfl rfl (U_move rfl) rfl rfl ?_
      refine Rv rfl rfl rfl (U_add rfl rfl (w64e (m := ((n + 1 : Nat) : Int)) (by omega) (by omega) (by omega))) rfl rfl ?_
      refine Rv rfl rfl rfl (U_assign rfl) rfl rfl ?_
      refine Re rfl ?_
      refine thenQ_n ?_
      refine W_seq rfl ?_
      refine W_reg rfl ?_
      refine Rv rfl rfl rfl (U_move rfl) rfl rfl ?_
      refine Rv rfl rfl rfl (U_move rfl) rfl rfl ?_
      refine Rv rfl rfl rfl (U_indexS (j := i) rfl rfl rfl (by omega)) rfl rfl ?_
      refine Rn rfl rfl rfl (U_store (n := 1) (cs' := (F.set i 2).map n64) rfl rfl rfl rfl rfl (stLt hx1) rfl setM) rfl ?_
      refine Re rfl ?_
      refine thenQ_n ?_
      refine W_seq rfl ?_
      refine W_reg rfl ?_
      refine Rv rfl rfl rfl (U_move rfl) rfl rfl ?_
      refine Ra rfl rfl rfl (U_buildSliceQ (by rfl) (by decide) rfl rfl rfl) rfl rfl rfl ?_
      refine Rv rfl rfl rfl (U_assign rfl) rfl rfl ?_
      refine Re rfl ?_
      refine thenQ_n ?_
      refine W_seq rfl ?_
      refine W_reg rfl ?_
      refine Rv rfl rfl rfl (U_assign rfl) rfl rfl ?_
      refine Re rfl ?_
      refine thenQ_n ?_
      refine W_block rfl ?_
      refine LoopTo (T' := [(2, .rop [i64 ((H : Nat) : Int), i64 ((Z : Nat) : Int), .ros (ls.map boxesL) ls.length c] 0), (6, .slice 0 0 (H * Z) (H * Z)), (7, i64 ((n + 1 : Nat) : Int)), (8, i64 ((i : Nat) : Int)), (9, .sliceo 1 0 [i].length 1), (10, i64 ((0 : Nat) : Int))]) (H' := [(0, some (.cells ((F.set i 2).map n64) 3)), (1, some (.cells ([i].map n64) 3))]) (n := 2) rfl (fun mz_ qz_ => ∃ (S : List (Nat × Nat)) (k : Nat) (f : Nat) (W : List Nat) (F1 : List Nat), PcOk Z H S ∧ runQ Z H ls[a] f S (K0 + k) = runQ Z H ls[a] (Z * H) ((pieK Z H ls[a] i).1 ++ [(i / H, i % H)]) (pieK Z H ls[a] i).1.length ∧ k + f = Z * H ∧ W = (S.drop K0).map (num H) ∧ F1 = fT Z H ls[a] S ∧ K0 ≤ S.length ∧ mz_ = 0 + f ∧ qz_ = ⟨[(2, .rop [i64 ((H : Nat) : Int), i64 ((Z : Nat) : Int), .ros (ls.map boxesL) ls.length c] 0), (6, .slice 0 0 (H * Z) (H * Z)), (7, i64 ((n + 1 : Nat) : Int)), (8, i64 ((i : Nat) : Int)), (9, .sliceo 1 0 W.length 1), (10, i64 ((k : Nat) : Int))], [(0, some (.cells (F1.map n64) 3)), (1, some (.cells (W.map n64) 3))], 2, []⟩) ⟨(pieK Z H ls[a] i).1 ++ [(i / H, i % H)], 0, Z * H, [i], F.set i 2, (hpk.snoc hpz hin.2), (by rw [hK0]; rfl), (by omega), (by simp [hK0, dm_num]), (by rw [hi0_1, fT_set hci]), (by simp; omega), rfl, rfl⟩ id ⟨eD rfl rfl, e_ rfl rfl, eD rfl rfl, eD rfl rfl, e_ rfl rfl, eD rfl rfl, trivial⟩ ⟨rD (mapD (fun _ => rfl) _) rfl rfl, rD (mapD (fun _ => rfl) _) rfl rfl, trivial⟩ rfl rfl rfl rfl (fun _ _ => rfl) ?_
      rintro _ _ ⟨S, k, f, W, F1, hi1_0, hi1_1, hi1_2, hi1_3, hi1_4, hi1_5, rfl, rfl⟩
      have hKl := hi1_0.len
      have hFl1 : F1.length = Z * H := by rw [hi1_4, fT_len]
      have hWl : W.length = S.length - K0 := by rw [hi1_3, List.length_map, List.length_drop]
      refine W_seq rfl ?_
      refine W_seq rfl ?_
      refine W_reg rfl ?_
      refine Rv rfl rfl rfl (U_move rfl) rfl rfl ?_
      refine Rv rfl rfl rfl (U_move rfl) rfl rfl ?_
      refine Rv rfl rfl rfl (U_lenOf rfl len_sliceo) rfl rfl ?_
      refine Rv rfl rfl rfl (U_lss rfl rfl) rfl rfl ?_
      refine Re rfl ?_
      refine thenQ_n ?_
      refine WcondP rfl rfl (fun hc3 => ?_) (fun hc3 => ?_)
      · have hk : K0 + k < S.length := by omega
        have hWk : W[k] = num H S[K0 + k] := by simp [hi1_3]
        have hwz := hi1_0.pl _ (List.getElem_mem hk)
        have hbs := bsP_len (Z := Z) (H := H) (z := S[K0 + k].1) (h := S[K0 + k].2)
        have hbn : (bsN Z H W[k]) = (bsP Z H S[K0 + k].1 S[K0 + k].2).map (num H) := by rw [hWk, bsN_num hwz.2]
        have hbl : (bsN Z H W[k]).length = (bsP Z H S[K0 + k].1 S[K0 + k].2).length := by rw [hbn, List.length_map]
        have hWz : W[k] < Z * H := by rw [hWk]; exact num_lt hwz
        refine W_skip rfl ?_
        refine thenQ_n ?_
        refine W_seq rfl ?_
        refine W_block rfl ?_
        refine W_seq rfl ?_
        refine Wdraw rfl (by kernel_rfl) (by kernel_rfl) ?_
        refine Dv rfl rfl rfl (U_load3 rfl rfl rfl rfl rfl) rfl rfl ?_
        refine Dv rfl rfl rfl (U_move rfl) rfl rfl ?_
        refine Dv rfl rfl rfl (U_move rfl) rfl rfl ?_
        have hx2 : k < W.length := by omega
        refine Dv rfl rfl rfl (U_indexSo (j := k) rfl rfl rfl (by omega)) rfl rfl ?_
        refine Dv rfl rfl rfl (U_load1 rfl rfl (getM0 hx2)) rfl rfl ?_
        refine Dv rfl rfl rfl (U_call rfl rfl (besideR_p H Z ls c hv W[k] (by omega)) rfl) rfl rfl ?_
        refine Dv rfl rfl rfl (U_assign rfl) rfl rfl ?_
        refine Dr.nil rfl ?_
        refine thenQ_n ?_
        refine W_seq rfl ?_
        refine W_reg rfl ?_
        refine Rv rfl rfl rfl (U_assign rfl) rfl rfl ?_
        refine Re rfl ?_
        refine thenQ_n ?_
        refine W_block rfl ?_
        refine LoopTo (T' := [(2, .rop [i64 ((H : Nat) : Int), i64 ((Z : Nat) : Int), .ros (ls.map boxesL) ls.length c] 0), (6, .slice 0 0 (H * Z) (H * Z)), (7, i64 ((n + 1 : Nat) : Int)), (8, i64 ((i : Nat) : Int)), (9, .sliceo 1 0 W.length 1), (10, i64 ((k : Nat) : Int)), (11, .ros ((bsN Z H W[k]).map n64) ((bsN Z H W[k]).length) none), (12, i64 ((0 : Nat) : Int))]) (H' := [(0, some (.cells (F1.map n64) 3)), (1, some (.cells (W.map n64) 3))]) (n := 2) rfl (fun mz_ qz_ => ∃ (j : Nat) (S2 : List (Nat × Nat)) (W2 : List Nat) (F2 : List Nat), j ≤ (bsN Z H W[k]).length ∧ S2 = ((bsP Z H S[K0 + k].1 S[K0 + k].2).take j).foldl (addQ H ls[a]) S ∧ W2 = (S2.drop K0).map (num H) ∧ F2 = fT Z H ls[a] S2 ∧ PcOk Z H S2 ∧ S.length ≤ S2.length ∧ mz_ = (bsN Z H W[k]).length - j ∧ qz_ = ⟨[(2, .rop [i64 ((H : Nat) : Int), i64 ((Z : Nat) : Int), .ros (ls.map boxesL) ls.length c] 0), (6, .slice 0 0 (H * Z) (H * Z)), (7, i64 ((n + 1 : Nat) : Int)), (8, i64 ((i : Nat) : Int)), (9, .sliceo 1 0 W2.length 1), (10, i64 ((k : Nat) : Int)), (11, .ros ((bsN Z H W[k]).map n64) ((bsN Z H W[k]).length) none), (12, i64 ((j : Nat) : Int))], [(0, some (.cells (F2.map n64) 3)), (1, some (.cells (W2.map n64) 3))], 2, []⟩) ⟨0, S, W, F1, (by omega), rfl, hi1_3, hi1_4, hi1_0, (Nat.le_refl _), rfl, rfl⟩ id ⟨eD rfl rfl, e_ rfl rfl, eD rfl rfl, eD rfl rfl, e_ rfl rfl, eD rfl rfl, eD rfl rfl, eD rfl rfl, trivial⟩ ⟨rD (mapD (fun _ => rfl) _) rfl rfl, rD (mapD (fun _ => rfl) _) rfl rfl, trivial⟩ rfl rfl rfl rfl (fun _ _ => rfl) ?_
        rintro _ _ ⟨j, S2, W2, F2, hi2_0, hi2_1, hi2_2, hi2_3, hi2_4, hi2_5, rfl, rfl⟩
        have hFl2 : F2.length = Z * H := by rw [hi2_3, fT_len]
        have hKl2 := hi2_4.len
        have hWl2 : W2.length = S2.length - K0 := by rw [hi2_2, List.length_map, List.length_drop]
        refine W_seq rfl ?_
        refine W_seq rfl ?_
        refine W_reg rfl ?_
        refine Rv rfl rfl rfl (U_move rfl) rfl rfl ?_
        refine Rv rfl rfl rfl (U_move rfl) rfl rfl ?_
        refine Rv rfl rfl rfl (U_lenOf rfl len_ros) rfl rfl ?_
        refine Rv rfl rfl rfl (U_lss rfl rfl) rfl rfl ?_
        refine Re rfl ?_
        refine thenQ_n ?_
        refine WcondP rfl rfl (fun hc4 => ?_) (fun hc4 => ?_)
        · have hck : j < (bsN Z H W[k]).length := by omega
          have hck2 : j < (bsP Z H S[K0 + k].1 S[K0 + k].2).length := by omega
          have hqz := bsP_in hwz.1 hwz.2 _ (List.getElem_mem hck2)
          have hqn : (bsN Z H W[k])[j] = num H (bsP Z H S[K0 + k].1 S[K0 + k].2)[j] := by simp [hbn]
          have hql : (bsN Z H W[k])[j] < Z * H := by rw [hqn]; exact num_lt hqz
          have hqd : ((bsN Z H W[k])[j] / H, (bsN Z H W[k])[j] % H) = (bsP Z H S[K0 + k].1 S[K0 + k].2)[j] := by rw [hqn, num_dm hqz.2]
          obtain ⟨S3, hS3⟩ : ∃ S3, S3 = addQ H ls[a] S2 (bsP Z H S[K0 + k].1 S[K0 + k].2)[j] := ⟨_, rfl⟩
          have hL2 : S.length ≤ S3.length := by rw [hS3]; exact Nat.le_trans hi2_5 addQ_le
          have hql2 : (bsN Z H W[k])[j] < (fT Z H ls[a] S2).length := by rw [fT_len]; exact hql
          have hF2q : F2[(bsN Z H W[k])[j]] = (fT Z H ls[a] S2)[(bsN Z H W[k])[j]] := by simp only [hi2_3]
          refine W_skip rfl ?_
          refine thenQ_n ?_
          refine W_seq rfl ?_
          refine W_block rfl ?_
          refine W_seq rfl ?_
          refine W_reg rfl ?_
          refine Rv rfl rfl rfl (U_move rfl) rfl rfl ?_
          refine Rv rfl rfl rfl (U_move rfl) rfl rfl ?_
          refine Rv rfl rfl rfl (U_move rfl) rfl rfl ?_
          have hx3 : j < (bsN Z H W[k]).length := by omega
          refine Rv rfl rfl rfl (U_indexR (j := j) rfl rfl rfl hx3) rfl rfl ?_
          refine Rv rfl rfl rfl (U_load1 rfl rfl (getM hx3)) rfl rfl ?_
          have hx4 : ((bsN Z H W[k])[j]) < F2.length := by omega
          refine Rv rfl rfl rfl (U_indexS (j := ((bsN Z H W[k])[j])) rfl rfl rfl (by omega)) rfl rfl ?_
          refine Rv rfl rfl rfl (U_load1 rfl rfl (getM0 hx4)) rfl rfl ?_
          refine Rv rfl rfl rfl (U_eql rfl rfl) rfl rfl ?_
          refine Re rfl ?_
          refine thenQ_n ?_
          refine WcondP rfl rfl (fun hc5 => ?_) (fun hc5 => ?_)
          · have hin3 := (fT_one hql2).1 (by omega)
            rw [hqd] at hin3
            have hadd : S3 = S2 ++ [(bsP Z H S[K0 + k].1 S[K0 + k].2)[j]] := hS3.trans (if_pos ⟨by have h8 := hin3.1; have h9 := congrArg Prod.fst hqd; have h10 := congrArg Prod.snd hqd; simp only at h9 h10; rw [← h9, ← h10]; exact h8, hin3.2⟩)
            have hW2 : W2 ++ [(bsN Z H W[k])[j]] = (S3.drop K0).map (num H) := by rw [hadd, hi2_2, List.drop_append_of_le_length (by omega), List.map_append, hqn]; rfl
            have hF2 : F2.set (bsN Z H W[k])[j] 2 = fT Z H ls[a] S3 := by rw [hi2_3, fT_set hql, hqd, hadd]
            have hK2 : PcOk Z H S3 := by rw [hadd]; exact hi2_4.snoc hqz hin3.2
            refine W_seq rfl ?_
            refine W_reg rfl ?_
            refine Rv rfl rfl rfl (U_move rfl) rfl rfl ?_
            refine Rv rfl rfl rfl (U_move rfl) rfl rfl ?_
            refine Rv rfl rfl rfl (U_move rfl) rfl rfl ?_
            refine Rv rfl rfl rfl (U_indexR (j := j) rfl rfl rfl hx3) rfl rfl ?_
            refine Rv rfl rfl rfl (U_load1 rfl rfl (getM hx3)) rfl rfl ?_
            refine Rv rfl rfl rfl (U_indexS (j := ((bsN Z H W[k])[j])) rfl rfl rfl (by omega)) rfl rfl ?_
            refine Rn rfl rfl rfl (U_store (n := 1) (cs' := (F2.set ((bsN Z H W[k])[j]) 2).map n64) rfl rfl rfl rfl rfl (stLt hx4) rfl setM) rfl ?_
            refine Re rfl ?_
            refine thenQ_n ?_
            refine W_reg rfl ?_
            refine Rv rfl rfl rfl (U_move rfl) rfl rfl ?_
            refine Rv rfl rfl rfl (U_move rfl) rfl rfl ?_
            refine Rv rfl rfl rfl (U_move rfl) rfl rfl ?_
            refine Rv rfl rfl rfl (U_indexR (j := j) rfl rfl rfl hx3) rfl rfl ?_
            refine Rv rfl rfl rfl (U_load1 rfl rfl (getM hx3)) rfl rfl ?_
            refine Rv rfl rfl rfl (U_buildSliceF (by rfl) (by decide) rfl rfl rfl) rfl rfl ?_
            refine Ra rfl rfl rfl (U_appQ (b := 1) (m := 1) (cs' := (W2 ++ [(bsN Z H W[k])[j]]).map n64) (n' := (W2 ++ [(bsN Z H W[k])[j]]).length) (by simp) rfl rfl rfl (map_len1 _) rfl rfl (by omega) (appM _ _)) rfl rfl rfl ?_
            refine Rv rfl rfl rfl (U_assign rfl) rfl rfl ?_
            refine Re rfl ?_
            refine blkQ_n ?_
            refine thenQ_n ?_
            refine W_reg rfl ?_
            refine Rv rfl rfl rfl (U_move rfl) rfl rfl ?_
            refine Rv rfl rfl rfl (U_add rfl rfl (w64e (m := ((j + 1 : Nat) : Int)) (by omega) (by omega) (by omega))) rfl rfl ?_
            refine Rv rfl rfl rfl (U_assign rfl) rfl rfl ?_
            refine Re rfl ?_
            refine thenQ_n ?_
            exact againTo (T' := [(2, .rop [i64 ((H : Nat) : Int), i64 ((Z : Nat) : Int), .ros (ls.map boxesL) ls.length c] 0), (6, .slice 0 0 (H * Z) (H * Z)), (7, i64 ((n + 1 : Nat) : Int)), (8, i64 ((i : Nat) : Int)), (9, .sliceo 1 0 (W2 ++ [(bsN Z H W[k])[j]]).length 1), (10, i64 ((k : Nat) : Int)), (11, .ros ((bsN Z H W[k]).map n64) ((bsN Z H W[k]).length) none), (12, i64 (((j + 1) : Nat) : Int))]) (H' := [(0, some (.cells ((F2.set ((bsN Z H W[k])[j]) 2).map n64) 3)), (1, some (.cells ((W2 ++ [(bsN Z H W[k])[j]]).map n64) 3))]) (n := 2) ((bsN Z H W[k]).length - (j + 1)) ⟨j + 1, S3, W2 ++ [(bsN Z H W[k])[j]], F2.set ((bsN Z H W[k])[j]) 2, (by omega), (by rw [fold_snoc hck2, ← hi2_1]; exact hS3), hW2, hF2, hK2, hL2, rfl, rfl⟩ (by omega) (mapN [0, 2]) ⟨eD rfl rfl, e_ rfl rfl, eD rfl rfl, eD rfl rfl, e_ rfl rfl, eD rfl rfl, eD rfl rfl, eD rfl rfl, trivial⟩ ⟨rD (mapD (fun _ => rfl) _) rfl rfl, rD (mapD (fun _ => rfl) _) rfl rfl, trivial⟩ rfl rfl rfl rfl (fun _ h => absurd h (Nat.not_lt_zero _))
          · have hadd : S3 = S2 := hS3.trans (if_neg fun h9 => hc5 (by have := (fT_one hql2).2 (by have h11 := congrArg Prod.fst hqd; have h10 := congrArg Prod.snd hqd; simp only at h11 h10; rw [h11, h10]; exact h9); omega))
            have hW2 : W2 = (S3.drop K0).map (num H) := by rw [hadd]; exact hi2_2
            have hF2 : F2 = fT Z H ls[a] S3 := by rw [hadd]; exact hi2_3
            have hK2 : PcOk Z H S3 := by rw [hadd]; exact hi2_4
            refine W_skip rfl ?_
            refine blkQ_n ?_
            refine thenQ_n ?_
            refine W_reg rfl ?_
            refine Rv rfl rfl rfl (U_move rfl) rfl rfl ?_
            refine Rv rfl rfl rfl (U_add rfl rfl (w64e (m := ((j + 1 : Nat) : Int)) (by omega) (by omega) (by omega))) rfl rfl ?_
            refine Rv rfl rfl rfl (U_assign rfl) rfl rfl ?_
            refine Re rfl ?_
            refine thenQ_n ?_
            exact againTo (T' := [(2, .rop [i64 ((H : Nat) : Int), i64 ((Z : Nat) : Int), .ros (ls.map boxesL) ls.length c] 0), (6, .slice 0 0 (H * Z) (H * Z)), (7, i64 ((n + 1 : Nat) : Int)), (8, i64 ((i : Nat) : Int)), (9, .sliceo 1 0 W2.length 1), (10, i64 ((k : Nat) : Int)), (11, .ros ((bsN Z H W[k]).map n64) ((bsN Z H W[k]).length) none), (12, i64 (((j + 1) : Nat) : Int))]) (H' := [(0, some (.cells (F2.map n64) 3)), (1, some (.cells (W2.map n64) 3))]) (n := 2) ((bsN Z H W[k]).length - (j + 1)) ⟨j + 1, S3, W2, F2, (by omega), (by rw [fold_snoc hck2, ← hi2_1]; exact hS3), hW2, hF2, hK2, hL2, rfl, rfl⟩ (by omega) id ⟨eD rfl rfl, e_ rfl rfl, eD rfl rfl, eD rfl rfl, e_ rfl rfl, eD rfl rfl, eD rfl rfl, eD rfl rfl, trivial⟩ ⟨rD (mapD (fun _ => rfl) _) rfl rfl, rD (mapD (fun _ => rfl) _) rfl rfl, trivial⟩ rfl rfl rfl rfl (fun _ _ => rfl)
        · have hS2 : S2 = expQ Z H ls[a] S S[K0 + k] := by rw [hi2_1, List.take_of_length_le (by omega)]; rfl
          have hstep : runQ Z H ls[a] (f - 1) S2 (K0 + (k + 1)) = runQ Z H ls[a] (Z * H) ((pieK Z H ls[a] i).1 ++ [(i / H, i % H)]) (pieK Z H ls[a] i).1.length := by rw [hS2, ← hi1_1]; obtain ⟨f', rfl⟩ : ∃ f', f = f' + 1 := ⟨f - 1, by omega⟩; exact (runQ_step hk).symm
          refine W_exit rfl ?_
          refine thenQ_x ?_
          refine thenQ_x ?_
          refine blkQ_x rfl ?_
          refine blkQ_n ?_
          refine thenQ_n ?_
          refine W_reg rfl ?_
          refine Rv rfl rfl rfl (U_move rfl) rfl rfl ?_
          refine Rv rfl rfl rfl (U_add rfl rfl (w64e (m := ((k + 1 : Nat) : Int)) (by omega) (by omega) (by omega))) rfl rfl ?_
          refine Rv rfl rfl rfl (U_assign rfl) rfl rfl ?_
          refine Re rfl ?_
          refine thenQ_n ?_
          exact againTo (T' := [(2, .rop [i64 ((H : Nat) : Int), i64 ((Z : Nat) : Int), .ros (ls.map boxesL) ls.length c] 0), (6, .slice 0 0 (H * Z) (H * Z)), (7, i64 ((n + 1 : Nat) : Int)), (8, i64 ((i : Nat) : Int)), (9, .sliceo 1 0 W2.length 1), (10, i64 (((k + 1) : Nat) : Int))]) (H' := [(0, some (.cells (F2.map n64) 3)), (1, some (.cells (W2.map n64) 3))]) (n := 2) (0 + (f - 1)) ⟨S2, k + 1, f - 1, W2, F2, hi2_4, hstep, (by omega), hi2_2, hi2_3, (by omega), rfl, rfl⟩ (by omega) id ⟨eD rfl rfl, e_ rfl rfl, eD rfl rfl, eD rfl rfl, e_ rfl rfl, eD rfl rfl, trivial⟩ ⟨rD (mapD (fun _ => rfl) _) rfl rfl, rD (mapD (fun _ => rfl) _) rfl rfl, trivial⟩ rfl rfl rfl rfl (fun _ _ => rfl)
      · have hpS : (pieK Z H ls[a] (i + 1)).1 = S := by rw [pieK_t hpi (by rw [plcQ_at hpi]; exact hin), plcQ_at hpi, ← hi1_1]; exact runQ_end (by omega)
        have hpi2 : (pieK Z H ls[a] (i + 1)).2 = (pieK Z H ls[a] i).2 + 1 := by rw [pieK_t hpi (by rw [plcQ_at hpi]; exact hin)]
        have hF : F1 = fT Z H ls[a] (pieK Z H ls[a] (i + 1)).1 := by rw [hpS]; exact hi1_4
        have hn : n + 1 = (pieK Z H ls[a] (i + 1)).2 := by rw [hpi2, ← hi0_2]
        refine W_exit rfl ?_
        refine thenQ_x ?_
        refine thenQ_x ?_
        refine blkQ_x rfl ?_
        refine blkQ_n ?_
        refine thenQ_n ?_
        refine W_reg rfl ?_
        refine Rv rfl rfl rfl (U_move rfl) rfl rfl ?_
        refine Rv rfl rfl rfl (U_add rfl rfl (w64e (m := ((i + 1 : Nat) : Int)) (by omega) (by omega) (by omega))) rfl rfl ?_
        refine Rv rfl rfl rfl (U_assign rfl) rfl rfl ?_
        refine Re rfl ?_
        refine thenQ_n ?_
        exact againTo (T' := [(2, .rop [i64 ((H : Nat) : Int), i64 ((Z : Nat) : Int), .ros (ls.map boxesL) ls.length c] 0), (6, .slice 0 0 (H * Z) (H * Z)), (7, i64 (((n + 1) : Nat) : Int)), (8, i64 (((i + 1) : Nat) : Int))]) (H' := [(0, some (.cells (F1.map n64) 3))]) (n := 1) (H * Z - (i + 1)) ⟨i + 1, F1, n + 1, (by omega), hF, hn, rfl, rfl⟩ (by omega) id ⟨eD rfl rfl, e_ rfl rfl, eD rfl rfl, eD rfl rfl, trivial⟩ ⟨rD (mapD (fun _ => rfl) _) rfl rfl, trivial⟩ rfl rfl rfl rfl (fun _ _ => rfl)
  · refine W_exit rfl ?_
    refine thenQ_x ?_
    refine thenQ_x ?_
    refine blkQ_x rfl ?_
    refine thenQ_n ?_
    refine W_seq rfl ?_
    refine W_reg rfl ?_
    refine Rv rfl rfl rfl (U_move rfl) rfl rfl ?_
    refine Rv rfl rfl rfl (U_assign rfl) rfl rfl ?_
    refine Rv rfl rfl rfl (U_assign rfl) rfl rfl ?_
    refine Re rfl ?_
    refine thenQ_n ?_
    refine W_ret rfl ?_
    exact retL (rlT rfl (rlT rfl rl0)) (by first | rfl | (simp only [packA]; rw [hi0_2, show i = (plcQ Z H).length by rw [plcQ_len]; omega]; rfl; first | done | rfl)) rfl
theorem pieRfA_p (s : Sk) (c : Option Nat) (hl : s.ls.length ≤ 1000000) (hbl : ∀ l ∈ s.ls, l.length ≤ 1000000) (a : Int) : Pure Try.prog 30 [.agg [i64 s.h, i64 s.z, landsA s.ls c], i64 a] (.tup [i64 (pieR s a), i64 (opS s [a])]) := by
  by_cases hE : opS s [a] = 0
  · obtain ⟨H, Z, ls, rfl, hc, hv, hin⟩ := opS_ok hE
    obtain ⟨a, rfl, ha⟩ := in1_ok hin
    rw [pieR_g hc ha, hE]
    exact pieRf_g H Z ls c hc hv a ha
  · have e : pieR s a = 0 := if_neg hE
    rw [e]
    exact pieRf_e s c hl hbl a hE
end Go.Proofs.Ythlolelbmhfdbaa
end

section
namespace Go.Proofs.Ythlolelbmhfdbaa
set_option maxRecDepth 20000
open Go.AE
def mostQ (ls : List (List Bx)) : Int := ls.foldl (fun m l => max m (l.length : Int)) 0
theorem mostQ_take {ls : List (List Bx)} {i : Nat} (hi : i < ls.length) : mostQ (ls.take (i + 1)) = max (mostQ (ls.take i)) (ls[i].length : Int) := by
  unfold mostQ; rw [List.take_succ_eq_append_getElem hi, List.foldl_append]; rfl
theorem mostF_ge {ls : List (List Bx)} : ∀ {m : Int}, m ≤ ls.foldl (fun m l => max m (l.length : Int)) m := by
  induction ls with
  | nil => intro m; exact Int.le_refl m
  | cons a l ih => intro m; exact Int.le_trans (Int.le_max_left m _) ih
theorem mostF_mem {ls : List (List Bx)} : ∀ {m : Int} {l : List Bx}, l ∈ ls → (l.length : Int) ≤ ls.foldl (fun m l => max m (l.length : Int)) m := by
  induction ls with
  | nil => intro m l h; cases h
  | cons a r ih =>
    intro m l h
    cases h with
    | head => exact Int.le_trans (Int.le_max_right m _) mostF_ge
    | tail _ h => exact ih h
theorem mostQ_mem {ls : List (List Bx)} {l : List Bx} (h : l ∈ ls) : (l.length : Int) ≤ mostQ ls := mostF_mem h
def grt (s : Sk) : Bool := decide (14 < s.ls.length) || (decide (610 < mostQ s.ls) || (decide (chkS s = 0) && (decide (120 < s.h * s.z) || decide (30 < mostQ s.ls))))
theorem chkS_hz {s : Sk} (h : chkS s = 0) : 1 ≤ s.h ∧ s.h ≤ 48 ∧ 1 ≤ s.z ∧ s.z ≤ 24 ∧ 1 ≤ s.h * s.z ∧ s.h * s.z ≤ 1152 := by
  obtain ⟨H, Z, e1, e2, hH, hZ, _⟩ := vs_of h
  have := Int.mul_le_mul (show s.h ≤ 48 by omega) (show s.z ≤ 24 by omega) (by omega) (by omega)
  have := Int.mul_pos (show 0 < s.h by omega) (show 0 < s.z by omega)
  omega
theorem grt_ls {s : Sk} (h : grt s = false) : s.ls.length ≤ 1000000 := by
  simp [grt] at h; omega
theorem grt_bl {s : Sk} (h : grt s = false) : ∀ l ∈ s.ls, l.length ≤ 1000000 := by
  intro l hl; have := mostQ_mem hl; simp [grt] at h; omega
theorem bl_most {ls : List (List Bx)} (h : mostQ ls ≤ 610) : ∀ l ∈ ls, l.length ≤ 1000000 := by
  intro l hl; have := mostQ_mem hl; omega
theorem great_p (s : Sk) (c : Option Nat) : Pure Try.prog 16 [.agg [i64 s.h, i64 s.z, landsA s.ls c]] (.bool (grt s)) := by
  refine pure_of_body Try.func16 (c := body Try.f16) rfl (by simp [Try.ntmps16]) fun w0 Φ0 => ?_
  refine W_seq rfl ?_
  refine W_reg rfl ?_
  refine Rv rfl rfl rfl (U_boxF rfl rfl rfl) rfl rfl ?_
  refine Rv rfl rfl rfl (U_assign rfl) rfl rfl ?_
  refine Re rfl ?_
  refine thenQ_n ?_
  refine W_seq rfl ?_
  refine W_seq rfl ?_
  refine W_reg rfl ?_
  refine Rv rfl rfl rfl (U_fieldAddrR rfl) rfl rfl ?_
  refine Rv rfl rfl rfl (U_load1 rfl rfl rfl) rfl rfl ?_
  refine Rv rfl rfl rfl (U_lenOf rfl len_ros) rfl rfl ?_
  refine Rv rfl rfl rfl (U_gtr rfl rfl) rfl rfl ?_
  refine Re rfl ?_
  refine thenQ_n ?_
  refine WcondP rfl rfl (fun hc0 => ?_) (fun hc0 => ?_)
  · refine W_seq rfl ?_
    refine W_reg rfl ?_
    refine Rv rfl rfl rfl (U_assign rfl) rfl rfl ?_
    refine Re rfl ?_
    refine thenQ_n ?_
    refine W_ret rfl ?_
    refine thenQ_r ?_
    exact retL (rlT rfl rl0) (by first | rfl | (exact congrArg AV.bool (by unfold grt; first | (rw [show decide (14 < s.ls.length) = true from decide_eq_true (by omega)]; rfl) | (rw [show decide (14 < s.ls.length) = false from decide_eq_false (by omega), hmq, Bool.false_or])); done)) rfl
  · refine W_skip rfl ?_
    refine thenQ_n ?_
    refine W_seq rfl ?_
    refine W_reg rfl ?_
    refine Rv rfl rfl rfl (U_assign rfl) rfl rfl ?_
    refine Re rfl ?_
    refine thenQ_n ?_
    refine W_seq rfl ?_
    refine W_seq rfl ?_
    refine W_reg rfl ?_
    refine Rv rfl rfl rfl (U_assign rfl) rfl rfl ?_
    refine Re rfl ?_
    refine thenQ_n ?_
    refine W_block rfl ?_
    refine LoopTo (T' := [(1, .rop [i64 s.h, i64 s.z, .ros (s.ls.map boxesL) s.ls.length c] 0), (3, i64 0), (4, i64 ((0 : Nat) : Int))]) (H' := []) (n := 0) rfl (fun mz_ qz_ => ∃ (i : Nat) (m : Int), i ≤ s.ls.length ∧ m = mostQ (s.ls.take i) ∧ mz_ = s.ls.length - i ∧ qz_ = ⟨[(1, .rop [i64 s.h, i64 s.z, .ros (s.ls.map boxesL) s.ls.length c] 0), (3, i64 m), (4, i64 ((i : Nat) : Int))], [], 0, []⟩) ⟨0, 0, (by omega), rfl, rfl, rfl⟩ id ⟨eD rfl rfl, eD rfl rfl, eD rfl rfl, trivial⟩ trivial rfl rfl rfl rfl (fun _ _ => rfl) ?_
    rintro _ _ ⟨i, m, hi0_0, hi0_1, rfl, rfl⟩
    refine W_seq rfl ?_
    refine W_seq rfl ?_
    refine W_reg rfl ?_
    refine Rv rfl rfl rfl (U_move rfl) rfl rfl ?_
    refine Rv rfl rfl rfl (U_fieldAddrR rfl) rfl rfl ?_
    refine Rv rfl rfl rfl (U_load1 rfl rfl rfl) rfl rfl ?_
    refine Rv rfl rfl rfl (U_lenOf rfl len_ros) rfl rfl ?_
    refine Rv rfl rfl rfl (U_lss rfl rfl) rfl rfl ?_
    refine Re rfl ?_
    refine thenQ_n ?_
    refine WcondP rfl rfl (fun hc1 => ?_) (fun hc1 => ?_)
    · refine W_skip rfl ?_
      refine thenQ_n ?_
      refine W_seq rfl ?_
      refine W_block rfl ?_
      refine W_reg rfl ?_
      refine Rv rfl rfl rfl (U_move rfl) rfl rfl ?_
      refine Rv rfl rfl rfl (U_fieldAddrR rfl) rfl rfl ?_
      refine Rv rfl rfl rfl (U_load1 rfl rfl rfl) rfl rfl ?_
      refine Rv rfl rfl rfl (U_move rfl) rfl rfl ?_
      have hx1 : i < s.ls.length := by omega
      refine Rv rfl rfl rfl (U_indexR (j := i) rfl rfl rfl hx1) rfl rfl ?_
      refine Rv rfl rfl rfl (U_load1 rfl rfl (getM hx1)) rfl rfl ?_
      refine Rv rfl rfl rfl (U_lenOf rfl len_ros) rfl rfl ?_
      refine Rv rfl rfl rfl (U_max rfl rfl rfl) rfl rfl ?_
      refine Rv rfl rfl rfl (U_assign rfl) rfl rfl ?_
      refine Re rfl ?_
      refine blkQ_n ?_
      refine thenQ_n ?_
      refine W_reg rfl ?_
      refine Rv rfl rfl rfl (U_move rfl) rfl rfl ?_
      refine Rv rfl rfl rfl (U_add rfl rfl (w64e (m := ((i + 1 : Nat) : Int)) (by omega) (by omega) (by omega))) rfl rfl ?_
      refine Rv rfl rfl rfl (U_assign rfl) rfl rfl ?_
      refine Re rfl ?_
      refine thenQ_n ?_
      exact againTo (T' := [(1, .rop [i64 s.h, i64 s.z, .ros (s.ls.map boxesL) s.ls.length c] 0), (3, i64 (max m ((s.ls[i].length : Nat) : Int))), (4, i64 (((i + 1) : Nat) : Int))]) (H' := []) (n := 0) (s.ls.length - (i + 1)) ⟨i + 1, max m ((s.ls[i].length : Nat) : Int), (by omega), (by rw [mostQ_take (by omega), ← hi0_1]), rfl, rfl⟩ (by omega) id ⟨eD rfl rfl, eD rfl rfl, eD rfl rfl, trivial⟩ trivial rfl rfl rfl rfl (fun _ _ => rfl)
    · have hmq : m = mostQ s.ls := by rw [hi0_1, show i = s.ls.length by omega, List.take_length]
      refine W_exit rfl ?_
      refine thenQ_x ?_
      refine thenQ_x ?_
      refine blkQ_x rfl ?_
      refine thenQ_n ?_
      refine W_seq rfl ?_
      refine Wjoin ⟨[(2, .bool ((decide (610 < m)) || ((decide ((chkS s) = 0)) && ((decide (120 < (s.h * s.z))) || (decide (30 < m))))))], [], 0, []⟩ ?_ ?_
      · refine W_reg rfl ?_
        refine Rv rfl rfl rfl (U_move rfl) rfl rfl ?_
        refine Rv rfl rfl rfl (U_gtr rfl rfl) rfl rfl ?_
        refine Rv rfl rfl rfl (U_move rfl) rfl rfl ?_
        refine Rsplit (t := 26) rfl (fun hg2 => ?_) (fun hg2 => ?_)
        · rw [hg2]
          have hg2' : 610 < m := of_decide_eq_true hg2
          refine Rs rfl rfl rfl rfl rfl ?_
          refine Rs rfl rfl rfl rfl rfl ?_
          refine Rs rfl rfl rfl rfl rfl ?_
          refine Rs rfl rfl rfl rfl rfl ?_
          refine Rs rfl rfl rfl rfl rfl ?_
          refine Rs rfl rfl rfl rfl rfl ?_
          refine Rs rfl rfl rfl rfl rfl ?_
          refine Rs rfl rfl rfl rfl rfl ?_
          refine Rs rfl rfl rfl rfl rfl ?_
          refine Rs rfl rfl rfl rfl rfl ?_
          refine Rs rfl rfl rfl rfl rfl ?_
          refine Rs rfl rfl rfl rfl rfl ?_
          refine Rs rfl rfl rfl rfl rfl ?_
          refine Rs rfl rfl rfl rfl rfl ?_
          refine Rs rfl rfl rfl rfl rfl ?_
          refine Rv rfl rfl rfl (U_pick_t rfl rfl) rfl rfl ?_
          refine Rv rfl rfl rfl (U_assign rfl) rfl rfl ?_
          refine Re rfl ?_
          exact joinTo id ⟨eD rfl rfl, trivial⟩ trivial rfl rfl rfl rfl (fun _ _ => rfl)
        · rw [hg2]
          have hg2' : ¬ (610 < m) := of_decide_eq_false hg2
          have hbl := bl_most (ls := s.ls) (by omega)
          have hl : s.ls.length ≤ 1000000 := by omega
          refine Rv rfl rfl rfl (U_load3 rfl rfl rfl rfl rfl) rfl rfl ?_
          refine Rv rfl rfl rfl (U_call rfl rfl (chkSR_p s c hl hbl) rfl) rfl rfl ?_
          refine Rv rfl rfl rfl (U_eql rfl rfl) rfl rfl ?_
          refine Rv rfl rfl rfl (U_move rfl) rfl rfl ?_
          refine Rsplit (t := 30) rfl (fun hg3 => ?_) (fun hg3 => ?_)
          · rw [hg3]
            have hg3' : (chkS s) = 0 := of_decide_eq_true hg3
            have hhz := chkS_hz hg3'
            refine Rv rfl rfl rfl (U_fieldAddrR rfl) rfl rfl ?_
            refine Rv rfl rfl rfl (U_load1 rfl rfl rfl) rfl rfl ?_
            refine Rv rfl rfl rfl (U_fieldAddrR rfl) rfl rfl ?_
            refine Rv rfl rfl rfl (U_load1 rfl rfl rfl) rfl rfl ?_
            refine Rv rfl rfl rfl (U_mul rfl rfl (w64 (by omega) (by omega))) rfl rfl ?_
            refine Rv rfl rfl rfl (U_gtr rfl rfl) rfl rfl ?_
            refine Rv rfl rfl rfl (U_move rfl) rfl rfl ?_
            refine Rsplit (t := 37) rfl (fun hg4 => ?_) (fun hg4 => ?_)
            · rw [hg4]
              have hg4' : 120 < (s.h * s.z) := of_decide_eq_true hg4
              refine Rs rfl rfl rfl rfl rfl ?_
              refine Rs rfl rfl rfl rfl rfl ?_
              refine Rv rfl rfl rfl (U_pick_t rfl rfl) rfl rfl ?_
              refine Rv rfl rfl rfl (U_pick_t rfl rfl) rfl rfl ?_
              refine Rv rfl rfl rfl (U_pick_f rfl rfl) rfl rfl ?_
              refine Rv rfl rfl rfl (U_assign rfl) rfl rfl ?_
              refine Re rfl ?_
              exact joinTo id ⟨eD rfl rfl, trivial⟩ trivial rfl rfl rfl rfl (fun _ _ => rfl)
            · rw [hg4]
              have hg4' : ¬ (120 < (s.h * s.z)) := of_decide_eq_false hg4
              refine Rv rfl rfl rfl (U_move rfl) rfl rfl ?_
              refine Rv rfl rfl rfl (U_gtr rfl rfl) rfl rfl ?_
              refine Rv rfl rfl rfl (U_pick_f rfl rfl) rfl rfl ?_
              refine Rv rfl rfl rfl (U_pick_t rfl rfl) rfl rfl ?_
              refine Rv rfl rfl rfl (U_pick_f rfl rfl) rfl rfl ?_
              refine Rv rfl rfl rfl (U_assign rfl) rfl rfl ?_
              refine Re rfl ?_
              exact joinTo id ⟨eD rfl rfl, trivial⟩ trivial rfl rfl rfl rfl (fun _ _ => rfl)
          · rw [hg3]
            have hg3' : ¬ ((chkS s) = 0) := of_decide_eq_false hg3
            refine Rs rfl rfl rfl rfl rfl ?_
            refine Rs rfl rfl rfl rfl rfl ?_
            refine Rs rfl rfl rfl rfl rfl ?_
            refine Rs rfl rfl rfl rfl rfl ?_
            refine Rs rfl rfl rfl rfl rfl ?_
            refine Rs rfl rfl rfl rfl rfl ?_
            refine Rs rfl rfl rfl rfl rfl ?_
            refine Rs rfl rfl rfl rfl rfl ?_
            refine Rs rfl rfl rfl rfl rfl ?_
            refine Rs rfl rfl rfl rfl rfl ?_
            refine Rv rfl rfl rfl (U_pick_f rfl rfl) rfl rfl ?_
            refine Rv rfl rfl rfl (U_pick_f rfl rfl) rfl rfl ?_
            refine Rv rfl rfl rfl (U_assign rfl) rfl rfl ?_
            refine Re rfl ?_
            exact joinTo id ⟨eD rfl rfl, trivial⟩ trivial rfl rfl rfl rfl (fun _ _ => rfl)
      refine thenQ_n ?_
      refine W_ret rfl ?_
      exact retL (rlT rfl rl0) (by first | rfl | (exact congrArg AV.bool (by unfold grt; first | (rw [show decide (14 < s.ls.length) = true from decide_eq_true (by omega)]; rfl) | (rw [show decide (14 < s.ls.length) = false from decide_eq_false (by omega), hmq, Bool.false_or])); done)) rfl
theorem intsS_p (a : List Int) (c d : Option Nat) (ha : a.length ≤ 1000000) : Pure Try.prog 24 [intsA a c, intsA a d] (.bool true) := by
  have := ints_p a a c d ha ha; rwa [decide_eq_true rfl] at this
end Go.Proofs.Ythlolelbmhfdbaa
end

section
namespace Go.Proofs.Ythlolelbmhfdbaa
set_option maxRecDepth 20000
open Go.AE
theorem borderSizes_p (s : Sk) (c : Option Nat) (a b : Int) : Pure Try.prog 4 [.agg [i64 s.h, i64 s.z, landsA s.ls c], i64 a, i64 b] (.bool true) := by
  refine pure_of_body Try.func4 (c := body Try.f4) rfl (by simp [Try.ntmps4]) fun w0 Φ0 => ?_
  refine W_seq rfl ?_
  refine W_reg rfl ?_
  refine Rv rfl rfl rfl (U_boxF rfl rfl rfl) rfl rfl ?_
  refine Rv rfl rfl rfl (U_assign rfl) rfl rfl ?_
  refine Re rfl ?_
  refine thenQ_n ?_
  refine W_seq rfl ?_
  refine W_seq rfl ?_
  refine W_reg rfl ?_
  refine Rv rfl rfl rfl (U_load3 rfl rfl rfl rfl rfl) rfl rfl ?_
  refine Rv rfl rfl rfl (U_call rfl rfl (great_p s c) rfl) rfl rfl ?_
  refine Re rfl ?_
  refine thenQ_n ?_
  refine Wcond rfl rfl (fun hc0 => ?_) (fun hc0 => ?_)
  · refine W_seq rfl ?_
    refine W_reg rfl ?_
    refine Rv rfl rfl rfl (U_call rfl rfl (works_p) rfl) rfl rfl ?_
    refine Rv rfl rfl rfl (U_assign rfl) rfl rfl ?_
    refine Re rfl ?_
    refine thenQ_n ?_
    refine W_ret rfl ?_
    refine thenQ_r ?_
    exact retL (rlT rfl rl0) rfl rfl
  · have hc0' := Bool.eq_false_iff.1 hc0
    have hgr : grt s = false := by simpa using hc0
    have hl := grt_ls hgr
    have hbl := grt_bl hgr
    refine W_skip rfl ?_
    refine thenQ_n ?_
    refine W_seq rfl ?_
    refine W_reg rfl ?_
    refine Rv rfl rfl rfl (U_load3 rfl rfl rfl rfl rfl) rfl rfl ?_
    refine Rv rfl rfl rfl (U_move rfl) rfl rfl ?_
    refine Rv rfl rfl rfl (U_call rfl rfl (sizA_p s c (by first | assumption | exact hl) (by first | assumption | exact hbl) a) rfl) rfl rfl ?_
    refine Rv rfl rfl rfl (U_move rfl) rfl rfl ?_
    refine Rv rfl rfl rfl (U_extract rfl rfl) rfl rfl ?_
    refine Rv rfl rfl rfl (U_extract rfl rfl) rfl rfl ?_
    refine Rv rfl rfl rfl (U_assign rfl) rfl rfl ?_
    refine Rv rfl rfl rfl (U_assign rfl) rfl rfl ?_
    refine Re rfl ?_
    refine thenQ_n ?_
    refine W_seq rfl ?_
    refine W_reg rfl ?_
    refine Rv rfl rfl rfl (U_load3 rfl rfl rfl rfl rfl) rfl rfl ?_
    refine Rv rfl rfl rfl (U_move rfl) rfl rfl ?_
    refine Rv rfl rfl rfl (U_call rfl rfl (sizRfA_p s c (by first | assumption | exact hl) (by first | assumption | exact hbl) a) rfl) rfl rfl ?_
    refine Rv rfl rfl rfl (U_move rfl) rfl rfl ?_
    refine Rv rfl rfl rfl (U_extract rfl rfl) rfl rfl ?_
    refine Rv rfl rfl rfl (U_extract rfl rfl) rfl rfl ?_
    refine Rv rfl rfl rfl (U_assign rfl) rfl rfl ?_
    refine Rv rfl rfl rfl (U_assign rfl) rfl rfl ?_
    refine Re rfl ?_
    refine thenQ_n ?_
    refine W_seq rfl ?_
    refine W_reg rfl ?_
    refine Rv rfl rfl rfl (U_load3 rfl rfl rfl rfl rfl) rfl rfl ?_
    refine Rv rfl rfl rfl (U_move rfl) rfl rfl ?_
    refine Rv rfl rfl rfl (U_call rfl rfl (pieA_p s c (by first | assumption | exact hl) (by first | assumption | exact hbl) a) rfl) rfl rfl ?_
    refine Rv rfl rfl rfl (U_move rfl) rfl rfl ?_
    refine Rv rfl rfl rfl (U_extract rfl rfl) rfl rfl ?_
    refine Rv rfl rfl rfl (U_extract rfl rfl) rfl rfl ?_
    refine Rv rfl rfl rfl (U_assign rfl) rfl rfl ?_
    refine Rv rfl rfl rfl (U_assign rfl) rfl rfl ?_
    refine Re rfl ?_
    refine thenQ_n ?_
    refine W_seq rfl ?_
    refine W_reg rfl ?_
    refine Rv rfl rfl rfl (U_load3 rfl rfl rfl rfl rfl) rfl rfl ?_
    refine Rv rfl rfl rfl (U_move rfl) rfl rfl ?_
    refine Rv rfl rfl rfl (U_call rfl rfl (pieRfA_p s c (by first | assumption | exact hl) (by first | assumption | exact hbl) a) rfl) rfl rfl ?_
    refine Rv rfl rfl rfl (U_move rfl) rfl rfl ?_
    refine Rv rfl rfl rfl (U_extract rfl rfl) rfl rfl ?_
    refine Rv rfl rfl rfl (U_extract rfl rfl) rfl rfl ?_
    refine Rv rfl rfl rfl (U_assign rfl) rfl rfl ?_
    refine Rv rfl rfl rfl (U_assign rfl) rfl rfl ?_
    refine Re rfl ?_
    refine thenQ_n ?_
    refine W_seq rfl ?_
    refine W_reg rfl ?_
    refine Rv rfl rfl rfl (U_load3 rfl rfl rfl rfl rfl) rfl rfl ?_
    refine Rv rfl rfl rfl (U_move rfl) rfl rfl ?_
    refine Rv rfl rfl rfl (U_move rfl) rfl rfl ?_
    refine Rv rfl rfl rfl (U_call rfl rfl (brdA_p s c (by first | assumption | exact hl) (by first | assumption | exact hbl) a b) rfl) rfl rfl ?_
    refine Rv rfl rfl rfl (U_move rfl) rfl rfl ?_
    refine Rv rfl rfl rfl (U_extract rfl rfl) rfl rfl ?_
    refine Rv rfl rfl rfl (U_extract rfl rfl) rfl rfl ?_
    refine Rv rfl rfl rfl (U_assign rfl) rfl rfl ?_
    refine Rv rfl rfl rfl (U_assign rfl) rfl rfl ?_
    refine Re rfl ?_
    refine thenQ_n ?_
    refine W_seq rfl ?_
    refine W_reg rfl ?_
    refine Rv rfl rfl rfl (U_load3 rfl rfl rfl rfl rfl) rfl rfl ?_
    refine Rv rfl rfl rfl (U_move rfl) rfl rfl ?_
    refine Rv rfl rfl rfl (U_move rfl) rfl rfl ?_
    refine Rv rfl rfl rfl (U_call rfl rfl (brdRfA_p s c (by first | assumption | exact hl) (by first | assumption | exact hbl) a b) rfl) rfl rfl ?_
    refine Rv rfl rfl rfl (U_move rfl) rfl rfl ?_
    refine Rv rfl rfl rfl (U_extract rfl rfl) rfl rfl ?_
    refine Rv rfl rfl rfl (U_extract rfl rfl) rfl rfl ?_
    refine Rv rfl rfl rfl (U_assign rfl) rfl rfl ?_
    refine Rv rfl rfl rfl (U_assign rfl) rfl rfl ?_
    refine Re rfl ?_
    refine thenQ_n ?_
    refine W_seq rfl ?_
    refine W_reg rfl ?_
    refine Rv rfl rfl rfl (U_load3 rfl rfl rfl rfl rfl) rfl rfl ?_
    refine Rv rfl rfl rfl (U_move rfl) rfl rfl ?_
    refine Rv rfl rfl rfl (U_call rfl rfl (neiA_p s c (by first | assumption | exact hl) (by first | assumption | exact hbl) a) rfl) rfl rfl ?_
    refine Rv rfl rfl rfl (U_move rfl) rfl rfl ?_
    refine Rv rfl rfl rfl (U_extract rfl rfl) rfl rfl ?_
    refine Rv rfl rfl rfl (U_extract rfl rfl) rfl rfl ?_
    refine Rv rfl rfl rfl (U_assign rfl) rfl rfl ?_
    refine Rv rfl rfl rfl (U_assign rfl) rfl rfl ?_
    refine Re rfl ?_
    refine thenQ_n ?_
    refine W_seq rfl ?_
    refine W_reg rfl ?_
    refine Rv rfl rfl rfl (U_load3 rfl rfl rfl rfl rfl) rfl rfl ?_
    refine Rv rfl rfl rfl (U_move rfl) rfl rfl ?_
    refine Rv rfl rfl rfl (U_call rfl rfl (neiRfA_p s c (by first | assumption | exact hl) (by first | assumption | exact hbl) a) rfl) rfl rfl ?_
    refine Rv rfl rfl rfl (U_move rfl) rfl rfl ?_
    refine Rv rfl rfl rfl (U_extract rfl rfl) rfl rfl ?_
    refine Rv rfl rfl rfl (U_extract rfl rfl) rfl rfl ?_
    refine Rv rfl rfl rfl (U_assign rfl) rfl rfl ?_
    refine Rv rfl rfl rfl (U_assign rfl) rfl rfl ?_
    refine Re rfl ?_
    refine thenQ_n ?_
    refine W_seq rfl ?_
    refine W_reg rfl ?_
    refine Rv rfl rfl rfl (U_move rfl) rfl rfl ?_
    refine Rv rfl rfl rfl (U_move rfl) rfl rfl ?_
    refine Rv rfl rfl rfl (U_eqlS rfl rfl) rfl rfl ?_
    refine Rv rfl rfl rfl (U_move rfl) rfl rfl ?_
    refine Rv rfl rfl rfl (U_move rfl) rfl rfl ?_
    refine Rv rfl rfl rfl (U_move rfl) rfl rfl ?_
    refine Rv rfl rfl rfl (U_eqlS rfl rfl) rfl rfl ?_
    refine Rv rfl rfl rfl (U_pick_t rfl rfl) rfl rfl ?_
    refine Rv rfl rfl rfl (U_move rfl) rfl rfl ?_
    refine Rv rfl rfl rfl (U_move rfl) rfl rfl ?_
    refine Rv rfl rfl rfl (U_move rfl) rfl rfl ?_
    refine Rv rfl rfl rfl (U_eqlS rfl rfl) rfl rfl ?_
    refine Rv rfl rfl rfl (U_pick_t rfl rfl) rfl rfl ?_
    refine Rv rfl rfl rfl (U_move rfl) rfl rfl ?_
    refine Rv rfl rfl rfl (U_move rfl) rfl rfl ?_
    refine Rv rfl rfl rfl (U_move rfl) rfl rfl ?_
    refine Rv rfl rfl rfl (U_eqlS rfl rfl) rfl rfl ?_
    refine Rv rfl rfl rfl (U_pick_t rfl rfl) rfl rfl ?_
    refine Rv rfl rfl rfl (U_move rfl) rfl rfl ?_
    refine Rv rfl rfl rfl (U_move rfl) rfl rfl ?_
    refine Rv rfl rfl rfl (U_move rfl) rfl rfl ?_
    refine Rv rfl rfl rfl (U_eqlS rfl rfl) rfl rfl ?_
    refine Rv rfl rfl rfl (U_pick_t rfl rfl) rfl rfl ?_
    refine Rv rfl rfl rfl (U_move rfl) rfl rfl ?_
    refine Rv rfl rfl rfl (U_move rfl) rfl rfl ?_
    refine Rv rfl rfl rfl (U_move rfl) rfl rfl ?_
    refine Rv rfl rfl rfl (U_eqlS rfl rfl) rfl rfl ?_
    refine Rv rfl rfl rfl (U_pick_t rfl rfl) rfl rfl ?_
    refine Rv rfl rfl rfl (U_move rfl) rfl rfl ?_
    refine Rv rfl rfl rfl (U_move rfl) rfl rfl ?_
    refine Rv rfl rfl rfl (U_move rfl) rfl rfl ?_
    refine Rv rfl rfl rfl (U_call rfl rfl (intsS_p (neiR s a) none none (by first | assumption | omega | exact Sz.le | (simp; done) | (simp; omega))) rfl) rfl rfl ?_
    refine Rv rfl rfl rfl (U_pick_t rfl rfl) rfl rfl ?_
    refine Rv rfl rfl rfl (U_move rfl) rfl rfl ?_
    refine Rv rfl rfl rfl (U_move rfl) rfl rfl ?_
    refine Rv rfl rfl rfl (U_move rfl) rfl rfl ?_
    refine Rv rfl rfl rfl (U_eqlS rfl rfl) rfl rfl ?_
    refine Rv rfl rfl rfl (U_pick_t rfl rfl) rfl rfl ?_
    refine Rv rfl rfl rfl (U_move rfl) rfl rfl ?_
    refine Rv rfl rfl rfl (U_call rfl rfl (works_p) rfl) rfl rfl ?_
    refine Rv rfl rfl rfl (U_pick_t rfl rfl) rfl rfl ?_
    refine Rv rfl rfl rfl (U_assign rfl) rfl rfl ?_
    refine Re rfl ?_
    refine thenQ_n ?_
    refine W_ret rfl ?_
    exact retL (rlT rfl rl0) rfl rfl
end Go.Proofs.Ythlolelbmhfdbaa
end
