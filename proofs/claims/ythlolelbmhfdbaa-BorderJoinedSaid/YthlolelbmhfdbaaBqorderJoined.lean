import Derived.IntWalk
import Derived.Test.YthlolelbmhfdbaaM5
set_option linter.all false
section
namespace Go.AE
open Go.RowKit
section
variable {ρ : Env} {Φ : Fz} {w : World}
end
section
variable {C : Ctx} {o : Oper} {T : AT} {H : AH} {nx nx' : Nat} {v : AV} {ups : AH}
end
section ops
variable {C : Ctx} {T : AT} {H : AH} {nx : Nat} {d : Option Tmp} {ty : TypeId} {pos : String} {after : Array Edge} {g : Option (Nat × Bool)}
section num
variable {x y : Operand} {k : IntKind} {a b c : Int} {t t' : TypeId}
theorem U_mul (hx : ev T x = some (.int k a)) (hy : ev T y = some (.int k b)) (hc : k.wrap (a * b) = c) : OpU C ⟨d, .binOp .mul t x y t', ty, pos, after, g⟩ T H nx (.int k c) [] nx :=
  binInt hx hy rfl (by simp) fun w => ⟨.int k c, by simp [binOp, Op.intArith, hc], fun _ _ => mk_int⟩
end num
end ops
end Go.AE
end

section
namespace Go.AE
open Go.RowKit
section
variable {C : Ctx} {ρ : Env} {Φ : Fz} {H : AH} {w : World}
end
section ops
variable {C : Ctx} {T : AT} {H : AH} {nx : Nat} {d : Option Tmp} {ty : TypeId} {pos : String} {after : Array Edge} {g : Option (Nat × Bool)}
theorem U_convInt {s t : TypeId} {x : Operand} {k k' : IntKind} {n m : Int} {dd : TypeDesc} [hT : TyInt C.P t k'] (hs : C.P.underlying s = some dd) (hx : ev T x = some (.int k n)) (hm : k'.wrap n = m) : OpU C ⟨d, .convert s t x, ty, pos, after, g⟩ T H nx (.int k' m) [] nx :=
  OpU.of_value (by intro c; simp) fun ρ Φ a w h2 _ => by
    refine ⟨.int k' m, ?_, mk_int⟩
    simp only [execOp, convert, con_int (ev_con h2 hx), Sem.run_bind, run_underlying hs, run_underlying hT.un, Result.andThen_ok, Conv.intToInt, hm, Sem.run_pure]
end ops
end Go.AE
end

section
namespace Go.AE
open Go.RowKit
section ops
variable {C : Ctx} {T : AT} {H : AH} {nx : Nat} {d : Option Tmp} {ty : TypeId} {pos : String} {after : Array Edge} {g : Option (Nat × Bool)}
end ops
section steps
variable {C : Ctx} {T : AT} {H : AH} {nx : Nat} {df : List Nat} {ops : Array Oper} {i : Nat} {K : St → Prop} {o : Oper} {v : AV} {ups : AH} {nx' t : Nat} {c : Bool}
end steps
section dsteps
variable {C : Ctx} {kl : Oper → Nat} {ops : List Oper} {ms : List Nat} {H0 : AH} {K : AT → AH → Nat → Prop} {i : Nat} {T : AT} {D : List (Nat × AH)} {nx nx' t : Nat} {o : Oper} {v : AV} {ups : AH} {c : Bool}
end dsteps
section codes
variable {C : Ctx} {c : Code} {Q : Exit → St → Prop} {T : AT} {H : AH} {nx : Nat} {df : List Nat}
def light3 (l l3 l4 : List Nat) (o : Oper) : Nat := match o.dst with
  | some d => if l.contains d then 0 else if l3.contains d then 3 else if l4.contains d then 4 else cls o.op
  | none => cls o.op
theorem WdrawN (l l3 l4 : List Nat) (h : c.tag = 2) (hm : C.P.follows .mixedOrders = true) (hck : chk (light3 l l3 l4) c.ops.toList (masks c.ops.toList) = true)
    (k : Dr C (light3 l l3 l4) c.ops.toList (masks c.ops.toList) H (fun T H nx => Q .normal ⟨T, H, nx, df⟩) 0 T [] nx) : WpA C c Q ⟨T, H, nx, df⟩ := W_draw h hm hck k
end codes
section ops
variable {C : Ctx} {T : AT} {H : AH} {nx : Nat} {d : Option Tmp} {ty : TypeId} {pos : String} {after : Array Edge} {g : Option (Nat × Bool)}
end ops
end Go.AE
end

section
namespace Go.AE
open Go.RowKit
mutual
def AV.plain : AV → Bool
  | .bool _ | .int _ _ | .str _ | .nilp | .nils | .nilm | .nilf | .nili => true
  | .agg cs | .tup cs => plainL cs
  | _ => false
def plainL : List AV → Bool
  | [] => true
  | v :: vs => v.plain && plainL vs
end
mutual
theorem Con.plain {ρ ρ' : Env} {Φ Φ' : Fz} {w w' : World} : ∀ (v : AV) {x : Value}, v.plain = true → Con ρ Φ w v x → Con ρ' Φ' w' v x
  | .bool _, _, _, h | .int _ _, _, _, h | .str _, _, _, h | .nilp, _, _, h | .nils, _, _, h | .nilm, _, _, h | .nilf, _, _, h | .nili, _, _, h => by simpa only [Con] using h
  | .ptr _ _, _, d, _ | .slice _ _ _ _, _, d, _ | .sliceo _ _ _ _, _, d, _ | .out _ _ _, _, d, _ | .mapl _, _, d, _ | .yld _, _, d, _ | .rop _ _, _, d, _ | .ros _ _ _, _, d, _ | .rom _, _, d, _ | .fn _ _ _, _, d, _ => by simp [AV.plain] at d
  | .agg cs, _, d, h => by
    have d' : plainL cs = true := by simpa [AV.plain] using d
    simp only [Con] at h ⊢; obtain ⟨xs, h1, h2⟩ := h; exact ⟨xs, ConL.plain cs d' h1, h2⟩
  | .tup cs, _, d, h => by
    have d' : plainL cs = true := by simpa [AV.plain] using d
    simp only [Con] at h ⊢; obtain ⟨xs, h1, h2⟩ := h; exact ⟨xs, ConL.plain cs d' h1, h2⟩
theorem ConL.plain {ρ ρ' : Env} {Φ Φ' : Fz} {w w' : World} : ∀ (vs : List AV) {xs : List Value}, plainL vs = true → ConL ρ Φ w vs xs → ConL ρ' Φ' w' vs xs
  | [], _, _, h => by simpa only [ConL] using h
  | v :: vs, _, d, h => by
    have d' : v.plain = true ∧ plainL vs = true := by simpa [plainL] using d
    obtain ⟨y, ys, rfl, h1, h2⟩ := conL_inv h; exact conL_cons (Con.plain v d'.1 h1) (ConL.plain vs d'.2 h2)
end
section ops
variable {C : Ctx} {T : AT} {H : AH} {nx : Nat} {d : Option Tmp} {ty : TypeId} {pos : String} {after : Array Edge} {g : Option (Nat × Bool)}
theorem U_callB {x : Operand} {args : Array Operand} {ts : Array TypeId} {f : FuncId} {fi ca vs : List AV} {res : AV} {T' : AT} {H' : AH} [hf : FnOk C.P f] (hz : Frz C T H T' H') (hx : ev T' x = some (.fn f fi ca)) (hv : evL T' args.toList = some vs) (hP : Pure C.P f (fi ++ vs ++ ca) res) (hd : dataL (fi ++ vs ++ ca)) (hr : res.plain = true) :
    OpU C ⟨d, .call ⟨.value x, args, ts⟩, ty, pos, after, g⟩ T H nx res [] nx := fun ρ Φ a w h1 h2 h3 K Q k => by
  obtain ⟨Φ2, q1, q2, q3, _⟩ := hz ρ Φ a.tmps w h2 h3
  have hc := ev_con q2 hx
  simp only [Con] at hc
  obtain ⟨xs, ys, e1, e2, e3⟩ := hc
  have e4 := evL_con q2 hv
  have hargs : ConL ρ Φ2 w (fi ++ vs ++ ca) (xs ++ args.toList.map a.eval ++ ys) := conL_append (conL_append e1 e4) e2
  have hcall := hP Φ2 w _ q3.frz (ConL.data _ hd hargs)
  have hrun : (execOp a.eval ⟨d, .call ⟨.value x, args, ts⟩, ty, pos, after, g⟩).run C.P w = .ok (.enter f (xs ++ args.toList.map a.eval ++ ys).toArray) w := by
    simp only [execOp, resolve, e3, Deferred.ofValue, Sem.run_bind, Sem.run_pure, Result.andThen_ok, invoke]
    rw [hf.run]
    simp [← Array.toList_map]
  refine ⟨fun _ _ => trivial, ?_⟩
  rw [Oper.semAt_eq _ _ _ (by intro c; simp), hrun]
  refine ⟨fun _ => by simp_all [Ctx.F, Fence.wide], (callsIn_of 0 hcall).mono ?_⟩
  rintro e w' ⟨y, Φ', rfl, h4, h5, h6, h7, h8⟩
  exact k ρ Φ y w' (Post.later h3 nx h5 Φ.le_refl (fun _ h => .inl h) fun r hr => Nat.lt_of_lt_of_le (h3.frz r hr) h5.size) (Con.plain _ hr h4)
theorem le_out_sliceo {b n z : Nat} (hn : n ≠ 0) : AV.le (.out b n z) (.sliceo b 0 n z) := fun ρ Φ w x h => by
  obtain ⟨m, rfl⟩ := Nat.exists_eq_succ_of_ne_zero hn; exact con_outS.1 h
end ops
section
variable {C : Ctx} {c : Code} {Q : Exit → St → Prop} {T T' : AT} {H H' : AH} {nx n : Nat} {df : List Nat}
end
section
variable {C : Ctx} {c : Code} {Q : Exit → St → Prop} {T T' : AT} {H H' : AH} {nx : Nat} {df : List Nat} {b n z : Nat} {cs : List AV} {t : TypeId}
end
end Go.AE
end

section
namespace Go.AE
open Go.RowKit
section
variable {C : Ctx} {c : Code} {Q : Exit → St → Prop} {T T' : AT} {H H' : AH} {nx : Nat} {df : List Nat} {cs : List AV} {t : TypeId}
end
section ops
variable {C : Ctx} {T : AT} {H : AH} {nx : Nat} {d : Option Tmp} {ty : TypeId} {pos : String} {after : Array Edge} {g : Option (Nat × Bool)}
end ops
theorem setM {α : Type} {g : α → AV} {l : List α} {k : Nat} {x : α} : setC (l.map g) (0 + k * 1) [g x] = (l.set k x).map g := by simp [setC, List.map_set]
end Go.AE
end

section
namespace Go.AE
open Go.RowKit
theorem wr_i64 {n : Int} (h1 : -9223372036854775808 ≤ n) (h2 : n ≤ 9223372036854775807) : IntKind.i64.wrap n = n := w64 h1 h2
section
variable {P : Program} {T : AT} {H : AH} {nx : Nat}
end
section ops
variable {C : Ctx} {T : AT} {H : AH} {nx : Nat} {d : Option Tmp} {ty : TypeId} {pos : String} {after : Array Edge} {g : Option (Nat × Bool)}
end ops
end Go.AE
end

section
namespace Go.AE
open Go.RowKit
section
variable {C : Ctx} {T : AT} {H : AH} {nx : Nat} {d : Option Tmp} {ty : TypeId} {pos : String} {after : Array Edge} {g : Option (Nat × Bool)}
theorem U_app0G {sT xT e e' z z' n : Nat} {x y : Operand} {s v : AV} [hT : TySl C.P sT e z] [hX : TySl C.P xT e' z'] (hx : ev T x = some s) (hy : ev T y = some v) (hs : ∀ ρ Φ w a, Con ρ Φ w s a → ∃ ad k, a = .slice ad n k ∧ n ≤ k) (hv : ∀ ρ Φ w a, Con ρ Φ w v a → ∃ ad k, a = .slice ad 0 k) :
    OpU C ⟨d, .call ⟨.builtin .append, #[x, y], #[sT, xT]⟩, ty, pos, after, g⟩ T H nx s [] nx :=
  OpU.of_value (by intro c; simp) fun ρ Φ a w h3 h4 => by
    obtain ⟨ad, k, e1, hnk⟩ := hs ρ Φ w _ (ev_con h3 hx)
    obtain ⟨ad', k', e4⟩ := hv ρ Φ w _ (ev_con h3 hy)
    refine ⟨a.eval x, ?_, ev_con h3 hx⟩
    have e5' : (Builtin.firstCells z 0 (.slice ad' 0 k')).run C.P w = .ok #[] w := by cases ad' <;> simp [Builtin.firstCells, loadCells, loadCellsFrom]
    have : (Builtin.append_ #[sT, xT] ty #[a.eval x, a.eval y]).run C.P w = .ok (a.eval x) w := by
      rw [e1, e4]
      unfold Builtin.append_
      cases ad with
      | none => simp only [List.getElem?_toArray, List.getElem?_cons_zero, List.getElem?_cons_succ, Sem.run_bind, run_underlying hT.un, run_underlying hX.un, Result.andThen_ok, Sem.run_pure, hT.size, Bool.false_eq_true, if_false, Builtin.lenOf, Nat.add_zero, hnk, if_true, Bool.not_false, e5']
      | some ad => simp only [List.getElem?_toArray, List.getElem?_cons_zero, List.getElem?_cons_succ, Sem.run_bind, run_underlying hT.un, run_underlying hX.un, Result.andThen_ok, Sem.run_pure, hT.size, Bool.false_eq_true, if_false, Builtin.lenOf, Nat.add_zero, hnk, if_true, Bool.not_false, e5', storeCells]
    simp only [execOp, resolve, Sem.run_bind, Sem.run_pure, Result.andThen_ok, invoke, builtin]
    simp [this]
theorem lenk_ros {cs : List AV} {n : Nat} {c : Option Nat} : ∀ (ρ : Env) Φ w y, Con ρ Φ w (.ros cs n c) y → ∃ a k, y = .slice a n k ∧ n ≤ k := fun _ _ _ _ h => by
  simp only [Con] at h; rcases h with ⟨rfl, ⟨_, h⟩, _⟩ | ⟨_, _, _, _, _, h, h2, _⟩
  · exact ⟨_, _, h, Nat.le_refl _⟩
  · exact ⟨_, _, h, h2⟩
theorem len0_ros {cs : List AV} {n : Nat} {c : Option Nat} (hn : n = 0) : ∀ (ρ : Env) Φ w y, Con ρ Φ w (.ros cs n c) y → ∃ a k, y = .slice a 0 k := fun ρ Φ w y h => by
  obtain ⟨a, k, h1, _⟩ := lenk_ros ρ Φ w y h; subst hn; exact ⟨a, k, h1⟩
end
end Go.AE
end

section
namespace Go.AE
open Go.RowKit
section
variable {C : Ctx} {T : AT} {H : AH} {nx : Nat} {d : Option Tmp} {ty : TypeId} {pos : String} {after : Array Edge} {g : Option (Nat × Bool)}
theorem stLt {α : Type} {f : α → AV} {l : List α} {j : Nat} (h : j < l.length) : 0 + j * 1 + 1 ≤ (l.map f).length := by simp; omega
end
end Go.AE
end

section
namespace Go.AE
open Go.RowKit
section
variable {C : Ctx} {T : AT} {H : AH} {nx : Nat} {d : Option Tmp} {ty : TypeId} {pos : String} {after : Array Edge} {g : Option (Nat × Bool)}
theorem U_appL {sT xT e e' z n n' : Nat} {x y : Operand} {s v : AV} {news : List AV} [hT : TySl C.P sT e z] [hX : TySl C.P xT e' z] [hE : TyElem C.P e z] (hx : ev T x = some s) (hs : srcS z H s = some ([], 0)) (hc0 : capOf s = some 0) (hy : ev T y = some v) (h2 : srcS z H v = some (news, n)) (hn : 0 < n) (hlim : n ≤ 1000000) (hn' : n = n') :
    OpU C ⟨d, .call ⟨.builtin .append, #[x, y], #[sT, xT]⟩, ty, pos, after, g⟩ T H nx (.out nx n' z) [(nx, outB news e n')] (nx + 1) := by
  subst hn'
  cases n with
  | zero => cases hn
  | succ m =>
    have h := U_appendGrow (C := C) (T := T) (H := H) (nx := nx) (d := d) (ty := ty) (pos := pos) (after := after) (g := g) (sT := sT) (xT := xT) hx hy hs h2 hc0 (by omega) (by omega)
    rw [Nat.zero_add] at h
    exact OpU.weakV (fun _ _ _ _ h => con_outS.2 h) h
end
end Go.AE
end

section
namespace Go.Proofs.Ythlolelbmhfdbaa
set_option maxRecDepth 20000
open Go.AE
theorem any_false {α : Type} {p : α → Bool} {l : List α} (h : ∀ j (hj : j < l.length), p l[j] = false) : l.any p = false := by
  rw [List.any_eq_false]; intro x hx; obtain ⟨j, hj, rfl⟩ := List.getElem_of_mem hx; rw [h j hj]; simp
end Go.Proofs.Ythlolelbmhfdbaa
end

section
namespace Go.Proofs.Ythlolelbmhfdbaa
set_option maxRecDepth 20000
open Go.AE
theorem any_f {α : Type} {p : α → Bool} {l : List α} (h : ∀ j (hj : j < l.length), p l[j] = false) : l.any p = false := any_false h
theorem bef_succ {α : Type} {p : α → Bool} {l : List α} {k : Nat} (h : ∀ j (hj : j < l.length), j < k → p l[j] = false) (hk : k < l.length) (hp : p l[k] = false) : ∀ j (hj : j < l.length), j < k + 1 → p l[j] = false := fun j hj h2 => by
  rcases Nat.lt_succ_iff_lt_or_eq.1 h2 with h2 | rfl
  · exact h j hj h2
  · exact hp
theorem isBR_p (b : Bx) (H Z : Int) (hH : 1 ≤ H ∧ H ≤ 48) (hZ : 1 ≤ Z ∧ Z ≤ 24) : Pure Try.prog 74 [bxA b, i64 H, i64 Z] (.bool (isB b H Z)) := by
  refine pure_of_body Try.func74 (c := body Try.f74) rfl (by simp [Try.ntmps74]) fun w0 Φ0 => ?_
  refine W_seq rfl ?_
  refine W_reg rfl ?_
  refine Rv rfl rfl rfl (U_boxF rfl rfl rfl) rfl rfl ?_
  refine Rv rfl rfl rfl (U_assign rfl) rfl rfl ?_
  refine Re rfl ?_
  refine thenQ_n ?_
  refine W_seq rfl ?_
  refine W_seq rfl ?_
  refine Wjoin ⟨[(2, i64 Z), (3, .rop [i64 b.fr, i64 b.wd, i64 b.lo, i64 b.hi] 0), (26, .bool ((decide (b.fr < 0)) || ((decide (H ≤ b.fr)) || ((decide (b.wd < 1)) || (decide (H < b.wd))))))], [], 0, []⟩ ?_ ?_
  · refine W_reg rfl ?_
    refine Rv rfl rfl rfl (U_fieldAddrR rfl) rfl rfl ?_
    refine Rv rfl rfl rfl (U_load1 rfl rfl rfl) rfl rfl ?_
    refine Rv rfl rfl rfl (U_lss rfl rfl) rfl rfl ?_
    refine Rv rfl rfl rfl (U_move rfl) rfl rfl ?_
    refine Rsplit (t := 10) rfl (fun hg1 => ?_) (fun hg1 => ?_)
    · rw [hg1]
      have hg1' : b.fr < 0 := of_decide_eq_true hg1
      refine Rs rfl rfl rfl rfl rfl ?_
      refine Rs rfl rfl rfl rfl rfl ?_
      refine Rs rfl rfl rfl rfl rfl ?_
      refine Rs rfl rfl rfl rfl rfl ?_
      refine Rv rfl rfl rfl (U_pick_t rfl rfl) rfl rfl ?_
      refine Rv rfl rfl rfl (U_move rfl) rfl rfl ?_
      refine Rs rfl rfl rfl rfl rfl ?_
      refine Rs rfl rfl rfl rfl rfl ?_
      refine Rs rfl rfl rfl rfl rfl ?_
      refine Rv rfl rfl rfl (U_pick_t rfl rfl) rfl rfl ?_
      refine Rv rfl rfl rfl (U_move rfl) rfl rfl ?_
      refine Rs rfl rfl rfl rfl rfl ?_
      refine Rs rfl rfl rfl rfl rfl ?_
      refine Rs rfl rfl rfl rfl rfl ?_
      refine Rs rfl rfl rfl rfl rfl ?_
      refine Rv rfl rfl rfl (U_pick_t rfl rfl) rfl rfl ?_
      refine Re rfl ?_
      exact joinTo id ⟨eD rfl rfl, eD rfl rfl, eD rfl rfl, trivial⟩ trivial rfl rfl rfl rfl (fun _ _ => rfl)
    · rw [hg1]
      have hg1' : ¬ (b.fr < 0) := of_decide_eq_false hg1
      refine Rv rfl rfl rfl (U_fieldAddrR rfl) rfl rfl ?_
      refine Rv rfl rfl rfl (U_load1 rfl rfl rfl) rfl rfl ?_
      refine Rv rfl rfl rfl (U_move rfl) rfl rfl ?_
      refine Rv rfl rfl rfl (U_geq rfl rfl) rfl rfl ?_
      refine Rv rfl rfl rfl (U_pick_f rfl rfl) rfl rfl ?_
      refine Rv rfl rfl rfl (U_move rfl) rfl rfl ?_
      refine Rsplit (t := 16) rfl (fun hg2 => ?_) (fun hg2 => ?_)
      · rw [hg2]
        have hg2' : H ≤ b.fr := of_decide_eq_true hg2
        refine Rs rfl rfl rfl rfl rfl ?_
        refine Rs rfl rfl rfl rfl rfl ?_
        refine Rs rfl rfl rfl rfl rfl ?_
        refine Rv rfl rfl rfl (U_pick_t rfl rfl) rfl rfl ?_
        refine Rv rfl rfl rfl (U_move rfl) rfl rfl ?_
        refine Rs rfl rfl rfl rfl rfl ?_
        refine Rs rfl rfl rfl rfl rfl ?_
        refine Rs rfl rfl rfl rfl rfl ?_
        refine Rs rfl rfl rfl rfl rfl ?_
        refine Rv rfl rfl rfl (U_pick_t rfl rfl) rfl rfl ?_
        refine Re rfl ?_
        exact joinTo id ⟨eD rfl rfl, eD rfl rfl, eD rfl rfl, trivial⟩ trivial rfl rfl rfl rfl (fun _ _ => rfl)
      · rw [hg2]
        have hg2' : ¬ (H ≤ b.fr) := of_decide_eq_false hg2
        refine Rv rfl rfl rfl (U_fieldAddrR rfl) rfl rfl ?_
        refine Rv rfl rfl rfl (U_load1 rfl rfl rfl) rfl rfl ?_
        refine Rv rfl rfl rfl (U_lss rfl rfl) rfl rfl ?_
        refine Rv rfl rfl rfl (U_pick_f rfl rfl) rfl rfl ?_
        refine Rv rfl rfl rfl (U_move rfl) rfl rfl ?_
        refine Rsplit (t := 21) rfl (fun hg3 => ?_) (fun hg3 => ?_)
        · rw [hg3]
          have hg3' : b.wd < 1 := of_decide_eq_true hg3
          refine Rs rfl rfl rfl rfl rfl ?_
          refine Rs rfl rfl rfl rfl rfl ?_
          refine Rs rfl rfl rfl rfl rfl ?_
          refine Rs rfl rfl rfl rfl rfl ?_
          refine Rv rfl rfl rfl (U_pick_t rfl rfl) rfl rfl ?_
          refine Re rfl ?_
          exact joinTo id ⟨eD rfl rfl, eD rfl rfl, eD rfl rfl, trivial⟩ trivial rfl rfl rfl rfl (fun _ _ => rfl)
        · rw [hg3]
          have hg3' : ¬ (b.wd < 1) := of_decide_eq_false hg3
          refine Rv rfl rfl rfl (U_fieldAddrR rfl) rfl rfl ?_
          refine Rv rfl rfl rfl (U_load1 rfl rfl rfl) rfl rfl ?_
          refine Rv rfl rfl rfl (U_move rfl) rfl rfl ?_
          refine Rv rfl rfl rfl (U_gtr rfl rfl) rfl rfl ?_
          refine Rv rfl rfl rfl (U_pick_f rfl rfl) rfl rfl ?_
          refine Re rfl ?_
          exact joinTo id ⟨eD rfl rfl, eD rfl rfl, eD rfl rfl, trivial⟩ trivial rfl rfl rfl rfl (fun _ _ => rfl)
  refine thenQ_n ?_
  refine Wcond rfl rfl (fun hc0 => ?_) (fun hc0 => ?_)
  · refine W_seq rfl ?_
    refine W_reg rfl ?_
    refine Rv rfl rfl rfl (U_assign rfl) rfl rfl ?_
    refine Re rfl ?_
    refine thenQ_n ?_
    refine W_ret rfl ?_
    refine thenQ_r ?_
    exact retL (rlT rfl rl0) (by first | rfl | (simp only [packA]; congr 1; symm; unfold isB; rw [inL1, inL1, inL1, inL1, Bool.eq_false_iff]; intro h; simp at h hc0; omega; first | done | rfl) | (simp only [packA]; congr 1; unfold isB; rw [inL1, inL1, inL1, inL1, Bool.eq_iff_iff]; simp at hc0 ⊢; omega; first | done | rfl)) rfl
  · have hc0' := Bool.eq_false_iff.1 hc0
    refine W_skip rfl ?_
    refine thenQ_n ?_
    refine W_seq rfl ?_
    refine Wjoin ⟨[(6, .bool ((decide (0 ≤ b.lo)) && ((decide (b.lo < b.hi)) && (decide (b.hi ≤ Z)))))], [], 0, []⟩ ?_ ?_
    · refine W_reg rfl ?_
      refine Rv rfl rfl rfl (U_fieldAddrR rfl) rfl rfl ?_
      refine Rv rfl rfl rfl (U_load1 rfl rfl rfl) rfl rfl ?_
      refine Rv rfl rfl rfl (U_geq rfl rfl) rfl rfl ?_
      refine Rv rfl rfl rfl (U_move rfl) rfl rfl ?_
      refine Rsplit (t := 30) rfl (fun hg4 => ?_) (fun hg4 => ?_)
      · rw [hg4]
        have hg4' : 0 ≤ b.lo := of_decide_eq_true hg4
        refine Rv rfl rfl rfl (U_fieldAddrR rfl) rfl rfl ?_
        refine Rv rfl rfl rfl (U_load1 rfl rfl rfl) rfl rfl ?_
        refine Rv rfl rfl rfl (U_fieldAddrR rfl) rfl rfl ?_
        refine Rv rfl rfl rfl (U_load1 rfl rfl rfl) rfl rfl ?_
        refine Rv rfl rfl rfl (U_lss rfl rfl) rfl rfl ?_
        refine Rv rfl rfl rfl (U_pick_t rfl rfl) rfl rfl ?_
        refine Rv rfl rfl rfl (U_move rfl) rfl rfl ?_
        refine Rsplit (t := 37) rfl (fun hg5 => ?_) (fun hg5 => ?_)
        · rw [hg5]
          have hg5' : b.lo < b.hi := of_decide_eq_true hg5
          refine Rv rfl rfl rfl (U_fieldAddrR rfl) rfl rfl ?_
          refine Rv rfl rfl rfl (U_load1 rfl rfl rfl) rfl rfl ?_
          refine Rv rfl rfl rfl (U_move rfl) rfl rfl ?_
          refine Rv rfl rfl rfl (U_leq rfl rfl) rfl rfl ?_
          refine Rv rfl rfl rfl (U_pick_t rfl rfl) rfl rfl ?_
          refine Rv rfl rfl rfl (U_assign rfl) rfl rfl ?_
          refine Re rfl ?_
          exact joinTo id ⟨eD rfl rfl, trivial⟩ trivial rfl rfl rfl rfl (fun _ _ => rfl)
        · rw [hg5]
          have hg5' : ¬ (b.lo < b.hi) := of_decide_eq_false hg5
          refine Rs rfl rfl rfl rfl rfl ?_
          refine Rs rfl rfl rfl rfl rfl ?_
          refine Rs rfl rfl rfl rfl rfl ?_
          refine Rs rfl rfl rfl rfl rfl ?_
          refine Rv rfl rfl rfl (U_pick_f rfl rfl) rfl rfl ?_
          refine Rv rfl rfl rfl (U_assign rfl) rfl rfl ?_
          refine Re rfl ?_
          exact joinTo id ⟨eD rfl rfl, trivial⟩ trivial rfl rfl rfl rfl (fun _ _ => rfl)
      · rw [hg4]
        have hg4' : ¬ (0 ≤ b.lo) := of_decide_eq_false hg4
        refine Rs rfl rfl rfl rfl rfl ?_
        refine Rs rfl rfl rfl rfl rfl ?_
        refine Rs rfl rfl rfl rfl rfl ?_
        refine Rs rfl rfl rfl rfl rfl ?_
        refine Rs rfl rfl rfl rfl rfl ?_
        refine Rv rfl rfl rfl (U_pick_f rfl rfl) rfl rfl ?_
        refine Rv rfl rfl rfl (U_move rfl) rfl rfl ?_
        refine Rs rfl rfl rfl rfl rfl ?_
        refine Rs rfl rfl rfl rfl rfl ?_
        refine Rs rfl rfl rfl rfl rfl ?_
        refine Rs rfl rfl rfl rfl rfl ?_
        refine Rv rfl rfl rfl (U_pick_f rfl rfl) rfl rfl ?_
        refine Rv rfl rfl rfl (U_assign rfl) rfl rfl ?_
        refine Re rfl ?_
        exact joinTo id ⟨eD rfl rfl, trivial⟩ trivial rfl rfl rfl rfl (fun _ _ => rfl)
    refine thenQ_n ?_
    refine W_ret rfl ?_
    exact retL (rlT rfl rl0) (by first | rfl | (simp only [packA]; congr 1; symm; unfold isB; rw [inL1, inL1, inL1, inL1, Bool.eq_false_iff]; intro h; simp at h hc0; omega; first | done | rfl) | (simp only [packA]; congr 1; unfold isB; rw [inL1, inL1, inL1, inL1, Bool.eq_iff_iff]; simp at hc0 ⊢; omega; first | done | rfl)) rfl
theorem chkSR_p (s : Sk) (c : Option Nat) (hl : s.ls.length ≤ 1000000) (hbl : ∀ l ∈ s.ls, l.length ≤ 1000000) : Pure Try.prog 23 [.agg [i64 s.h, i64 s.z, landsA s.ls c]] (i64 (chkS s)) := by
  refine pure_of_body Try.func23 (c := body Try.f23) rfl (by simp [Try.ntmps23]) fun w0 Φ0 => ?_
  refine W_seq rfl ?_
  refine W_reg rfl ?_
  refine Rv rfl rfl rfl (U_boxF rfl rfl rfl) rfl rfl ?_
  refine Rv rfl rfl rfl (U_assign rfl) rfl rfl ?_
  refine Re rfl ?_
  refine thenQ_n ?_
  refine W_seq rfl ?_
  refine W_seq rfl ?_
  refine Wjoin ⟨[(1, .rop [i64 s.h, i64 s.z, .ros (s.ls.map boxesL) s.ls.length c] 0), (23, .bool ((decide (s.h < 1)) || ((decide (48 < s.h)) || ((decide (s.z < 1)) || (decide (24 < s.z))))))], [], 0, []⟩ ?_ ?_
  · refine W_reg rfl ?_
    refine Rv rfl rfl rfl (U_fieldAddrR rfl) rfl rfl ?_
    refine Rv rfl rfl rfl (U_load1 rfl rfl rfl) rfl rfl ?_
    refine Rv rfl rfl rfl (U_lss rfl rfl) rfl rfl ?_
    refine Rv rfl rfl rfl (U_move rfl) rfl rfl ?_
    refine Rsplit (t := 9) rfl (fun hg1 => ?_) (fun hg1 => ?_)
    · rw [hg1]
      have hg1' : s.h < 1 := of_decide_eq_true hg1
      refine Rs rfl rfl rfl rfl rfl ?_
      refine Rs rfl rfl rfl rfl rfl ?_
      refine Rs rfl rfl rfl rfl rfl ?_
      refine Rv rfl rfl rfl (U_pick_t rfl rfl) rfl rfl ?_
      refine Rv rfl rfl rfl (U_move rfl) rfl rfl ?_
      refine Rs rfl rfl rfl rfl rfl ?_
      refine Rs rfl rfl rfl rfl rfl ?_
      refine Rs rfl rfl rfl rfl rfl ?_
      refine Rv rfl rfl rfl (U_pick_t rfl rfl) rfl rfl ?_
      refine Rv rfl rfl rfl (U_move rfl) rfl rfl ?_
      refine Rs rfl rfl rfl rfl rfl ?_
      refine Rs rfl rfl rfl rfl rfl ?_
      refine Rs rfl rfl rfl rfl rfl ?_
      refine Rv rfl rfl rfl (U_pick_t rfl rfl) rfl rfl ?_
      refine Re rfl ?_
      exact joinTo id ⟨eD rfl rfl, eD rfl rfl, trivial⟩ trivial rfl rfl rfl rfl (fun _ _ => rfl)
    · rw [hg1]
      have hg1' : ¬ (s.h < 1) := of_decide_eq_false hg1
      refine Rv rfl rfl rfl (U_fieldAddrR rfl) rfl rfl ?_
      refine Rv rfl rfl rfl (U_load1 rfl rfl rfl) rfl rfl ?_
      refine Rv rfl rfl rfl (U_gtr rfl rfl) rfl rfl ?_
      refine Rv rfl rfl rfl (U_pick_f rfl rfl) rfl rfl ?_
      refine Rv rfl rfl rfl (U_move rfl) rfl rfl ?_
      refine Rsplit (t := 14) rfl (fun hg2 => ?_) (fun hg2 => ?_)
      · rw [hg2]
        have hg2' : 48 < s.h := of_decide_eq_true hg2
        refine Rs rfl rfl rfl rfl rfl ?_
        refine Rs rfl rfl rfl rfl rfl ?_
        refine Rs rfl rfl rfl rfl rfl ?_
        refine Rv rfl rfl rfl (U_pick_t rfl rfl) rfl rfl ?_
        refine Rv rfl rfl rfl (U_move rfl) rfl rfl ?_
        refine Rs rfl rfl rfl rfl rfl ?_
        refine Rs rfl rfl rfl rfl rfl ?_
        refine Rs rfl rfl rfl rfl rfl ?_
        refine Rv rfl rfl rfl (U_pick_t rfl rfl) rfl rfl ?_
        refine Re rfl ?_
        exact joinTo id ⟨eD rfl rfl, eD rfl rfl, trivial⟩ trivial rfl rfl rfl rfl (fun _ _ => rfl)
      · rw [hg2]
        have hg2' : ¬ (48 < s.h) := of_decide_eq_false hg2
        refine Rv rfl rfl rfl (U_fieldAddrR rfl) rfl rfl ?_
        refine Rv rfl rfl rfl (U_load1 rfl rfl rfl) rfl rfl ?_
        refine Rv rfl rfl rfl (U_lss rfl rfl) rfl rfl ?_
        refine Rv rfl rfl rfl (U_pick_f rfl rfl) rfl rfl ?_
        refine Rv rfl rfl rfl (U_move rfl) rfl rfl ?_
        refine Rsplit (t := 19) rfl (fun hg3 => ?_) (fun hg3 => ?_)
        · rw [hg3]
          have hg3' : s.z < 1 := of_decide_eq_true hg3
          refine Rs rfl rfl rfl rfl rfl ?_
          refine Rs rfl rfl rfl rfl rfl ?_
          refine Rs rfl rfl rfl rfl rfl ?_
          refine Rv rfl rfl rfl (U_pick_t rfl rfl) rfl rfl ?_
          refine Re rfl ?_
          exact joinTo id ⟨eD rfl rfl, eD rfl rfl, trivial⟩ trivial rfl rfl rfl rfl (fun _ _ => rfl)
        · rw [hg3]
          have hg3' : ¬ (s.z < 1) := of_decide_eq_false hg3
          refine Rv rfl rfl rfl (U_fieldAddrR rfl) rfl rfl ?_
          refine Rv rfl rfl rfl (U_load1 rfl rfl rfl) rfl rfl ?_
          refine Rv rfl rfl rfl (U_gtr rfl rfl) rfl rfl ?_
          refine Rv rfl rfl rfl (U_pick_f rfl rfl) rfl rfl ?_
          refine Re rfl ?_
          exact joinTo id ⟨eD rfl rfl, eD rfl rfl, trivial⟩ trivial rfl rfl rfl rfl (fun _ _ => rfl)
  refine thenQ_n ?_
  refine Wcond rfl rfl (fun hc0 => ?_) (fun hc0 => ?_)
  · have hce : chkS s = 3 := by rw [chkS, if_pos (by rw [inL1, inL1]; simp at hc0 ⊢; omega)]
    refine W_seq rfl ?_
    refine W_reg rfl ?_
    refine Rv rfl rfl rfl (U_assign rfl) rfl rfl ?_
    refine Re rfl ?_
    refine thenQ_n ?_
    refine W_ret rfl ?_
    refine thenQ_r ?_
    exact retL (rlT rfl rl0) (by first | rfl | (simp only [packA]; rw [hce]; first | done | rfl)) rfl
  · have hc0' := Bool.eq_false_iff.1 hc0
    have hr : (1 ≤ s.h ∧ s.h ≤ 48) ∧ 1 ≤ s.z ∧ s.z ≤ 24 := by simp at hc0; omega
    obtain ⟨hh, hz⟩ := hr
    refine W_skip rfl ?_
    refine thenQ_n ?_
    refine W_seq rfl ?_
    refine W_seq rfl ?_
    refine W_reg rfl ?_
    refine Rv rfl rfl rfl (U_fieldAddrR rfl) rfl rfl ?_
    refine Rv rfl rfl rfl (U_load1 rfl rfl rfl) rfl rfl ?_
    refine Rv rfl rfl rfl (U_lenOf rfl len_ros) rfl rfl ?_
    refine Rv rfl rfl rfl (U_gtr rfl rfl) rfl rfl ?_
    refine Re rfl ?_
    refine thenQ_n ?_
    refine WcondP rfl rfl (fun hc1 => ?_) (fun hc1 => ?_)
    · have hce : chkS s = 6 := by rw [chkS, if_neg (by rw [inL1, inL1]; simp; omega), if_pos (by simp; omega)]
      refine W_seq rfl ?_
      refine W_reg rfl ?_
      refine Rv rfl rfl rfl (U_assign rfl) rfl rfl ?_
      refine Re rfl ?_
      refine thenQ_n ?_
      refine W_ret rfl ?_
      refine thenQ_r ?_
      exact retL (rlT rfl rl0) (by first | rfl | (simp only [packA]; rw [hce]; first | done | rfl)) rfl
    · refine W_skip rfl ?_
      refine thenQ_n ?_
      refine W_seq rfl ?_
      refine W_seq rfl ?_
      refine W_reg rfl ?_
      refine Rv rfl rfl rfl (U_assign rfl) rfl rfl ?_
      refine Re rfl ?_
      refine thenQ_n ?_
      refine W_block rfl ?_
      refine LoopTo (T' := [(1, .rop [i64 s.h, i64 s.z, .ros (s.ls.map boxesL) s.ls.length c] 0), (3, i64 ((0 : Nat) : Int))]) (H' := []) (n := 0) rfl (fun mz_ qz_ => ∃ (k : Nat), k ≤ s.ls.length ∧ (∀ j (hj : j < s.ls.length), j < k → decide ((600 : Int) < ((s.ls[j].length : Nat) : Int)) = false) ∧ mz_ = s.ls.length - k ∧ qz_ = ⟨[(1, .rop [i64 s.h, i64 s.z, .ros (s.ls.map boxesL) s.ls.length c] 0), (3, i64 ((k : Nat) : Int))], [], 0, []⟩) ⟨0, (by omega), (fun j hj h => absurd h (Nat.not_lt_zero _)), rfl, rfl⟩ id ⟨eD rfl rfl, eD rfl rfl, trivial⟩ trivial rfl rfl rfl rfl (fun _ _ => rfl) ?_
      rintro _ _ ⟨k, hi0_0, hi0_1, rfl, rfl⟩
      refine W_seq rfl ?_
      refine W_seq rfl ?_
      refine W_reg rfl ?_
      refine Rv rfl rfl rfl (U_move rfl) rfl rfl ?_
      refine Rv rfl rfl rfl (U_fieldAddrR rfl) rfl rfl ?_
      refine Rv rfl rfl rfl (U_load1 rfl rfl rfl) rfl rfl ?_
      refine Rv rfl rfl rfl (U_lenOf rfl len_ros) rfl rfl ?_
      refine Rv rfl rfl rfl (U_lss rfl rfl) rfl rfl ?_
      refine Re rfl ?_
      refine thenQ_n ?_
      refine WcondP rfl rfl (fun hc2 => ?_) (fun hc2 => ?_)
      · have hck : k < s.ls.length := by omega
        refine W_skip rfl ?_
        refine thenQ_n ?_
        refine W_seq rfl ?_
        refine W_block rfl ?_
        refine W_seq rfl ?_
        refine W_reg rfl ?_
        refine Rv rfl rfl rfl (U_fieldAddrR rfl) rfl rfl ?_
        refine Rv rfl rfl rfl (U_load1 rfl rfl rfl) rfl rfl ?_
        refine Rv rfl rfl rfl (U_move rfl) rfl rfl ?_
        have hx4 : k < s.ls.length := by omega
        refine Rv rfl rfl rfl (U_indexR (j := k) rfl rfl rfl hx4) rfl rfl ?_
        refine Rv rfl rfl rfl (U_load1 rfl rfl (getM hx4)) rfl rfl ?_
        refine Rv rfl rfl rfl (U_lenOf rfl len_ros) rfl rfl ?_
        refine Rv rfl rfl rfl (U_gtr rfl rfl) rfl rfl ?_
        refine Re rfl ?_
        refine thenQ_n ?_
        refine WcondP rfl rfl (fun hc3 => ?_) (fun hc3 => ?_)
        · have h600 : (s.ls.any fun l => decide ((600 : Int) < ((l.length : Nat) : Int))) = true := any_true hck (by simpa using hc3)
          have hce : chkS s = 6 := by rw [chkS, if_neg (by rw [inL1, inL1]; simp; omega), if_pos (by rw [h600]; simp)]
          refine W_seq rfl ?_
          refine W_reg rfl ?_
          refine Rv rfl rfl rfl (U_assign rfl) rfl rfl ?_
          refine Re rfl ?_
          refine thenQ_n ?_
          refine W_ret rfl ?_
          refine blkQ_r ?_
          refine thenQ_r ?_
          refine thenQ_r ?_
          refine blkQ_r ?_
          refine thenQ_r ?_
          exact retL (rlT rfl rl0) (by first | rfl | (simp only [packA]; rw [hce]; first | done | rfl)) rfl
        · refine W_skip rfl ?_
          refine blkQ_n ?_
          refine thenQ_n ?_
          refine W_reg rfl ?_
          refine Rv rfl rfl rfl (U_move rfl) rfl rfl ?_
          refine Rv rfl rfl rfl (U_add rfl rfl (w64e (m := ((k + 1 : Nat) : Int)) (by omega) (by omega) (by omega))) rfl rfl ?_
          refine Rv rfl rfl rfl (U_assign rfl) rfl rfl ?_
          refine Re rfl ?_
          refine thenQ_n ?_
          exact againTo (T' := [(1, .rop [i64 s.h, i64 s.z, .ros (s.ls.map boxesL) s.ls.length c] 0), (3, i64 (((k + 1) : Nat) : Int))]) (H' := []) (n := 0) (s.ls.length - (k + 1)) ⟨k + 1, (by omega), (bef_succ (p := fun l : List Bx => decide ((600 : Int) < ((l.length : Nat) : Int))) hi0_1 hck (by simp; omega)), rfl, rfl⟩ (by omega) id ⟨eD rfl rfl, eD rfl rfl, trivial⟩ trivial rfl rfl rfl rfl (fun _ _ => rfl)
      · have h600 : (s.ls.any fun l => decide ((600 : Int) < ((l.length : Nat) : Int))) = false := any_f fun j hj => hi0_1 j hj (by omega)
        refine W_exit rfl ?_
        refine thenQ_x ?_
        refine thenQ_x ?_
        refine blkQ_x rfl ?_
        refine thenQ_n ?_
        refine W_seq rfl ?_
        refine W_seq rfl ?_
        refine W_reg rfl ?_
        refine Rv rfl rfl rfl (U_assign rfl) rfl rfl ?_
        refine Re rfl ?_
        refine thenQ_n ?_
        refine W_block rfl ?_
        refine LoopTo (T' := [(1, .rop [i64 s.h, i64 s.z, .ros (s.ls.map boxesL) s.ls.length c] 0), (4, i64 ((0 : Nat) : Int))]) (H' := []) (n := 0) rfl (fun mz_ qz_ => ∃ (m : Nat), m ≤ s.ls.length ∧ (∀ j (hj : j < s.ls.length), j < m → (s.ls[j].any fun b => !isB b s.h s.z) = false) ∧ mz_ = s.ls.length - m ∧ qz_ = ⟨[(1, .rop [i64 s.h, i64 s.z, .ros (s.ls.map boxesL) s.ls.length c] 0), (4, i64 ((m : Nat) : Int))], [], 0, []⟩) ⟨0, (by omega), (fun j hj h => absurd h (Nat.not_lt_zero _)), rfl, rfl⟩ id ⟨eD rfl rfl, eD rfl rfl, trivial⟩ trivial rfl rfl rfl rfl (fun _ _ => rfl) ?_
        rintro _ _ ⟨m, hi1_0, hi1_1, rfl, rfl⟩
        refine W_seq rfl ?_
        refine W_seq rfl ?_
        refine W_reg rfl ?_
        refine Rv rfl rfl rfl (U_move rfl) rfl rfl ?_
        refine Rv rfl rfl rfl (U_fieldAddrR rfl) rfl rfl ?_
        refine Rv rfl rfl rfl (U_load1 rfl rfl rfl) rfl rfl ?_
        refine Rv rfl rfl rfl (U_lenOf rfl len_ros) rfl rfl ?_
        refine Rv rfl rfl rfl (U_lss rfl rfl) rfl rfl ?_
        refine Re rfl ?_
        refine thenQ_n ?_
        refine WcondP rfl rfl (fun hc4 => ?_) (fun hc4 => ?_)
        · have hcm : m < s.ls.length := by omega
          have hbm := hbl _ (List.getElem_mem hcm)
          refine W_skip rfl ?_
          refine thenQ_n ?_
          refine W_seq rfl ?_
          refine W_block rfl ?_
          refine W_seq rfl ?_
          refine W_reg rfl ?_
          refine Rv rfl rfl rfl (U_assign rfl) rfl rfl ?_
          refine Re rfl ?_
          refine thenQ_n ?_
          refine W_block rfl ?_
          refine LoopTo (T' := [(1, .rop [i64 s.h, i64 s.z, .ros (s.ls.map boxesL) s.ls.length c] 0), (4, i64 ((m : Nat) : Int)), (5, i64 ((0 : Nat) : Int))]) (H' := []) (n := 0) rfl (fun mz_ qz_ => ∃ (i : Nat), i ≤ s.ls[m].length ∧ (∀ j (hj : j < s.ls[m].length), j < i → (!isB s.ls[m][j] s.h s.z) = false) ∧ mz_ = s.ls[m].length - i ∧ qz_ = ⟨[(1, .rop [i64 s.h, i64 s.z, .ros (s.ls.map boxesL) s.ls.length c] 0), (4, i64 ((m : Nat) : Int)), (5, i64 ((i : Nat) : Int))], [], 0, []⟩) ⟨0, (by omega), (fun j hj h => absurd h (Nat.not_lt_zero _)), rfl, rfl⟩ id ⟨eD rfl rfl, eD rfl rfl, eD rfl rfl, trivial⟩ trivial rfl rfl rfl rfl (fun _ _ => rfl) ?_
          rintro _ _ ⟨i, hi2_0, hi2_1, rfl, rfl⟩
          refine W_seq rfl ?_
          refine W_seq rfl ?_
          refine W_reg rfl ?_
          refine Rv rfl rfl rfl (U_move rfl) rfl rfl ?_
          refine Rv rfl rfl rfl (U_fieldAddrR rfl) rfl rfl ?_
          refine Rv rfl rfl rfl (U_load1 rfl rfl rfl) rfl rfl ?_
          refine Rv rfl rfl rfl (U_move rfl) rfl rfl ?_
          have hx5 : m < s.ls.length := by omega
          refine Rv rfl rfl rfl (U_indexR (j := m) rfl rfl rfl hx5) rfl rfl ?_
          refine Rv rfl rfl rfl (U_load1 rfl rfl (getM hx5)) rfl rfl ?_
          refine Rv rfl rfl rfl (U_lenOf rfl len_ros) rfl rfl ?_
          refine Rv rfl rfl rfl (U_lss rfl rfl) rfl rfl ?_
          refine Re rfl ?_
          refine thenQ_n ?_
          refine WcondP rfl rfl (fun hc5 => ?_) (fun hc5 => ?_)
          · have hci : i < s.ls[m].length := by omega
            refine W_skip rfl ?_
            refine thenQ_n ?_
            refine W_seq rfl ?_
            refine W_block rfl ?_
            refine W_seq rfl ?_
            refine Wdraw rfl (by kernel_rfl) (by kernel_rfl) ?_
            refine Dv rfl rfl rfl (U_fieldAddrR rfl) rfl rfl ?_
            refine Dv rfl rfl rfl (U_load1 rfl rfl rfl) rfl rfl ?_
            refine Dv rfl rfl rfl (U_move rfl) rfl rfl ?_
            refine Dv rfl rfl rfl (U_indexR (j := m) rfl rfl rfl hx5) rfl rfl ?_
            refine Dv rfl rfl rfl (U_load1 rfl rfl (getM hx5)) rfl rfl ?_
            refine Dv rfl rfl rfl (U_move rfl) rfl rfl ?_
            have hx6 : i < s.ls[m].length := by omega
            refine Dv rfl rfl rfl (U_indexR (j := i) rfl rfl rfl hx6) rfl rfl ?_
            refine Dv rfl rfl rfl (U_load4 rfl rfl (bxG0 hx6) (bxG1 hx6) (bxG2 hx6) (bxG3 hx6)) rfl rfl ?_
            refine Dv rfl rfl rfl (U_fieldAddrR rfl) rfl rfl ?_
            refine Dv rfl rfl rfl (U_load1 rfl rfl rfl) rfl rfl ?_
            refine Dv rfl rfl rfl (U_fieldAddrR rfl) rfl rfl ?_
            refine Dv rfl rfl rfl (U_load1 rfl rfl rfl) rfl rfl ?_
            refine Dv rfl rfl rfl (U_call rfl rfl (isBR_p (s.ls[m][i]) s.h s.z (by assumption) (by assumption)) rfl) rfl rfl ?_
            refine Dv rfl rfl rfl (U_not rfl) rfl rfl ?_
            refine Dr.nil rfl ?_
            refine thenQ_n ?_
            refine Wcond rfl rfl (fun hc6 => ?_) (fun hc6 => ?_)
            · have hst : (s.ls.any fun l => l.any fun b => !isB b s.h s.z) = true := any_true hcm (any_true hci (by simpa using hc6))
              have hce : chkS s = 2 := by rw [chkS, if_neg (by rw [inL1, inL1]; simp; omega), if_neg (by rw [h600]; simp; omega), if_pos hst]
              refine W_seq rfl ?_
              refine W_reg rfl ?_
              refine Rv rfl rfl rfl (U_assign rfl) rfl rfl ?_
              refine Re rfl ?_
              refine thenQ_n ?_
              refine W_ret rfl ?_
              refine blkQ_r ?_
              refine thenQ_r ?_
              refine thenQ_r ?_
              refine blkQ_r ?_
              refine blkQ_r ?_
              refine thenQ_r ?_
              refine thenQ_r ?_
              refine blkQ_r ?_
              refine thenQ_r ?_
              exact retL (rlT rfl rl0) (by first | rfl | (simp only [packA]; rw [hce]; first | done | rfl)) rfl
            · have hc6' := Bool.eq_false_iff.1 hc6
              refine W_skip rfl ?_
              refine blkQ_n ?_
              refine thenQ_n ?_
              refine W_reg rfl ?_
              refine Rv rfl rfl rfl (U_move rfl) rfl rfl ?_
              refine Rv rfl rfl rfl (U_add rfl rfl (w64e (m := ((i + 1 : Nat) : Int)) (by omega) (by omega) (by omega))) rfl rfl ?_
              refine Rv rfl rfl rfl (U_assign rfl) rfl rfl ?_
              refine Re rfl ?_
              refine thenQ_n ?_
              exact againTo (T' := [(1, .rop [i64 s.h, i64 s.z, .ros (s.ls.map boxesL) s.ls.length c] 0), (4, i64 ((m : Nat) : Int)), (5, i64 (((i + 1) : Nat) : Int))]) (H' := []) (n := 0) (s.ls[m].length - (i + 1)) ⟨i + 1, (by omega), (bef_succ (p := fun b : Bx => !isB b s.h s.z) hi2_1 hci (by simpa using hc6)), rfl, rfl⟩ (by omega) id ⟨eD rfl rfl, eD rfl rfl, eD rfl rfl, trivial⟩ trivial rfl rfl rfl rfl (fun _ _ => rfl)
          · have hla : (s.ls[m].any fun b => !isB b s.h s.z) = false := any_f fun j hj => hi2_1 j hj (by omega)
            refine W_exit rfl ?_
            refine thenQ_x ?_
            refine thenQ_x ?_
            refine blkQ_x rfl ?_
            refine blkQ_n ?_
            refine thenQ_n ?_
            refine W_reg rfl ?_
            refine Rv rfl rfl rfl (U_move rfl) rfl rfl ?_
            refine Rv rfl rfl rfl (U_add rfl rfl (w64e (m := ((m + 1 : Nat) : Int)) (by omega) (by omega) (by omega))) rfl rfl ?_
            refine Rv rfl rfl rfl (U_assign rfl) rfl rfl ?_
            refine Re rfl ?_
            refine thenQ_n ?_
            exact againTo (T' := [(1, .rop [i64 s.h, i64 s.z, .ros (s.ls.map boxesL) s.ls.length c] 0), (4, i64 (((m + 1) : Nat) : Int))]) (H' := []) (n := 0) (s.ls.length - (m + 1)) ⟨m + 1, (by omega), (bef_succ (p := fun l : List Bx => l.any fun b => !isB b s.h s.z) hi1_1 hcm hla), rfl, rfl⟩ (by omega) id ⟨eD rfl rfl, eD rfl rfl, trivial⟩ trivial rfl rfl rfl rfl (fun _ _ => rfl)
        · have hst : (s.ls.any fun l => l.any fun b => !isB b s.h s.z) = false := any_f fun j hj => hi1_1 j hj (by omega)
          have hce : chkS s = 0 := by rw [chkS, if_neg (by rw [inL1, inL1]; simp; omega), if_neg (by rw [h600]; simp; omega), if_neg (by rw [hst]; simp)]
          refine W_exit rfl ?_
          refine thenQ_x ?_
          refine thenQ_x ?_
          refine blkQ_x rfl ?_
          refine thenQ_n ?_
          refine W_seq rfl ?_
          refine W_reg rfl ?_
          refine Rv rfl rfl rfl (U_assign rfl) rfl rfl ?_
          refine Re rfl ?_
          refine thenQ_n ?_
          refine W_ret rfl ?_
          exact retL (rlT rfl rl0) (by first | rfl | (simp only [packA]; rw [hce]; first | done | rfl)) rfl
end Go.Proofs.Ythlolelbmhfdbaa
end

section
namespace Go.Proofs.Ythlolelbmhfdbaa
set_option maxRecDepth 20000
open Go.AE
theorem inBoxR_p (b : Bx) (H z h : Nat) (hH : 1 ≤ H ∧ H ≤ 48) (hf : 0 ≤ b.fr ∧ b.fr < H) (hh : h < H) : Pure Try.prog 92 [bxA b, i64 (H : Nat), i64 (h : Nat), i64 (z : Nat)] (.bool (inN b H z h)) := by
  refine pure_of_body Try.func92 (c := body Try.f92) rfl (by simp [Try.ntmps92]) fun w0 Φ0 => ?_
  refine W_seq rfl ?_
  refine W_reg rfl ?_
  refine Rv rfl rfl rfl (U_boxF rfl rfl rfl) rfl rfl ?_
  refine Rv rfl rfl rfl (U_assign rfl) rfl rfl ?_
  refine Re rfl ?_
  refine thenQ_n ?_
  refine W_seq rfl ?_
  refine Wjoin ⟨[(8, .bool ((decide ((((((h : Nat) : Int) - b.fr) + ((H : Nat) : Int)) % ((H : Nat) : Int)) < b.wd)) && ((decide (b.lo ≤ ((z : Nat) : Int))) && (decide (((z : Nat) : Int) < b.hi)))))], [], 0, []⟩ ?_ ?_
  · refine Wdraw rfl (by kernel_rfl) (by kernel_rfl) ?_
    refine Dv rfl rfl rfl (U_move rfl) rfl rfl ?_
    refine Dv rfl rfl rfl (U_fieldAddrR rfl) rfl rfl ?_
    refine Dv rfl rfl rfl (U_load1 rfl rfl rfl) rfl rfl ?_
    refine Dv rfl rfl rfl (U_sub rfl rfl (w64 (by omega) (by omega))) rfl rfl ?_
    refine Dv rfl rfl rfl (U_move rfl) rfl rfl ?_
    refine Dv rfl rfl rfl (U_add rfl rfl (w64 (by omega) (by omega))) rfl rfl ?_
    refine Dv rfl rfl rfl (U_move rfl) rfl rfl ?_
    refine Dv rfl rfl rfl (U_rem (c := (((((h : Nat) : Int) - b.fr) + ((H : Nat) : Int)) % ((H : Nat) : Int))) rfl rfl (by omega) (tmodP (by omega))) rfl rfl ?_
    refine Dv rfl rfl rfl (U_fieldAddrR rfl) rfl rfl ?_
    refine Dv rfl rfl rfl (U_load1 rfl rfl rfl) rfl rfl ?_
    refine Dv rfl rfl rfl (U_lss rfl rfl) rfl rfl ?_
    refine Dv rfl rfl rfl (U_move rfl) rfl rfl ?_
    refine Dsplit (t := 20) rfl (fun hg1 => ?_) (fun hg1 => ?_)
    · rw [hg1]
      have hg1' : (((((h : Nat) : Int) - b.fr) + ((H : Nat) : Int)) % ((H : Nat) : Int)) < b.wd := of_decide_eq_true hg1
      refine Dv rfl rfl rfl (U_move rfl) rfl rfl ?_
      refine Dv rfl rfl rfl (U_fieldAddrR rfl) rfl rfl ?_
      refine Dv rfl rfl rfl (U_load1 rfl rfl rfl) rfl rfl ?_
      refine Dv rfl rfl rfl (U_geq rfl rfl) rfl rfl ?_
      refine Dv rfl rfl rfl (U_pick_t rfl rfl) rfl rfl ?_
      refine Dv rfl rfl rfl (U_move rfl) rfl rfl ?_
      refine Dsplit (t := 26) rfl (fun hg2 => ?_) (fun hg2 => ?_)
      · rw [hg2]
        have hg2' : b.lo ≤ ((z : Nat) : Int) := of_decide_eq_true hg2
        refine Dv rfl rfl rfl (U_move rfl) rfl rfl ?_
        refine Dv rfl rfl rfl (U_fieldAddrR rfl) rfl rfl ?_
        refine Dv rfl rfl rfl (U_load1 rfl rfl rfl) rfl rfl ?_
        refine Dv rfl rfl rfl (U_lss rfl rfl) rfl rfl ?_
        refine Dv rfl rfl rfl (U_pick_t rfl rfl) rfl rfl ?_
        refine Dv rfl rfl rfl (U_assign rfl) rfl rfl ?_
        refine Dr.nil rfl ?_
        exact joinTo id ⟨eD rfl rfl, trivial⟩ trivial rfl rfl rfl rfl (fun _ _ => rfl)
      · rw [hg2]
        have hg2' : ¬ (b.lo ≤ ((z : Nat) : Int)) := of_decide_eq_false hg2
        refine Ds rfl rfl rfl rfl rfl ?_
        refine Ds rfl rfl rfl rfl rfl ?_
        refine Ds rfl rfl rfl rfl rfl ?_
        refine Ds rfl rfl rfl rfl rfl ?_
        refine Dv rfl rfl rfl (U_pick_f rfl rfl) rfl rfl ?_
        refine Dv rfl rfl rfl (U_assign rfl) rfl rfl ?_
        refine Dr.nil rfl ?_
        exact joinTo id ⟨eD rfl rfl, trivial⟩ trivial rfl rfl rfl rfl (fun _ _ => rfl)
    · rw [hg1]
      have hg1' : ¬ ((((((h : Nat) : Int) - b.fr) + ((H : Nat) : Int)) % ((H : Nat) : Int)) < b.wd) := of_decide_eq_false hg1
      refine Ds rfl rfl rfl rfl rfl ?_
      refine Ds rfl rfl rfl rfl rfl ?_
      refine Ds rfl rfl rfl rfl rfl ?_
      refine Ds rfl rfl rfl rfl rfl ?_
      refine Dv rfl rfl rfl (U_pick_f rfl rfl) rfl rfl ?_
      refine Dv rfl rfl rfl (U_move rfl) rfl rfl ?_
      refine Ds rfl rfl rfl rfl rfl ?_
      refine Ds rfl rfl rfl rfl rfl ?_
      refine Ds rfl rfl rfl rfl rfl ?_
      refine Ds rfl rfl rfl rfl rfl ?_
      refine Dv rfl rfl rfl (U_pick_f rfl rfl) rfl rfl ?_
      refine Dv rfl rfl rfl (U_assign rfl) rfl rfl ?_
      refine Dr.nil rfl ?_
      exact joinTo id ⟨eD rfl rfl, trivial⟩ trivial rfl rfl rfl rfl (fun _ _ => rfl)
  refine thenQ_n ?_
  refine W_ret rfl ?_
  exact retL (rlT rfl rl0) (by first | rfl | (simp only [packA]; congr 1; rw [Bool.eq_iff_iff]; simp only [inN, Bool.and_eq_true, decide_eq_true_eq]; simp; omega; first | done | rfl)) rfl
theorem inR_p (H Z : Nat) (ls : List (List Bx)) (c : Option Nat) (hv : VS ⟨H, Z, ls⟩ H Z) (a z h : Nat) (ha : a < ls.length) (hh : h < H) : Pure Try.prog 94 [.agg [i64 (H : Nat), i64 (Z : Nat), landsA ls c], i64 (a : Nat), i64 (h : Nat), i64 (z : Nat)] (.bool (inL' ls[a] H z h)) := by
  have hv' := hv
  obtain ⟨_, _, hH, hZ1, hln, hlb, hbx⟩ := hv'
  simp only at hln hlb hbx
  have hZ := hZ1.2
  have hHZ : Z * H ≤ 1152 := Nat.mul_le_mul hZ hH.2
  have hHZc : H * Z = Z * H := Nat.mul_comm _ _
  have hlba := hlb _ (List.getElem_mem ha)
  refine pure_of_body Try.func94 (c := body Try.f94) rfl (by simp [Try.ntmps94]) fun w0 Φ0 => ?_
  refine W_seq rfl ?_
  refine W_reg rfl ?_
  refine Rv rfl rfl rfl (U_boxF rfl rfl rfl) rfl rfl ?_
  refine Rv rfl rfl rfl (U_assign rfl) rfl rfl ?_
  refine Re rfl ?_
  refine thenQ_n ?_
  refine W_seq rfl ?_
  refine W_reg rfl ?_
  refine Rv rfl rfl rfl (U_fieldAddrR rfl) rfl rfl ?_
  refine Rv rfl rfl rfl (U_load1 rfl rfl rfl) rfl rfl ?_
  refine Rv rfl rfl rfl (U_move rfl) rfl rfl ?_
  have hx1 : a < ls.length := by omega
  refine Rv rfl rfl rfl (U_indexR (j := a) rfl rfl rfl hx1) rfl rfl ?_
  refine Rv rfl rfl rfl (U_load1 rfl rfl (getM hx1)) rfl rfl ?_
  refine Rv rfl rfl rfl (U_assign rfl) rfl rfl ?_
  refine Re rfl ?_
  refine thenQ_n ?_
  refine W_seq rfl ?_
  refine W_seq rfl ?_
  refine W_reg rfl ?_
  refine Rv rfl rfl rfl (U_assign rfl) rfl rfl ?_
  refine Re rfl ?_
  refine thenQ_n ?_
  refine W_block rfl ?_
  refine LoopTo (T' := [(2, i64 ((h : Nat) : Int)), (3, i64 ((z : Nat) : Int)), (4, .rop [i64 ((H : Nat) : Int), i64 ((Z : Nat) : Int), .ros (ls.map boxesL) ls.length c] 0), (9, .ros (ls[a].flatMap bxC) ls[a].length none), (10, i64 ((0 : Nat) : Int))]) (H' := []) (n := 0) rfl (fun mz_ qz_ => ∃ (k : Nat), k ≤ ls[a].length ∧ ((∀ j (hj : j < ls[a].length), j < k → inN ls[a][j] H z h = false)) ∧ mz_ = ls[a].length - k ∧ qz_ = ⟨[(2, i64 ((h : Nat) : Int)), (3, i64 ((z : Nat) : Int)), (4, .rop [i64 ((H : Nat) : Int), i64 ((Z : Nat) : Int), .ros (ls.map boxesL) ls.length c] 0), (9, .ros (ls[a].flatMap bxC) ls[a].length none), (10, i64 ((k : Nat) : Int))], [], 0, []⟩) ⟨0, (by omega), (fun j hj h => absurd h (Nat.not_lt_zero _)), rfl, rfl⟩ id ⟨eD rfl rfl, eD rfl rfl, eD rfl rfl, eD rfl rfl, eD rfl rfl, trivial⟩ trivial rfl rfl rfl rfl (fun _ _ => rfl) ?_
  rintro _ _ ⟨k, hi0_0, hi0_1, rfl, rfl⟩
  refine W_seq rfl ?_
  refine W_seq rfl ?_
  refine W_reg rfl ?_
  refine Rv rfl rfl rfl (U_move rfl) rfl rfl ?_
  refine Rv rfl rfl rfl (U_move rfl) rfl rfl ?_
  refine Rv rfl rfl rfl (U_lenOf rfl len_ros) rfl rfl ?_
  refine Rv rfl rfl rfl (U_lss rfl rfl) rfl rfl ?_
  refine Re rfl ?_
  refine thenQ_n ?_
  refine WcondP rfl rfl (fun hc0 => ?_) (fun hc0 => ?_)
  · have hck : k < ls[a].length := by omega
    have hbb := hbx _ (List.getElem_mem ha) _ (List.getElem_mem hck)
    refine W_skip rfl ?_
    refine thenQ_n ?_
    refine W_seq rfl ?_
    refine W_block rfl ?_
    refine W_seq rfl ?_
    refine Wdraw rfl (by kernel_rfl) (by kernel_rfl) ?_
    refine Dv rfl rfl rfl (U_move rfl) rfl rfl ?_
    refine Dv rfl rfl rfl (U_move rfl) rfl rfl ?_
    have hx2 : k < ls[a].length := by omega
    refine Dv rfl rfl rfl (U_indexR (j := k) rfl rfl rfl hx2) rfl rfl ?_
    refine Dv rfl rfl rfl (U_load4 rfl rfl (bxG0 hx2) (bxG1 hx2) (bxG2 hx2) (bxG3 hx2)) rfl rfl ?_
    refine Dv rfl rfl rfl (U_fieldAddrR rfl) rfl rfl ?_
    refine Dv rfl rfl rfl (U_load1 rfl rfl rfl) rfl rfl ?_
    refine Dv rfl rfl rfl (U_move rfl) rfl rfl ?_
    refine Dv rfl rfl rfl (U_move rfl) rfl rfl ?_
    refine Dv rfl rfl rfl (U_call rfl rfl (inBoxR_p (ls[a][k]) H z h (by omega) hbb.1 (by omega)) rfl) rfl rfl ?_
    refine Dr.nil rfl ?_
    refine thenQ_n ?_
    refine Wcond rfl rfl (fun hc1 => ?_) (fun hc1 => ?_)
    · refine W_seq rfl ?_
      refine W_reg rfl ?_
      refine Rv rfl rfl rfl (U_assign rfl) rfl rfl ?_
      refine Re rfl ?_
      refine thenQ_n ?_
      refine W_ret rfl ?_
      refine blkQ_r ?_
      refine thenQ_r ?_
      refine thenQ_r ?_
      refine blkQ_r ?_
      refine thenQ_r ?_
      exact retL (rlT rfl rl0) (by first | rfl | (simp only [packA]; rw [inL', show ls[a].any (fun b => inN b H z h) = true from any_true hck hc1]; simp [hh]; first | done | rfl) | (simp only [packA]; rw [inL', any_false fun j hj => hi0_1 j hj (by omega)]; simp; first | done | rfl)) rfl
    · have hc1' := Bool.eq_false_iff.1 hc1
      refine W_skip rfl ?_
      refine blkQ_n ?_
      refine thenQ_n ?_
      refine W_reg rfl ?_
      refine Rv rfl rfl rfl (U_move rfl) rfl rfl ?_
      refine Rv rfl rfl rfl (U_add rfl rfl (w64e (m := ((k + 1 : Nat) : Int)) (by omega) (by omega) (by omega))) rfl rfl ?_
      refine Rv rfl rfl rfl (U_assign rfl) rfl rfl ?_
      refine Re rfl ?_
      refine thenQ_n ?_
      exact againTo (T' := [(2, i64 ((h : Nat) : Int)), (3, i64 ((z : Nat) : Int)), (4, .rop [i64 ((H : Nat) : Int), i64 ((Z : Nat) : Int), .ros (ls.map boxesL) ls.length c] 0), (9, .ros (ls[a].flatMap bxC) ls[a].length none), (10, i64 (((k + 1) : Nat) : Int))]) (H' := []) (n := 0) (ls[a].length - (k + 1)) ⟨k + 1, (by omega), (by intro j hj h; rcases Nat.lt_succ_iff_lt_or_eq.1 h with h | rfl; exact hi0_1 j hj h; simpa using hc1), rfl, rfl⟩ (by omega) id ⟨eD rfl rfl, eD rfl rfl, eD rfl rfl, eD rfl rfl, eD rfl rfl, trivial⟩ trivial rfl rfl rfl rfl (fun _ _ => rfl)
  · refine W_exit rfl ?_
    refine thenQ_x ?_
    refine thenQ_x ?_
    refine blkQ_x rfl ?_
    refine thenQ_n ?_
    refine W_seq rfl ?_
    refine W_reg rfl ?_
    refine Rv rfl rfl rfl (U_assign rfl) rfl rfl ?_
    refine Re rfl ?_
    refine thenQ_n ?_
    refine W_ret rfl ?_
    exact retL (rlT rfl rl0) (by first | rfl | (simp only [packA]; rw [inL', show ls[a].any (fun b => inN b H z h) = true from any_true hck hc1]; simp [hh]; first | done | rfl) | (simp only [packA]; rw [inL', any_false fun j hj => hi0_1 j hj (by omega)]; simp; first | done | rfl)) rfl
abbrev fldA (l : List Nat) (n : Nat) : AV := .ros (l.map n64) n (some n)
def fldK (Z H : Nat) (l : List Bx) (m : Nat) : List Nat := (List.range (Z * H)).map fun i => if i < m then bitQ l H (i / H) (i % H) else 0
theorem fldK_len {Z H m : Nat} {l : List Bx} : (fldK Z H l m).length = Z * H := by simp [fldK]
theorem fldK_0 {Z H : Nat} {l : List Bx} : fldK Z H l 0 = List.replicate (H * Z) 0 := by
  apply List.ext_getElem (by simp [fldK, Nat.mul_comm])
  intro i h1 h2
  simp [fldK]
theorem fldK_all {Z H m : Nat} {l : List Bx} (h : Z * H ≤ m) : fldK Z H l m = fldQ Z H l := by
  refine List.map_congr_left fun i hi => ?_
  rw [if_pos (by have := List.mem_range.1 hi; omega)]
theorem zh_lt {Z H z h : Nat} (hz : z < Z) (hh : h < H) : z * H + h < Z * H := by
  have := Nat.mul_le_mul_right H (show z + 1 ≤ Z by omega)
  rw [Nat.add_mul] at this; omega
theorem fldK_t {Z H z h : Nat} {l : List Bx} (hz : z < Z) (hh : h < H) (e : inL' l H z h = true) : (fldK Z H l (z * H + h)).set (z * H + h) 1 = fldK Z H l (z * H + (h + 1)) := by
  apply List.ext_getElem (by simp [fldK])
  intro i h1 h2
  rw [List.getElem_set]
  have hd := zh_div (z := z) hh
  simp only [fldK, List.getElem_map, List.getElem_range]
  by_cases hi : z * H + h = i
  · subst hi; rw [if_pos rfl, if_pos (by omega), hd.1, hd.2, bitQ, if_pos e]
  · rw [if_neg hi]
    by_cases h3 : i < z * H + h
    · rw [if_pos h3, if_pos (by omega)]
    · rw [if_neg h3, if_neg (by omega)]
theorem fldK_f {Z H z h : Nat} {l : List Bx} (hz : z < Z) (hh : h < H) (e : ¬ inL' l H z h = true) : fldK Z H l (z * H + h) = fldK Z H l (z * H + (h + 1)) := by
  refine List.map_congr_left fun i hi => ?_
  have hd := zh_div (z := z) hh
  by_cases hi : z * H + h = i
  · subst hi; rw [if_neg (by omega), if_pos (by omega), hd.1, hd.2, bitQ, if_neg e]
  · by_cases h3 : i < z * H + h
    · rw [if_pos h3, if_pos (by omega)]
    · rw [if_neg h3, if_neg (by omega)]
theorem field_p (H Z : Nat) (ls : List (List Bx)) (c : Option Nat) (hv : VS ⟨H, Z, ls⟩ H Z) (a : Nat) (ha : a < ls.length) : Pure Try.prog 53 [.agg [i64 (H : Nat), i64 (Z : Nat), landsA ls c], i64 (a : Nat)] (fldA (fldQ Z H ls[a]) (H * Z)) := by
  have hv' := hv
  obtain ⟨_, _, hH, hZ1, hln, hlb, hbx⟩ := hv'
  simp only at hln hlb hbx
  have hZ := hZ1.2
  have hHZ : Z * H ≤ 1152 := Nat.mul_le_mul hZ hH.2
  have hHZc : H * Z = Z * H := Nat.mul_comm _ _
  refine pure_of_body Try.func53 (c := body Try.f53) rfl (by simp [Try.ntmps53]) fun w0 Φ0 => ?_
  refine W_seq rfl ?_
  refine W_reg rfl ?_
  refine Rv rfl rfl rfl (U_boxF rfl rfl rfl) rfl rfl ?_
  refine Rv rfl rfl rfl (U_assign rfl) rfl rfl ?_
  refine Re rfl ?_
  refine thenQ_n ?_
  refine W_seq rfl ?_
  refine W_reg rfl ?_
  refine Rv rfl rfl rfl (U_fieldAddrR rfl) rfl rfl ?_
  refine Rv rfl rfl rfl (U_load1 rfl rfl rfl) rfl rfl ?_
  refine Rv rfl rfl rfl (U_fieldAddrR rfl) rfl rfl ?_
  refine Rv rfl rfl rfl (U_load1 rfl rfl rfl) rfl rfl ?_
  refine Rv rfl rfl rfl (U_mul rfl rfl (w64e (m := ((H * Z : Nat) : Int)) (by omega) (by omega) (by omega))) rfl rfl ?_
  refine Ra rfl rfl rfl (U_mkL (n := H * Z) (cs' := (List.replicate (H * Z) (0 : Nat)).map n64) rfl rfl rfl (by omega) (replM rfl _)) rfl rfl rfl ?_
  refine Rv rfl rfl rfl (U_assign rfl) rfl rfl ?_
  refine Re rfl ?_
  refine thenQ_n ?_
  refine W_seq rfl ?_
  refine W_seq rfl ?_
  refine W_reg rfl ?_
  refine Rv rfl rfl rfl (U_assign rfl) rfl rfl ?_
  refine Re rfl ?_
  refine thenQ_n ?_
  refine W_block rfl ?_
  refine LoopTo (T' := [(1, i64 ((a : Nat) : Int)), (2, .rop [i64 ((H : Nat) : Int), i64 ((Z : Nat) : Int), .ros (ls.map boxesL) ls.length c] 0), (5, .slice 0 0 (H * Z) (H * Z)), (6, i64 ((0 : Nat) : Int))]) (H' := [(0, some (.cells ((List.replicate (H * Z) 0).map n64) 3))]) (n := 1) rfl (fun mz_ qz_ => ∃ (z : Nat) (f : List Nat), z ≤ Z ∧ f = fldK Z H ls[a] (z * H) ∧ mz_ = Z - z ∧ qz_ = ⟨[(1, i64 ((a : Nat) : Int)), (2, .rop [i64 ((H : Nat) : Int), i64 ((Z : Nat) : Int), .ros (ls.map boxesL) ls.length c] 0), (5, .slice 0 0 (H * Z) (H * Z)), (6, i64 ((z : Nat) : Int))], [(0, some (.cells (f.map n64) 3))], 1, []⟩) ⟨0, List.replicate (H * Z) 0, (by omega), (by rw [Nat.zero_mul, fldK_0]), rfl, rfl⟩ id ⟨eD rfl rfl, eD rfl rfl, e_ rfl rfl, eD rfl rfl, trivial⟩ ⟨rD (mapD (fun _ => rfl) _) rfl rfl, trivial⟩ rfl rfl rfl rfl (fun _ _ => rfl) ?_
  rintro _ _ ⟨z, f, hi0_0, hi0_1, rfl, rfl⟩
  refine W_seq rfl ?_
  refine W_seq rfl ?_
  refine W_reg rfl ?_
  refine Rv rfl rfl rfl (U_move rfl) rfl rfl ?_
  refine Rv rfl rfl rfl (U_fieldAddrR rfl) rfl rfl ?_
  refine Rv rfl rfl rfl (U_load1 rfl rfl rfl) rfl rfl ?_
  refine Rv rfl rfl rfl (U_lss rfl rfl) rfl rfl ?_
  refine Re rfl ?_
  refine thenQ_n ?_
  refine WcondP rfl rfl (fun hc0 => ?_) (fun hc0 => ?_)
  · have hcz : z < Z := by omega
    refine W_skip rfl ?_
    refine thenQ_n ?_
    refine W_seq rfl ?_
    refine W_block rfl ?_
    refine W_seq rfl ?_
    refine W_reg rfl ?_
    refine Rv rfl rfl rfl (U_assign rfl) rfl rfl ?_
    refine Re rfl ?_
    refine thenQ_n ?_
    refine W_block rfl ?_
    refine LoopTo (T' := [(1, i64 ((a : Nat) : Int)), (2, .rop [i64 ((H : Nat) : Int), i64 ((Z : Nat) : Int), .ros (ls.map boxesL) ls.length c] 0), (5, .slice 0 0 (H * Z) (H * Z)), (6, i64 ((z : Nat) : Int)), (7, i64 ((0 : Nat) : Int))]) (H' := [(0, some (.cells (f.map n64) 3))]) (n := 1) rfl (fun mz_ qz_ => ∃ (h : Nat) (f2 : List Nat), h ≤ H ∧ f2 = fldK Z H ls[a] (z * H + h) ∧ mz_ = H - h ∧ qz_ = ⟨[(1, i64 ((a : Nat) : Int)), (2, .rop [i64 ((H : Nat) : Int), i64 ((Z : Nat) : Int), .ros (ls.map boxesL) ls.length c] 0), (5, .slice 0 0 (H * Z) (H * Z)), (6, i64 ((z : Nat) : Int)), (7, i64 ((h : Nat) : Int))], [(0, some (.cells (f2.map n64) 3))], 1, []⟩) ⟨0, f, (by omega), (by rw [hi0_1]; rfl), rfl, rfl⟩ id ⟨eD rfl rfl, eD rfl rfl, e_ rfl rfl, eD rfl rfl, eD rfl rfl, trivial⟩ ⟨rD (mapD (fun _ => rfl) _) rfl rfl, trivial⟩ rfl rfl rfl rfl (fun _ _ => rfl) ?_
    rintro _ _ ⟨h, f2, hi1_0, hi1_1, rfl, rfl⟩
    have hfl : f2.length = Z * H := by rw [hi1_1, fldK_len]
    refine W_seq rfl ?_
    refine W_seq rfl ?_
    refine W_reg rfl ?_
    refine Rv rfl rfl rfl (U_move rfl) rfl rfl ?_
    refine Rv rfl rfl rfl (U_fieldAddrR rfl) rfl rfl ?_
    refine Rv rfl rfl rfl (U_load1 rfl rfl rfl) rfl rfl ?_
    refine Rv rfl rfl rfl (U_lss rfl rfl) rfl rfl ?_
    refine Re rfl ?_
    refine thenQ_n ?_
    refine WcondP rfl rfl (fun hc1 => ?_) (fun hc1 => ?_)
    · have hch : h < H := by omega
      have hzh := zh_lt hcz hch
      refine W_skip rfl ?_
      refine thenQ_n ?_
      refine W_seq rfl ?_
      refine W_block rfl ?_
      refine W_seq rfl ?_
      refine W_reg rfl ?_
      refine Rv rfl rfl rfl (U_load3 rfl rfl rfl rfl rfl) rfl rfl ?_
      refine Rv rfl rfl rfl (U_move rfl) rfl rfl ?_
      refine Rv rfl rfl rfl (U_move rfl) rfl rfl ?_
      refine Rv rfl rfl rfl (U_move rfl) rfl rfl ?_
      refine Rv rfl rfl rfl (U_call rfl rfl (inR_p H Z ls c hv a z h (by omega) (by omega)) rfl) rfl rfl ?_
      refine Re rfl ?_
      refine thenQ_n ?_
      refine Wcond rfl rfl (fun hc2 => ?_) (fun hc2 => ?_)
      · refine W_reg rfl ?_
        refine Rv rfl rfl rfl (U_move rfl) rfl rfl ?_
        refine Rv rfl rfl rfl (U_move rfl) rfl rfl ?_
        refine Rv rfl rfl rfl (U_fieldAddrR rfl) rfl rfl ?_
        refine Rv rfl rfl rfl (U_load1 rfl rfl rfl) rfl rfl ?_
        refine Rv rfl rfl rfl (U_mul rfl rfl (w64e (m := ((z * H : Nat) : Int)) (by omega) (by omega) (by omega))) rfl rfl ?_
        refine Rv rfl rfl rfl (U_move rfl) rfl rfl ?_
        refine Rv rfl rfl rfl (U_add rfl rfl (w64e (m := ((z * H + h : Nat) : Int)) (by omega) (by omega) (by omega))) rfl rfl ?_
        have hx1 : (z * H + h) < f2.length := by omega
        refine Rv rfl rfl rfl (U_indexS (j := (z * H + h)) rfl rfl rfl (by omega)) rfl rfl ?_
        refine Rn rfl rfl rfl (U_store (n := 1) (cs' := (f2.set (z * H + h) 1).map n64) rfl rfl rfl rfl rfl (stLt hx1) rfl setM) rfl ?_
        refine Re rfl ?_
        refine blkQ_n ?_
        refine thenQ_n ?_
        refine W_reg rfl ?_
        refine Rv rfl rfl rfl (U_move rfl) rfl rfl ?_
        refine Rv rfl rfl rfl (U_add rfl rfl (w64e (m := ((h + 1 : Nat) : Int)) (by omega) (by omega) (by omega))) rfl rfl ?_
        refine Rv rfl rfl rfl (U_assign rfl) rfl rfl ?_
        refine Re rfl ?_
        refine thenQ_n ?_
        exact againTo (T' := [(1, i64 ((a : Nat) : Int)), (2, .rop [i64 ((H : Nat) : Int), i64 ((Z : Nat) : Int), .ros (ls.map boxesL) ls.length c] 0), (5, .slice 0 0 (H * Z) (H * Z)), (6, i64 ((z : Nat) : Int)), (7, i64 (((h + 1) : Nat) : Int))]) (H' := [(0, some (.cells ((f2.set (z * H + h) 1).map n64) 3))]) (n := 1) (H - (h + 1)) ⟨h + 1, f2.set (z * H + h) 1, (by omega), (by first | (rw [hi1_1]; exact fldK_t (by omega) (by omega) hc2) | (rw [hi1_1]; exact fldK_f (by omega) (by omega) (by simpa using hc2))), rfl, rfl⟩ (by omega) id ⟨eD rfl rfl, eD rfl rfl, e_ rfl rfl, eD rfl rfl, eD rfl rfl, trivial⟩ ⟨rD (mapD (fun _ => rfl) _) rfl rfl, trivial⟩ rfl rfl rfl rfl (fun _ _ => rfl)
      · have hc2' := Bool.eq_false_iff.1 hc2
        refine W_skip rfl ?_
        refine blkQ_n ?_
        refine thenQ_n ?_
        refine W_reg rfl ?_
        refine Rv rfl rfl rfl (U_move rfl) rfl rfl ?_
        refine Rv rfl rfl rfl (U_add rfl rfl (w64e (m := ((h + 1 : Nat) : Int)) (by omega) (by omega) (by omega))) rfl rfl ?_
        refine Rv rfl rfl rfl (U_assign rfl) rfl rfl ?_
        refine Re rfl ?_
        refine thenQ_n ?_
        exact againTo (T' := [(1, i64 ((a : Nat) : Int)), (2, .rop [i64 ((H : Nat) : Int), i64 ((Z : Nat) : Int), .ros (ls.map boxesL) ls.length c] 0), (5, .slice 0 0 (H * Z) (H * Z)), (6, i64 ((z : Nat) : Int)), (7, i64 (((h + 1) : Nat) : Int))]) (H' := [(0, some (.cells (f2.map n64) 3))]) (n := 1) (H - (h + 1)) ⟨h + 1, f2, (by omega), (by first | (rw [hi1_1]; exact fldK_t (by omega) (by omega) hc2) | (rw [hi1_1]; exact fldK_f (by omega) (by omega) (by simpa using hc2))), rfl, rfl⟩ (by omega) id ⟨eD rfl rfl, eD rfl rfl, e_ rfl rfl, eD rfl rfl, eD rfl rfl, trivial⟩ ⟨rD (mapD (fun _ => rfl) _) rfl rfl, trivial⟩ rfl rfl rfl rfl (fun _ _ => rfl)
    · refine W_exit rfl ?_
      refine thenQ_x ?_
      refine thenQ_x ?_
      refine blkQ_x rfl ?_
      refine blkQ_n ?_
      refine thenQ_n ?_
      refine W_reg rfl ?_
      refine Rv rfl rfl rfl (U_move rfl) rfl rfl ?_
      refine Rv rfl rfl rfl (U_add rfl rfl (w64e (m := ((z + 1 : Nat) : Int)) (by omega) (by omega) (by omega))) rfl rfl ?_
      refine Rv rfl rfl rfl (U_assign rfl) rfl rfl ?_
      refine Re rfl ?_
      refine thenQ_n ?_
      exact againTo (T' := [(1, i64 ((a : Nat) : Int)), (2, .rop [i64 ((H : Nat) : Int), i64 ((Z : Nat) : Int), .ros (ls.map boxesL) ls.length c] 0), (5, .slice 0 0 (H * Z) (H * Z)), (6, i64 (((z + 1) : Nat) : Int))]) (H' := [(0, some (.cells (f2.map n64) 3))]) (n := 1) (Z - (z + 1)) ⟨z + 1, f2, (by omega), (by rw [hi1_1, show h = H by omega, Nat.succ_mul]), rfl, rfl⟩ (by omega) id ⟨eD rfl rfl, eD rfl rfl, e_ rfl rfl, eD rfl rfl, trivial⟩ ⟨rD (mapD (fun _ => rfl) _) rfl rfl, trivial⟩ rfl rfl rfl rfl (fun _ _ => rfl)
  · refine W_exit rfl ?_
    refine thenQ_x ?_
    refine thenQ_x ?_
    refine blkQ_x rfl ?_
    refine thenQ_n ?_
    refine W_seq rfl ?_
    refine W_reg rfl ?_
    refine Rv rfl rfl rfl (U_move rfl) rfl rfl ?_
    refine Rv rfl rfl rfl (U_assign rfl) rfl rfl ?_
    refine Re rfl ?_
    refine thenQ_n ?_
    refine WfrN 0 rfl (mapD (fun _ => rfl) _) (T' := [(4, .ros (f.map n64) (H * Z) (some (H * Z)))]) (H' := []) ⟨⟨_, rfl, fr_sl (Nat.le_refl _)⟩, trivial⟩ trivial ?_
    refine W_ret rfl ?_
    exact retL (rlT rfl rl0) (by first | rfl | (simp only [packA]; rw [hi0_1, fldK_all (by rw [show z = Z by omega]; exact Nat.le_refl _)]; first | done | rfl)) rfl
end Go.Proofs.Ythlolelbmhfdbaa
end

section
namespace Go.Proofs.Ythlolelbmhfdbaa
set_option maxRecDepth 20000
open Go.AE
theorem getD_at {l : List Nat} {i : Nat} (h : i < l.length) : l.getD i 0 = l[i] := by rw [List.getD_eq_getElem?_getD, List.getElem?_eq_getElem h]; rfl
theorem met_fld {Z H : Nat} {la lb : List Bx} {i : Nat} (hi : i < Z * H) (h1 : (fldQ Z H la).getD i 0 = 1) (h2 : (fldQ Z H lb).getD i 0 = 1) : metQ Z H la lb = true := by
  have hH : 0 < H := by rcases Nat.eq_zero_or_pos H with e | e; subst e; omega; exact e
  have hA : i < (fldQ Z H la).length := by rw [fldQ_len]; exact hi
  have hB : i < (fldQ Z H lb).length := by rw [fldQ_len]; exact hi
  rw [getD_at hA, fldQ_get hA, bitQ] at h1
  rw [getD_at hB, fldQ_get hB, bitQ] at h2
  refine met_true (Nat.div_lt_of_lt_mul (by rw [Nat.mul_comm]; exact hi)) (Nat.mod_lt i hH) ?_ ?_
  · exact Decidable.byContradiction fun h => by rw [if_neg h] at h1; cases h1
  · exact Decidable.byContradiction fun h => by rw [if_neg h] at h2; cases h2
theorem met_no {Z H : Nat} {la lb : List Bx} (h : ∀ i, i < Z * H → ¬ ((fldQ Z H la).getD i 0 = 1 ∧ (fldQ Z H lb).getD i 0 = 1)) : metQ Z H la lb = false := by
  refine met_false fun z x hz hx h2 => h (z * H + x) (zh_lt hz hx) ?_
  have hd := zh_div (z := z) hx
  have hA : z * H + x < (fldQ Z H la).length := by rw [fldQ_len]; exact zh_lt hz hx
  have hB : z * H + x < (fldQ Z H lb).length := by rw [fldQ_len]; exact zh_lt hz hx
  rw [getD_at hA, fldQ_get hA, getD_at hB, fldQ_get hB, hd.1, hd.2, bitQ, bitQ, if_pos h2.1, if_pos h2.2]
  exact ⟨rfl, rfl⟩
theorem meet_p (H Z : Nat) (ls : List (List Bx)) (c : Option Nat) (hv : VS ⟨H, Z, ls⟩ H Z) (a b : Nat) (ha : a < ls.length) (hb : b < ls.length) : Pure Try.prog 56 [.agg [i64 (H : Nat), i64 (Z : Nat), landsA ls c], i64 (a : Nat), i64 (b : Nat)] (.bool (metQ Z H ls[a] ls[b])) := by
  have hv' := hv
  obtain ⟨_, _, hH, hZ1, hln, hlb, hbx⟩ := hv'
  simp only at hln hlb hbx
  have hZ := hZ1.2
  have hHZ : Z * H ≤ 1152 := Nat.mul_le_mul hZ hH.2
  have hHZc : H * Z = Z * H := Nat.mul_comm _ _
  have hfal : (fldQ Z H ls[a]).length = Z * H := fldQ_len
  have hfbl : (fldQ Z H ls[b]).length = Z * H := fldQ_len
  refine pure_of_body Try.func56 (c := body Try.f56) rfl (by simp [Try.ntmps56]) fun w0 Φ0 => ?_
  refine W_seq rfl ?_
  refine W_reg rfl ?_
  refine Rv rfl rfl rfl (U_boxF rfl rfl rfl) rfl rfl ?_
  refine Rv rfl rfl rfl (U_assign rfl) rfl rfl ?_
  refine Re rfl ?_
  refine thenQ_n ?_
  refine W_seq rfl ?_
  refine Wdraw rfl (by kernel_rfl) (by kernel_rfl) ?_
  refine Dv rfl rfl rfl (U_load3 rfl rfl rfl rfl rfl) rfl rfl ?_
  refine Dv rfl rfl rfl (U_move rfl) rfl rfl ?_
  refine Dv rfl rfl rfl (U_call rfl rfl (field_p H Z ls c hv a (by omega)) rfl) rfl rfl ?_
  refine Dv rfl rfl rfl (U_load3 rfl rfl rfl rfl rfl) rfl rfl ?_
  refine Dv rfl rfl rfl (U_move rfl) rfl rfl ?_
  refine Dv rfl rfl rfl (U_call rfl rfl (field_p H Z ls c hv b (by omega)) rfl) rfl rfl ?_
  refine Dv rfl rfl rfl (U_assign rfl) rfl rfl ?_
  refine Dv rfl rfl rfl (U_assign rfl) rfl rfl ?_
  refine Dr.nil rfl ?_
  refine thenQ_n ?_
  refine W_seq rfl ?_
  refine W_seq rfl ?_
  refine W_reg rfl ?_
  refine Rv rfl rfl rfl (U_assign rfl) rfl rfl ?_
  refine Re rfl ?_
  refine thenQ_n ?_
  refine W_block rfl ?_
  refine LoopTo (T' := [(7, .ros ((fldQ Z H ls[a]).map n64) (H * Z) (some (H * Z))), (8, .ros ((fldQ Z H ls[b]).map n64) (H * Z) (some (H * Z))), (9, i64 ((0 : Nat) : Int))]) (H' := []) (n := 0) rfl (fun mz_ qz_ => ∃ (i : Nat), i ≤ H * Z ∧ ((∀ j, j < i → ¬ ((fldQ Z H ls[a]).getD j 0 = 1 ∧ (fldQ Z H ls[b]).getD j 0 = 1))) ∧ mz_ = H * Z - i ∧ qz_ = ⟨[(7, .ros ((fldQ Z H ls[a]).map n64) (H * Z) (some (H * Z))), (8, .ros ((fldQ Z H ls[b]).map n64) (H * Z) (some (H * Z))), (9, i64 ((i : Nat) : Int))], [], 0, []⟩) ⟨0, (by omega), (fun j h => absurd h (Nat.not_lt_zero _)), rfl, rfl⟩ id ⟨eD rfl rfl, eD rfl rfl, eD rfl rfl, trivial⟩ trivial rfl rfl rfl rfl (fun _ _ => rfl) ?_
  rintro _ _ ⟨i, hi0_0, hi0_1, rfl, rfl⟩
  refine W_seq rfl ?_
  refine W_seq rfl ?_
  refine W_reg rfl ?_
  refine Rv rfl rfl rfl (U_move rfl) rfl rfl ?_
  refine Rv rfl rfl rfl (U_move rfl) rfl rfl ?_
  refine Rv rfl rfl rfl (U_lenOf rfl len_ros) rfl rfl ?_
  refine Rv rfl rfl rfl (U_lss rfl rfl) rfl rfl ?_
  refine Re rfl ?_
  refine thenQ_n ?_
  refine WcondP rfl rfl (fun hc0 => ?_) (fun hc0 => ?_)
  · have hci : i < Z * H := by omega
    refine W_skip rfl ?_
    refine thenQ_n ?_
    refine W_seq rfl ?_
    refine W_block rfl ?_
    refine W_seq rfl ?_
    refine Wjoin ⟨[(7, .ros ((fldQ Z H ls[a]).map n64) (H * Z) (some (H * Z))), (8, .ros ((fldQ Z H ls[b]).map n64) (H * Z) (some (H * Z))), (9, i64 ((i : Nat) : Int)), (33, .bool ((decide ((((fldQ Z H ls[a])[i] : Nat) : Int) = 1)) && (decide ((((fldQ Z H ls[b])[i] : Nat) : Int) = 1))))], [], 0, []⟩ ?_ ?_
    · refine W_reg rfl ?_
      refine Rv rfl rfl rfl (U_move rfl) rfl rfl ?_
      refine Rv rfl rfl rfl (U_move rfl) rfl rfl ?_
      have hx1 : i < (fldQ Z H ls[a]).length := by omega
      refine Rv rfl rfl rfl (U_indexR (j := i) rfl rfl rfl (by omega)) rfl rfl ?_
      refine Rv rfl rfl rfl (U_load1 rfl rfl (getM hx1)) rfl rfl ?_
      refine Rv rfl rfl rfl (U_eql rfl rfl) rfl rfl ?_
      refine Rv rfl rfl rfl (U_move rfl) rfl rfl ?_
      refine Rsplit (t := 27) rfl (fun hg2 => ?_) (fun hg2 => ?_)
      · rw [hg2]
        have hg2' : (((fldQ Z H ls[a])[i] : Nat) : Int) = 1 := of_decide_eq_true hg2
        refine Rv rfl rfl rfl (U_move rfl) rfl rfl ?_
        refine Rv rfl rfl rfl (U_move rfl) rfl rfl ?_
        have hx3 : i < (fldQ Z H ls[b]).length := by omega
        refine Rv rfl rfl rfl (U_indexR (j := i) rfl rfl rfl (by omega)) rfl rfl ?_
        refine Rv rfl rfl rfl (U_load1 rfl rfl (getM hx3)) rfl rfl ?_
        refine Rv rfl rfl rfl (U_eql rfl rfl) rfl rfl ?_
        refine Rv rfl rfl rfl (U_pick_t rfl rfl) rfl rfl ?_
        refine Re rfl ?_
        exact joinTo id ⟨eD rfl rfl, eD rfl rfl, eD rfl rfl, eD rfl rfl, trivial⟩ trivial rfl rfl rfl rfl (fun _ _ => rfl)
      · rw [hg2]
        have hg2' : ¬ ((((fldQ Z H ls[a])[i] : Nat) : Int) = 1) := of_decide_eq_false hg2
        refine Rs rfl rfl rfl rfl rfl ?_
        refine Rs rfl rfl rfl rfl rfl ?_
        refine Rs rfl rfl rfl rfl rfl ?_
        refine Rs rfl rfl rfl rfl rfl ?_
        refine Rs rfl rfl rfl rfl rfl ?_
        refine Rv rfl rfl rfl (U_pick_f rfl rfl) rfl rfl ?_
        refine Re rfl ?_
        exact joinTo id ⟨eD rfl rfl, eD rfl rfl, eD rfl rfl, eD rfl rfl, trivial⟩ trivial rfl rfl rfl rfl (fun _ _ => rfl)
    refine thenQ_n ?_
    refine Wcond rfl rfl (fun hc1 => ?_) (fun hc1 => ?_)
    · refine W_seq rfl ?_
      refine W_reg rfl ?_
      refine Rv rfl rfl rfl (U_assign rfl) rfl rfl ?_
      refine Re rfl ?_
      refine thenQ_n ?_
      refine W_ret rfl ?_
      refine blkQ_r ?_
      refine thenQ_r ?_
      refine thenQ_r ?_
      refine blkQ_r ?_
      refine thenQ_r ?_
      exact retL (rlT rfl rl0) (by first | rfl | (simp only [packA]; rw [met_fld hci (by rw [getD_at (by omega)]; simp at hc1; omega) (by rw [getD_at (by omega)]; simp at hc1; omega)]; first | done | rfl) | (simp only [packA]; rw [met_no fun j hj => hi0_1 j (by omega)]; first | done | rfl)) rfl
    · have hc1' := Bool.eq_false_iff.1 hc1
      refine W_skip rfl ?_
      refine blkQ_n ?_
      refine thenQ_n ?_
      refine W_reg rfl ?_
      refine Rv rfl rfl rfl (U_move rfl) rfl rfl ?_
      refine Rv rfl rfl rfl (U_add rfl rfl (w64e (m := ((i + 1 : Nat) : Int)) (by omega) (by omega) (by omega))) rfl rfl ?_
      refine Rv rfl rfl rfl (U_assign rfl) rfl rfl ?_
      refine Re rfl ?_
      refine thenQ_n ?_
      exact againTo (T' := [(7, .ros ((fldQ Z H ls[a]).map n64) (H * Z) (some (H * Z))), (8, .ros ((fldQ Z H ls[b]).map n64) (H * Z) (some (H * Z))), (9, i64 (((i + 1) : Nat) : Int))]) (H' := []) (n := 0) (H * Z - (i + 1)) ⟨i + 1, (by omega), (by intro j h; rcases Nat.lt_succ_iff_lt_or_eq.1 h with h | rfl; exact hi0_1 j h; rw [getD_at (by omega), getD_at (by omega)]; simp at hc1; omega), rfl, rfl⟩ (by omega) id ⟨eD rfl rfl, eD rfl rfl, eD rfl rfl, trivial⟩ trivial rfl rfl rfl rfl (fun _ _ => rfl)
  · refine W_exit rfl ?_
    refine thenQ_x ?_
    refine thenQ_x ?_
    refine blkQ_x rfl ?_
    refine thenQ_n ?_
    refine W_seq rfl ?_
    refine W_reg rfl ?_
    refine Rv rfl rfl rfl (U_assign rfl) rfl rfl ?_
    refine Re rfl ?_
    refine thenQ_n ?_
    refine W_ret rfl ?_
    exact retL (rlT rfl rl0) (by first | rfl | (simp only [packA]; rw [met_fld hci (by rw [getD_at (by omega)]; simp at hc1; omega) (by rw [getD_at (by omega)]; simp at hc1; omega)]; first | done | rfl) | (simp only [packA]; rw [met_no fun j hj => hi0_1 j (by omega)]; first | done | rfl)) rfl
end Go.Proofs.Ythlolelbmhfdbaa
end

section
namespace Go.Proofs.Ythlolelbmhfdbaa
set_option maxRecDepth 20000
open Go.AE
def mostQ (ls : List (List Bx)) : Int := ls.foldl (fun m l => max m (l.length : Int)) 0
theorem mostQ_take {ls : List (List Bx)} {i : Nat} (hi : i < ls.length) : mostQ (ls.take (i + 1)) = max (mostQ (ls.take i)) (ls[i].length : Int) := by
  unfold mostQ; rw [List.take_succ_eq_append_getElem hi, List.foldl_append]; rfl
theorem mostF_ge {ls : List (List Bx)} : ∀ {m : Int}, m ≤ ls.foldl (fun m l => max m (l.length : Int)) m := by
  induction ls with
  | nil => intro m; exact Int.le_refl m
  | cons a l ih => intro m; exact Int.le_trans (Int.le_max_left m _) ih
theorem mostF_mem {ls : List (List Bx)} : ∀ {m : Int} {l : List Bx}, l ∈ ls → (l.length : Int) ≤ ls.foldl (fun m l => max m (l.length : Int)) m := by
  induction ls with
  | nil => intro m l h; cases h
  | cons a r ih =>
    intro m l h
    cases h with
    | head => exact Int.le_trans (Int.le_max_right m _) mostF_ge
    | tail _ h => exact ih h
theorem mostQ_mem {ls : List (List Bx)} {l : List Bx} (h : l ∈ ls) : (l.length : Int) ≤ mostQ ls := mostF_mem h
def grt (s : Sk) : Bool := decide (14 < s.ls.length) || (decide (610 < mostQ s.ls) || (decide (chkS s = 0) && (decide (120 < s.h * s.z) || decide (30 < mostQ s.ls))))
theorem chkS_hz {s : Sk} (h : chkS s = 0) : 1 ≤ s.h ∧ s.h ≤ 48 ∧ 1 ≤ s.z ∧ s.z ≤ 24 ∧ 1 ≤ s.h * s.z ∧ s.h * s.z ≤ 1152 := by
  obtain ⟨H, Z, e1, e2, hH, hZ, _⟩ := vs_of h
  have := Int.mul_le_mul (show s.h ≤ 48 by omega) (show s.z ≤ 24 by omega) (by omega) (by omega)
  have := Int.mul_pos (show 0 < s.h by omega) (show 0 < s.z by omega)
  omega
theorem grt_ls {s : Sk} (h : grt s = false) : s.ls.length ≤ 1000000 := by
  simp [grt] at h; omega
theorem grt_bl {s : Sk} (h : grt s = false) : ∀ l ∈ s.ls, l.length ≤ 1000000 := by
  intro l hl; have := mostQ_mem hl; simp [grt] at h; omega
theorem bl_most {ls : List (List Bx)} (h : mostQ ls ≤ 610) : ∀ l ∈ ls, l.length ≤ 1000000 := by
  intro l hl; have := mostQ_mem hl; omega
theorem great_p (s : Sk) (c : Option Nat) : Pure Try.prog 16 [.agg [i64 s.h, i64 s.z, landsA s.ls c]] (.bool (grt s)) := by
  refine pure_of_body Try.func16 (c := body Try.f16) rfl (by simp [Try.ntmps16]) fun w0 Φ0 => ?_
  refine W_seq rfl ?_
  refine W_reg rfl ?_
  refine Rv rfl rfl rfl (U_boxF rfl rfl rfl) rfl rfl ?_
  refine Rv rfl rfl rfl (U_assign rfl) rfl rfl ?_
  refine Re rfl ?_
  refine thenQ_n ?_
  refine W_seq rfl ?_
  refine W_seq rfl ?_
  refine W_reg rfl ?_
  refine Rv rfl rfl rfl (U_fieldAddrR rfl) rfl rfl ?_
  refine Rv rfl rfl rfl (U_load1 rfl rfl rfl) rfl rfl ?_
  refine Rv rfl rfl rfl (U_lenOf rfl len_ros) rfl rfl ?_
  refine Rv rfl rfl rfl (U_gtr rfl rfl) rfl rfl ?_
  refine Re rfl ?_
  refine thenQ_n ?_
  refine WcondP rfl rfl (fun hc0 => ?_) (fun hc0 => ?_)
  · refine W_seq rfl ?_
    refine W_reg rfl ?_
    refine Rv rfl rfl rfl (U_assign rfl) rfl rfl ?_
    refine Re rfl ?_
    refine thenQ_n ?_
    refine W_ret rfl ?_
    refine thenQ_r ?_
    exact retL (rlT rfl rl0) (by first | rfl | (exact congrArg AV.bool (by unfold grt; first | (rw [show decide (14 < s.ls.length) = true from decide_eq_true (by omega)]; rfl) | (rw [show decide (14 < s.ls.length) = false from decide_eq_false (by omega), hmq, Bool.false_or])); done)) rfl
  · refine W_skip rfl ?_
    refine thenQ_n ?_
    refine W_seq rfl ?_
    refine W_reg rfl ?_
    refine Rv rfl rfl rfl (U_assign rfl) rfl rfl ?_
    refine Re rfl ?_
    refine thenQ_n ?_
    refine W_seq rfl ?_
    refine W_seq rfl ?_
    refine W_reg rfl ?_
    refine Rv rfl rfl rfl (U_assign rfl) rfl rfl ?_
    refine Re rfl ?_
    refine thenQ_n ?_
    refine W_block rfl ?_
    refine LoopTo (T' := [(1, .rop [i64 s.h, i64 s.z, .ros (s.ls.map boxesL) s.ls.length c] 0), (3, i64 0), (4, i64 ((0 : Nat) : Int))]) (H' := []) (n := 0) rfl (fun mz_ qz_ => ∃ (i : Nat) (m : Int), i ≤ s.ls.length ∧ m = mostQ (s.ls.take i) ∧ mz_ = s.ls.length - i ∧ qz_ = ⟨[(1, .rop [i64 s.h, i64 s.z, .ros (s.ls.map boxesL) s.ls.length c] 0), (3, i64 m), (4, i64 ((i : Nat) : Int))], [], 0, []⟩) ⟨0, 0, (by omega), rfl, rfl, rfl⟩ id ⟨eD rfl rfl, eD rfl rfl, eD rfl rfl, trivial⟩ trivial rfl rfl rfl rfl (fun _ _ => rfl) ?_
    rintro _ _ ⟨i, m, hi0_0, hi0_1, rfl, rfl⟩
    refine W_seq rfl ?_
    refine W_seq rfl ?_
    refine W_reg rfl ?_
    refine Rv rfl rfl rfl (U_move rfl) rfl rfl ?_
    refine Rv rfl rfl rfl (U_fieldAddrR rfl) rfl rfl ?_
    refine Rv rfl rfl rfl (U_load1 rfl rfl rfl) rfl rfl ?_
    refine Rv rfl rfl rfl (U_lenOf rfl len_ros) rfl rfl ?_
    refine Rv rfl rfl rfl (U_lss rfl rfl) rfl rfl ?_
    refine Re rfl ?_
    refine thenQ_n ?_
    refine WcondP rfl rfl (fun hc1 => ?_) (fun hc1 => ?_)
    · refine W_skip rfl ?_
      refine thenQ_n ?_
      refine W_seq rfl ?_
      refine W_block rfl ?_
      refine W_reg rfl ?_
      refine Rv rfl rfl rfl (U_move rfl) rfl rfl ?_
      refine Rv rfl rfl rfl (U_fieldAddrR rfl) rfl rfl ?_
      refine Rv rfl rfl rfl (U_load1 rfl rfl rfl) rfl rfl ?_
      refine Rv rfl rfl rfl (U_move rfl) rfl rfl ?_
      have hx1 : i < s.ls.length := by omega
      refine Rv rfl rfl rfl (U_indexR (j := i) rfl rfl rfl hx1) rfl rfl ?_
      refine Rv rfl rfl rfl (U_load1 rfl rfl (getM hx1)) rfl rfl ?_
      refine Rv rfl rfl rfl (U_lenOf rfl len_ros) rfl rfl ?_
      refine Rv rfl rfl rfl (U_max rfl rfl rfl) rfl rfl ?_
      refine Rv rfl rfl rfl (U_assign rfl) rfl rfl ?_
      refine Re rfl ?_
      refine blkQ_n ?_
      refine thenQ_n ?_
      refine W_reg rfl ?_
      refine Rv rfl rfl rfl (U_move rfl) rfl rfl ?_
      refine Rv rfl rfl rfl (U_add rfl rfl (w64e (m := ((i + 1 : Nat) : Int)) (by omega) (by omega) (by omega))) rfl rfl ?_
      refine Rv rfl rfl rfl (U_assign rfl) rfl rfl ?_
      refine Re rfl ?_
      refine thenQ_n ?_
      exact againTo (T' := [(1, .rop [i64 s.h, i64 s.z, .ros (s.ls.map boxesL) s.ls.length c] 0), (3, i64 (max m ((s.ls[i].length : Nat) : Int))), (4, i64 (((i + 1) : Nat) : Int))]) (H' := []) (n := 0) (s.ls.length - (i + 1)) ⟨i + 1, max m ((s.ls[i].length : Nat) : Int), (by omega), (by rw [mostQ_take (by omega), ← hi0_1]), rfl, rfl⟩ (by omega) id ⟨eD rfl rfl, eD rfl rfl, eD rfl rfl, trivial⟩ trivial rfl rfl rfl rfl (fun _ _ => rfl)
    · have hmq : m = mostQ s.ls := by rw [hi0_1, show i = s.ls.length by omega, List.take_length]
      refine W_exit rfl ?_
      refine thenQ_x ?_
      refine thenQ_x ?_
      refine blkQ_x rfl ?_
      refine thenQ_n ?_
      refine W_seq rfl ?_
      refine Wjoin ⟨[(2, .bool ((decide (610 < m)) || ((decide ((chkS s) = 0)) && ((decide (120 < (s.h * s.z))) || (decide (30 < m))))))], [], 0, []⟩ ?_ ?_
      · refine W_reg rfl ?_
        refine Rv rfl rfl rfl (U_move rfl) rfl rfl ?_
        refine Rv rfl rfl rfl (U_gtr rfl rfl) rfl rfl ?_
        refine Rv rfl rfl rfl (U_move rfl) rfl rfl ?_
        refine Rsplit (t := 26) rfl (fun hg2 => ?_) (fun hg2 => ?_)
        · rw [hg2]
          have hg2' : 610 < m := of_decide_eq_true hg2
          refine Rs rfl rfl rfl rfl rfl ?_
          refine Rs rfl rfl rfl rfl rfl ?_
          refine Rs rfl rfl rfl rfl rfl ?_
          refine Rs rfl rfl rfl rfl rfl ?_
          refine Rs rfl rfl rfl rfl rfl ?_
          refine Rs rfl rfl rfl rfl rfl ?_
          refine Rs rfl rfl rfl rfl rfl ?_
          refine Rs rfl rfl rfl rfl rfl ?_
          refine Rs rfl rfl rfl rfl rfl ?_
          refine Rs rfl rfl rfl rfl rfl ?_
          refine Rs rfl rfl rfl rfl rfl ?_
          refine Rs rfl rfl rfl rfl rfl ?_
          refine Rs rfl rfl rfl rfl rfl ?_
          refine Rs rfl rfl rfl rfl rfl ?_
          refine Rs rfl rfl rfl rfl rfl ?_
          refine Rv rfl rfl rfl (U_pick_t rfl rfl) rfl rfl ?_
          refine Rv rfl rfl rfl (U_assign rfl) rfl rfl ?_
          refine Re rfl ?_
          exact joinTo id ⟨eD rfl rfl, trivial⟩ trivial rfl rfl rfl rfl (fun _ _ => rfl)
        · rw [hg2]
          have hg2' : ¬ (610 < m) := of_decide_eq_false hg2
          have hbl := bl_most (ls := s.ls) (by omega)
          have hl : s.ls.length ≤ 1000000 := by omega
          refine Rv rfl rfl rfl (U_load3 rfl rfl rfl rfl rfl) rfl rfl ?_
          refine Rv rfl rfl rfl (U_call rfl rfl (chkSR_p s c hl hbl) rfl) rfl rfl ?_
          refine Rv rfl rfl rfl (U_eql rfl rfl) rfl rfl ?_
          refine Rv rfl rfl rfl (U_move rfl) rfl rfl ?_
          refine Rsplit (t := 30) rfl (fun hg3 => ?_) (fun hg3 => ?_)
          · rw [hg3]
            have hg3' : (chkS s) = 0 := of_decide_eq_true hg3
            have hhz := chkS_hz hg3'
            refine Rv rfl rfl rfl (U_fieldAddrR rfl) rfl rfl ?_
            refine Rv rfl rfl rfl (U_load1 rfl rfl rfl) rfl rfl ?_
            refine Rv rfl rfl rfl (U_fieldAddrR rfl) rfl rfl ?_
            refine Rv rfl rfl rfl (U_load1 rfl rfl rfl) rfl rfl ?_
            refine Rv rfl rfl rfl (U_mul rfl rfl (w64 (by omega) (by omega))) rfl rfl ?_
            refine Rv rfl rfl rfl (U_gtr rfl rfl) rfl rfl ?_
            refine Rv rfl rfl rfl (U_move rfl) rfl rfl ?_
            refine Rsplit (t := 37) rfl (fun hg4 => ?_) (fun hg4 => ?_)
            · rw [hg4]
              have hg4' : 120 < (s.h * s.z) := of_decide_eq_true hg4
              refine Rs rfl rfl rfl rfl rfl ?_
              refine Rs rfl rfl rfl rfl rfl ?_
              refine Rv rfl rfl rfl (U_pick_t rfl rfl) rfl rfl ?_
              refine Rv rfl rfl rfl (U_pick_t rfl rfl) rfl rfl ?_
              refine Rv rfl rfl rfl (U_pick_f rfl rfl) rfl rfl ?_
              refine Rv rfl rfl rfl (U_assign rfl) rfl rfl ?_
              refine Re rfl ?_
              exact joinTo id ⟨eD rfl rfl, trivial⟩ trivial rfl rfl rfl rfl (fun _ _ => rfl)
            · rw [hg4]
              have hg4' : ¬ (120 < (s.h * s.z)) := of_decide_eq_false hg4
              refine Rv rfl rfl rfl (U_move rfl) rfl rfl ?_
              refine Rv rfl rfl rfl (U_gtr rfl rfl) rfl rfl ?_
              refine Rv rfl rfl rfl (U_pick_f rfl rfl) rfl rfl ?_
              refine Rv rfl rfl rfl (U_pick_t rfl rfl) rfl rfl ?_
              refine Rv rfl rfl rfl (U_pick_f rfl rfl) rfl rfl ?_
              refine Rv rfl rfl rfl (U_assign rfl) rfl rfl ?_
              refine Re rfl ?_
              exact joinTo id ⟨eD rfl rfl, trivial⟩ trivial rfl rfl rfl rfl (fun _ _ => rfl)
          · rw [hg3]
            have hg3' : ¬ ((chkS s) = 0) := of_decide_eq_false hg3
            refine Rs rfl rfl rfl rfl rfl ?_
            refine Rs rfl rfl rfl rfl rfl ?_
            refine Rs rfl rfl rfl rfl rfl ?_
            refine Rs rfl rfl rfl rfl rfl ?_
            refine Rs rfl rfl rfl rfl rfl ?_
            refine Rs rfl rfl rfl rfl rfl ?_
            refine Rs rfl rfl rfl rfl rfl ?_
            refine Rs rfl rfl rfl rfl rfl ?_
            refine Rs rfl rfl rfl rfl rfl ?_
            refine Rs rfl rfl rfl rfl rfl ?_
            refine Rv rfl rfl rfl (U_pick_f rfl rfl) rfl rfl ?_
            refine Rv rfl rfl rfl (U_pick_f rfl rfl) rfl rfl ?_
            refine Rv rfl rfl rfl (U_assign rfl) rfl rfl ?_
            refine Re rfl ?_
            exact joinTo id ⟨eD rfl rfl, trivial⟩ trivial rfl rfl rfl rfl (fun _ _ => rfl)
      refine thenQ_n ?_
      refine W_ret rfl ?_
      exact retL (rlT rfl rl0) (by first | rfl | (exact congrArg AV.bool (by unfold grt; first | (rw [show decide (14 < s.ls.length) = true from decide_eq_true (by omega)]; rfl) | (rw [show decide (14 < s.ls.length) = false from decide_eq_false (by omega), hmq, Bool.false_or])); done)) rfl
theorem fine_p (s : Sk) (c : Option Nat) : Pure Try.prog 47 [.agg [i64 s.h, i64 s.z, landsA s.ls c]] (.bool (!grt s && decide (chkS s = 0))) := by
  refine pure_of_body Try.func47 (c := body Try.f47) rfl (by simp [Try.ntmps47]) fun w0 Φ0 => ?_
  refine W_seq rfl ?_
  refine W_reg rfl ?_
  refine Rv rfl rfl rfl (U_boxF rfl rfl rfl) rfl rfl ?_
  refine Rv rfl rfl rfl (U_assign rfl) rfl rfl ?_
  refine Re rfl ?_
  refine thenQ_n ?_
  refine W_seq rfl ?_
  refine Wjoin ⟨[(2, .bool ((!(grt s)) && (decide ((chkS s) = 0))))], [], 0, []⟩ ?_ ?_
  · refine W_reg rfl ?_
    refine Rv rfl rfl rfl (U_load3 rfl rfl rfl rfl rfl) rfl rfl ?_
    refine Rv rfl rfl rfl (U_call rfl rfl (great_p s c) rfl) rfl rfl ?_
    refine Rv rfl rfl rfl (U_not rfl) rfl rfl ?_
    refine Rv rfl rfl rfl (U_move rfl) rfl rfl ?_
    refine Rsplit (t := 6) rfl (fun hg1 => ?_) (fun hg1 => ?_)
    · rw [hg1]
      have hgr : grt s = false := by simpa using hg1
      have hl := grt_ls hgr
      have hbl := grt_bl hgr
      refine Rv rfl rfl rfl (U_load3 rfl rfl rfl rfl rfl) rfl rfl ?_
      refine Rv rfl rfl rfl (U_call rfl rfl (chkSR_p s c hl hbl) rfl) rfl rfl ?_
      refine Rv rfl rfl rfl (U_eql rfl rfl) rfl rfl ?_
      refine Rv rfl rfl rfl (U_pick_t rfl rfl) rfl rfl ?_
      refine Rv rfl rfl rfl (U_assign rfl) rfl rfl ?_
      refine Re rfl ?_
      exact joinTo id ⟨eD rfl rfl, trivial⟩ trivial rfl rfl rfl rfl (fun _ _ => rfl)
    · rw [hg1]
      refine Rs rfl rfl rfl rfl rfl ?_
      refine Rs rfl rfl rfl rfl rfl ?_
      refine Rs rfl rfl rfl rfl rfl ?_
      refine Rv rfl rfl rfl (U_pick_f rfl rfl) rfl rfl ?_
      refine Rv rfl rfl rfl (U_assign rfl) rfl rfl ?_
      refine Re rfl ?_
      exact joinTo id ⟨eD rfl rfl, trivial⟩ trivial rfl rfl rfl rfl (fun _ _ => rfl)
  refine thenQ_n ?_
  refine W_ret rfl ?_
  exact retL (rlT rfl rl0) rfl rfl
end Go.Proofs.Ythlolelbmhfdbaa
end

section
namespace Go.Proofs.Ythlolelbmhfdbaa
set_option maxRecDepth 20000
open Go.AE
theorem sumS_add {α : Type} {f g : α → Nat} : ∀ {l : List α}, (l.map fun x => f x + g x).sum = (l.map f).sum + (l.map g).sum
  | [] => rfl
  | a :: l => by simp only [List.map_cons, List.sum_cons, sumS_add (l := l)]; omega
theorem sumS_mul {α : Type} {f : α → Nat} {k : Nat} : ∀ {l : List α}, (l.map fun x => k * f x).sum = k * (l.map f).sum
  | [] => by simp
  | a :: l => by simp only [List.map_cons, List.sum_cons, sumS_mul (l := l), Nat.mul_add]
theorem sumS_congr {α : Type} {f g : α → Nat} {l : List α} (h : ∀ x ∈ l, f x = g x) : (l.map f).sum = (l.map g).sum := by rw [List.map_congr_left h]
theorem sumS_le {α : Type} {f g : α → Nat} : ∀ {l : List α}, (∀ x ∈ l, f x ≤ g x) → (l.map f).sum ≤ (l.map g).sum
  | [], _ => Nat.le_refl _
  | a :: l, h => by
    have h1 := h a (.head _); have h2 := sumS_le (l := l) fun x hx => h x (.tail _ hx)
    simp only [List.map_cons, List.sum_cons]; omega
theorem sumS_0 {α : Type} {f : α → Nat} {l : List α} (h : ∀ x ∈ l, f x = 0) : (l.map f).sum = 0 := by
  rw [sumS_congr (g := fun _ => 0) h]; induction l with
  | nil => rfl
  | cons a l ih => simp [ih fun x hx => h x (.tail _ hx)]
def adjQ (Z H : Nat) (p q : Nat × Nat) : Nat :=
  (if 1 < H ∧ q = (p.1, (p.2 + 1) % H) then 1 else 0) + (if 2 < H ∧ q = (p.1, (p.2 + H - 1) % H) then 1 else 0) + (if 0 < p.1 ∧ q = (p.1 - 1, p.2) then 1 else 0) + (if p.1 + 1 < Z ∧ q = (p.1 + 1, p.2) then 1 else 0)
theorem succ_mod {h H : Nat} (hh : h < H) : (h + 1) % H = if h + 1 < H then h + 1 else 0 := by
  split
  · exact Nat.mod_eq_of_lt ‹_›
  · rw [show h + 1 = H by omega, Nat.mod_self]
theorem pred_mod {h H : Nat} (hh : h < H) : (h + H - 1) % H = if 0 < h then h - 1 else H - 1 := by
  split
  · rw [show h + H - 1 = h - 1 + H by omega, Nat.add_mod_right, Nat.mod_eq_of_lt (by omega)]
  · rw [show h + H - 1 = H - 1 by omega, Nat.mod_eq_of_lt (by omega)]
theorem iteE {c d : Prop} [Decidable c] [Decidable d] (h : c ↔ d) : (if c then 1 else 0 : Nat) = if d then 1 else 0 := by
  by_cases e : c
  · rw [if_pos e, if_pos (h.1 e)]
  · rw [if_neg e, if_neg fun k => e (h.2 k)]
theorem adjQ_comm {Z H : Nat} {p q : Nat × Nat} (hp : p.1 < Z ∧ p.2 < H) (hq : q.1 < Z ∧ q.2 < H) : adjQ Z H p q = adjQ Z H q p := by
  obtain ⟨z, h⟩ := p; obtain ⟨y, g⟩ := q
  simp only at hp hq
  unfold adjQ
  simp only [Prod.mk.injEq, succ_mod hp.2, succ_mod hq.2, pred_mod hp.2, pred_mod hq.2]
  have e1 : (if 0 < z ∧ y = z - 1 ∧ g = h then 1 else 0) = if y + 1 < Z ∧ z = y + 1 ∧ h = g then 1 else 0 := by
    have : (0 < z ∧ y = z - 1 ∧ g = h) ↔ (y + 1 < Z ∧ z = y + 1 ∧ h = g) := by omega
    simp only [this]
  have e2 : (if z + 1 < Z ∧ y = z + 1 ∧ g = h then 1 else 0) = if 0 < y ∧ z = y - 1 ∧ h = g then 1 else 0 := by
    have : (z + 1 < Z ∧ y = z + 1 ∧ g = h) ↔ (0 < y ∧ z = y - 1 ∧ h = g) := by omega
    simp only [this]
  rw [e1, e2]
  have e3 : (if 1 < H ∧ y = z ∧ g = (if h + 1 < H then h + 1 else 0) then 1 else 0) + (if 2 < H ∧ y = z ∧ g = (if 0 < h then h - 1 else H - 1) then 1 else 0) = (if 1 < H ∧ z = y ∧ h = (if g + 1 < H then g + 1 else 0) then 1 else 0) + (if 2 < H ∧ z = y ∧ h = (if 0 < g then g - 1 else H - 1) then 1 else 0) := by
    by_cases e : y = z
    · subst e
      by_cases h2 : 2 < H
      · have a1 : (1 < H ∧ y = y ∧ g = (if h + 1 < H then h + 1 else 0)) ↔ (2 < H ∧ y = y ∧ h = (if 0 < g then g - 1 else H - 1)) := by split <;> split <;> omega
        have a2 : (2 < H ∧ y = y ∧ g = (if 0 < h then h - 1 else H - 1)) ↔ (1 < H ∧ y = y ∧ h = (if g + 1 < H then g + 1 else 0)) := by split <;> split <;> omega
        have b1 := iteE a1; have b2 := iteE a2
        omega
      · have a1 : (1 < H ∧ y = y ∧ g = (if h + 1 < H then h + 1 else 0)) ↔ (1 < H ∧ y = y ∧ h = (if g + 1 < H then g + 1 else 0)) := by split <;> split <;> omega
        have b1 := iteE a1
        have b2 : (if 2 < H ∧ y = y ∧ g = (if 0 < h then h - 1 else H - 1) then 1 else 0 : Nat) = 0 := if_neg fun h => h2 h.1
        have b3 : (if 2 < H ∧ y = y ∧ h = (if 0 < g then g - 1 else H - 1) then 1 else 0 : Nat) = 0 := if_neg fun h => h2 h.1
        omega
    · rw [if_neg fun h => e h.2.1, if_neg fun h => e h.2.1, if_neg fun h => e h.2.1.symm, if_neg fun h => e h.2.1.symm]
  omega
theorem sizQ_plc {Z H : Nat} {l : List Bx} : sizQ Z H l = ((plcQ Z H).map fun p => bitQ l H p.1 p.2).sum := by
  unfold sizQ fldQ plcQ; rw [List.map_map]; rfl
theorem brQ_le {Z H : Nat} {la lb : List Bx} : brQ Z H la lb ≤ 4 * sizQ Z H la := by
  rw [sizQ_plc, ← sumS_mul]
  exact sumS_le fun p _ => by rw [Nat.mul_comm]; exact Nat.mul_le_mul_right _ nbQ_le
end Go.Proofs.Ythlolelbmhfdbaa
end

section
namespace Go.Proofs.Ythlolelbmhfdbaa
set_option maxRecDepth 20000
open Go.AE
theorem sk_ok {s : Sk} (h : chkS s = 0) : ∃ (H Z : Nat) (ls : List (List Bx)), s = ⟨H, Z, ls⟩ ∧ VS ⟨H, Z, ls⟩ H Z := by
  obtain ⟨H, Z, hv⟩ := vs_of h
  obtain ⟨h', z', ls⟩ := s
  have e1 := hv.h; have e2 := hv.z
  simp only at e1 e2
  subst e1; subst e2
  exact ⟨H, Z, ls, rfl, hv⟩
theorem fineF_p (s : Sk) (c : Option Nat) (h : (!grt s && decide (chkS s = 0)) = false) : Pure Try.prog 47 [.agg [i64 s.h, i64 s.z, landsA s.ls c]] (.bool false) := by
  have := fine_p s c; rwa [h] at this
theorem fineT_p (H Z : Nat) (ls : List (List Bx)) (c : Option Nat) (hg : grt ⟨H, Z, ls⟩ = false) (hc : chkS ⟨H, Z, ls⟩ = 0) : Pure Try.prog 47 [.agg [i64 (H : Nat), i64 (Z : Nat), landsA ls c]] (.bool true) := by
  have := fine_p ⟨H, Z, ls⟩ c; rwa [hg, hc] at this
theorem sizQ_le {Z H : Nat} {l : List Bx} : sizQ Z H l ≤ Z * H := by
  have := fldQ_sum_le (Z := Z) (H := H) (l := l) (Z * H)
  rwa [List.take_of_length_le (by rw [fldQ_len]; exact Nat.le_refl _)] at this
end Go.Proofs.Ythlolelbmhfdbaa
end

section
namespace Go.Proofs.Ythlolelbmhfdbaa
set_option maxRecDepth 20000
open Go.AE
theorem vs_chk {H Z : Nat} {ls : List (List Bx)} (h : VS ⟨H, Z, ls⟩ H Z) : chkS ⟨H, Z, ls⟩ = 0 := by
  have h1 := h.h1; have h2 := h.z1; have h3 := h.ln; have h4 := h.lb; have h5 := h.bx
  simp only at h3 h4 h5
  unfold chkS
  rw [if_neg, if_neg, if_neg]
  · simp only [List.any_eq_true, not_exists, not_and]
    intro l hl b hb
    have := isB_iff.2 (h5 l hl b hb)
    simp [this]
  · simp only [Bool.or_eq_true, decide_eq_true_eq, List.any_eq_true, not_or, not_exists, not_and]
    exact ⟨by omega, fun l hl => by have := h4 l hl; omega⟩
  · rw [inL1, inL1]; simp; omega
theorem inL_app {a b : List Bx} {H z h : Nat} : inL' (a ++ b) H z h = (inL' a H z h || inL' b H z h) := by
  unfold inL'; rw [List.any_append, Bool.and_or_distrib_left]
theorem bit_app {Z H : Nat} {a b : List Bx} {p : Nat × Nat} (h : metQ Z H a b = false) (hp : p ∈ plcQ Z H) : bitQ (a ++ b) H p.1 p.2 = bitQ a H p.1 p.2 + bitQ b H p.1 p.2 := by
  have := List.any_eq_false.1 h p hp
  unfold bitQ; rw [inL_app]
  revert this
  cases inL' a H p.1 p.2 <;> cases inL' b H p.1 p.2 <;> simp
theorem siz_app {Z H : Nat} {a b : List Bx} (h : metQ Z H a b = false) : sizQ Z H (a ++ b) = sizQ Z H a + sizQ Z H b := by
  rw [sizQ_plc, sizQ_plc, sizQ_plc, ← sumS_add]
  exact sumS_congr fun p hp => bit_app h hp
theorem br_app {Z H : Nat} {a b c : List Bx} (h : metQ Z H a b = false) : brQ Z H (a ++ b) c = brQ Z H a c + brQ Z H b c := by
  unfold brQ; rw [← sumS_add]
  exact sumS_congr fun p hp => by rw [bit_app h hp, Nat.add_mul]
theorem bit_nil {H z h : Nat} : bitQ [] H z h = 0 := by simp [bitQ, inL']
theorem siz_nil {Z H : Nat} : sizQ Z H [] = 0 := by rw [sizQ_plc]; exact sumS_0 fun _ _ => bit_nil
theorem br_nil {Z H : Nat} {c : List Bx} : brQ Z H [] c = 0 := by unfold brQ; exact sumS_0 fun _ _ => by rw [bit_nil, Nat.zero_mul]
def joinL (ls : List (List Bx)) (i k : Nat) : List (List Bx) := (ls.set i (ls.getD i [] ++ ls.getD k [])).set k []
theorem joinL_len {ls : List (List Bx)} {i k : Nat} : (joinL ls i k).length = ls.length := by simp [joinL]
theorem joinL_i {ls : List (List Bx)} {i k : Nat} (hi : i < ls.length) (hk : k < ls.length) (hn : i ≠ k) : (joinL ls i k)[i]'(by rw [joinL_len]; exact hi) = ls[i] ++ ls[k] := by
  unfold joinL; rw [List.getElem_set_ne (Ne.symm hn), List.getElem_set_self]
  simp [List.getD_eq_getElem?_getD, List.getElem?_eq_getElem, hi, hk]
theorem joinL_k {ls : List (List Bx)} {i k : Nat} (hk : k < ls.length) : (joinL ls i k)[k]'(by rw [joinL_len]; exact hk) = [] := by
  unfold joinL; rw [List.getElem_set_self]
theorem joinL_j {ls : List (List Bx)} {i k j : Nat} (hj : j < ls.length) (h1 : j ≠ i) (h2 : j ≠ k) : (joinL ls i k)[j]'(by rw [joinL_len]; exact hj) = ls[j] := by
  unfold joinL; rw [List.getElem_set_ne (Ne.symm h2), List.getElem_set_ne (Ne.symm h1)]
theorem joinL_mem {ls : List (List Bx)} {i k : Nat} (hi : i < ls.length) (hk : k < ls.length) {l : List Bx} (h : l ∈ joinL ls i k) : l = [] ∨ l = ls[i] ++ ls[k] ∨ l ∈ ls := by
  rcases List.mem_or_eq_of_mem_set h with h | h
  · rcases List.mem_or_eq_of_mem_set h with h | h
    · exact .inr (.inr h)
    · exact .inr (.inl (by rw [h]; simp [List.getD_eq_getElem?_getD, List.getElem?_eq_getElem, hi, hk]))
  · exact .inl h
theorem joinL_vs {H Z : Nat} {ls : List (List Bx)} {i k : Nat} (hv : VS ⟨H, Z, ls⟩ H Z) (hi : i < ls.length) (hk : k < ls.length) (h1 : ls[i].length ≤ 15) (h2 : ls[k].length ≤ 15) : VS ⟨H, Z, joinL ls i k⟩ H Z := by
  refine ⟨rfl, rfl, hv.h1, hv.z1, by show (joinL ls i k).length ≤ 10; rw [joinL_len]; exact hv.ln, fun l hl => ?_, fun l hl b hb => ?_⟩
  · rcases joinL_mem hi hk hl with rfl | rfl | h
    · simp
    · rw [List.length_append]; omega
    · exact hv.lb l h
  · rcases joinL_mem hi hk hl with rfl | rfl | h
    · cases hb
    · rcases List.mem_append.1 hb with h | h
      · exact hv.bx _ (List.getElem_mem hi) b h
      · exact hv.bx _ (List.getElem_mem hk) b h
    · exact hv.bx l h b hb
end Go.Proofs.Ythlolelbmhfdbaa
end

section
namespace Go.Proofs.Ythlolelbmhfdbaa
set_option maxRecDepth 20000
open Go.AE
theorem borderJoinedF_p (s : Sk) (c : Option Nat) (hf : (!grt s && decide (chkS s = 0)) = false) (a b d : Nat) (ha : a < 256) (hb : b < 256) (hd : d < 256) : Pure Try.prog 14 [.agg [i64 s.h, i64 s.z, landsA s.ls c], .int .u8 (a : Nat), .int .u8 (b : Nat), .int .u8 (d : Nat)] (.bool true) := by
  refine pure_of_body Try.func14 (c := body Try.f14) rfl (by simp [Try.ntmps14]) fun w0 Φ0 => ?_
  refine W_seq rfl ?_
  refine W_reg rfl ?_
  refine Rv rfl rfl rfl (U_boxF rfl rfl rfl) rfl rfl ?_
  refine Rv rfl rfl rfl (U_assign rfl) rfl rfl ?_
  refine Re rfl ?_
  refine thenQ_n ?_
  refine W_seq rfl ?_
  refine W_seq rfl ?_
  refine W_reg rfl ?_
  refine Rv rfl rfl rfl (U_load3 rfl rfl rfl rfl rfl) rfl rfl ?_
  refine Rv rfl rfl rfl (U_call rfl rfl (fineF_p s c hf) rfl) rfl rfl ?_
  refine Rv rfl rfl rfl (U_not rfl) rfl rfl ?_
  refine Rv rfl rfl rfl (U_move rfl) rfl rfl ?_
  refine Rs rfl rfl rfl rfl rfl ?_
  refine Rs rfl rfl rfl rfl rfl ?_
  refine Rs rfl rfl rfl rfl rfl ?_
  refine Rs rfl rfl rfl rfl rfl ?_
  refine Rv rfl rfl rfl (U_pick_t rfl rfl) rfl rfl ?_
  refine Re rfl ?_
  refine thenQ_n ?_
  refine Wcond rfl rfl (fun _ => ?_) (fun h => nomatch h)
  refine W_seq rfl ?_
  refine W_reg rfl ?_
  refine Rv rfl rfl rfl (U_call rfl rfl (works_p) rfl) rfl rfl ?_
  refine Rv rfl rfl rfl (U_assign rfl) rfl rfl ?_
  refine Re rfl ?_
  refine thenQ_n ?_
  refine W_ret rfl ?_
  refine thenQ_r ?_
  exact retL (rlT rfl rl0) rfl rfl
theorem borderJoined0_p (H Z : Nat) (ls : List (List Bx)) (c : Option Nat) (hc : chkS ⟨H, Z, ls⟩ = 0) (hv : VS ⟨H, Z, ls⟩ H Z) (hg : grt ⟨H, Z, ls⟩ = false) (hn2 : ls.length < 2) (a b d : Nat) (ha : a < 256) (hb : b < 256) (hd : d < 256) : Pure Try.prog 14 [.agg [i64 (H : Nat), i64 (Z : Nat), landsA ls c], .int .u8 (a : Nat), .int .u8 (b : Nat), .int .u8 (d : Nat)] (.bool true) := by
  have hv' := hv
  obtain ⟨_, _, hH, hZ1, hln, hlb, hbx⟩ := hv'
  simp only at hln hlb hbx
  have hZ := hZ1.2
  have hHZ : Z * H ≤ 1152 := Nat.mul_le_mul hZ hH.2
  have hHZc : H * Z = Z * H := Nat.mul_comm _ _
  refine pure_of_body Try.func14 (c := body Try.f14) rfl (by simp [Try.ntmps14]) fun w0 Φ0 => ?_
  refine W_seq rfl ?_
  refine W_reg rfl ?_
  refine Rv rfl rfl rfl (U_boxF rfl rfl rfl) rfl rfl ?_
  refine Rv rfl rfl rfl (U_assign rfl) rfl rfl ?_
  refine Re rfl ?_
  refine thenQ_n ?_
  refine W_seq rfl ?_
  refine W_seq rfl ?_
  refine W_reg rfl ?_
  refine Rv rfl rfl rfl (U_load3 rfl rfl rfl rfl rfl) rfl rfl ?_
  refine Rv rfl rfl rfl (U_call rfl rfl (fineT_p H Z ls c hg hc) rfl) rfl rfl ?_
  refine Rv rfl rfl rfl (U_not rfl) rfl rfl ?_
  refine Rv rfl rfl rfl (U_move rfl) rfl rfl ?_
  refine Rv rfl rfl rfl (U_fieldAddrR rfl) rfl rfl ?_
  refine Rv rfl rfl rfl (U_load1 rfl rfl rfl) rfl rfl ?_
  refine Rv rfl rfl rfl (U_lenOf rfl len_ros) rfl rfl ?_
  refine Rv rfl rfl rfl (U_lss rfl rfl) rfl rfl ?_
  refine Rv rfl rfl rfl (U_pick_f rfl rfl) rfl rfl ?_
  refine Re rfl ?_
  refine thenQ_n ?_
  refine WcondP rfl rfl (fun hc0 => ?_) (fun hc0 => absurd (by first | omega | (simp; omega)) hc0)
  refine W_seq rfl ?_
  refine W_reg rfl ?_
  refine Rv rfl rfl rfl (U_call rfl rfl (works_p) rfl) rfl rfl ?_
  refine Rv rfl rfl rfl (U_assign rfl) rfl rfl ?_
  refine Re rfl ?_
  refine thenQ_n ?_
  refine W_ret rfl ?_
  refine thenQ_r ?_
  exact retL (rlT rfl rl0) rfl rfl
theorem sizN_p (H Z : Nat) (ls : List (List Bx)) (c : Option Nat) (hc : chkS ⟨H, Z, ls⟩ = 0) (hv : VS ⟨H, Z, ls⟩ H Z) (a : Nat) (ha : a < ls.length) {m : Nat} (hm : m = ls.length) : Pure Try.prog 27 [.agg [i64 (H : Nat), i64 (Z : Nat), .ros (ls.map boxesL) m c], i64 (a : Nat)] (.tup [i64 ((sizQ Z H ls[a] : Nat) : Int), i64 0]) := by
  subst hm; exact siz_g H Z ls c hc hv a ha
theorem brdN_p (H Z : Nat) (ls : List (List Bx)) (c : Option Nat) (hc : chkS ⟨H, Z, ls⟩ = 0) (hv : VS ⟨H, Z, ls⟩ H Z) (a b : Nat) (ha : a < ls.length) (hb : b < ls.length) (hn : a ≠ b) {m : Nat} (hm : m = ls.length) : Pure Try.prog 31 [.agg [i64 (H : Nat), i64 (Z : Nat), .ros (ls.map boxesL) m c], i64 (a : Nat), i64 (b : Nat)] (.tup [i64 ((brQ Z H ls[a] ls[b] : Nat) : Int), i64 0]) := by
  subst hm; exact brd_g H Z ls c hc hv a b ha hb hn
theorem allF {α : Type} {f : α → List AV} (h : ∀ x, (f x).all AV.one = true) : ∀ (l : List α), (l.flatMap f).all AV.one = true
  | [] => rfl
  | a :: l => by rw [List.flatMap_cons, List.all_append, h a, allF h l]; rfl
theorem tmodI {a b : Int} (ha : 0 ≤ a) (hb : 0 < b) : 0 ≤ a.tmod b ∧ a.tmod b < b := by
  rw [Int.tmod_eq_emod_of_nonneg ha]; exact ⟨Int.emod_nonneg _ (by omega), Int.emod_lt_of_pos _ hb⟩
theorem outB_pos {cs : List AV} {t : TypeId} {n : Nat} (hn : n ≠ 0) : outB cs t n = some (.cells cs t) := by
  cases n with
  | zero => exact absurd rfl hn
  | succ n => rfl
theorem OpU.toQ {C : Ctx} {o : Oper} {T : AT} {H : AH} {nx nx' b n z : Nat} {t : TypeId} {cs : List AV} (hn : n ≠ 0) (h : OpU C o T H nx (.out b n z) [(b, outB cs t n)] nx') : OpU C o T H nx (.sliceo b 0 n z) [(b, some (.cells cs t))] nx' := by
  rw [outB_pos hn] at h; exact OpU.weakV (le_out_sliceo hn) h
theorem U_storeW {C : Ctx} {T : AT} {H : AH} {nx : Nat} {d : Option Tmp} {ty : TypeId} {pos : String} {after : Array Edge} {g : Option (Nat × Bool)} {t tb : TypeId} {x y : Operand} {b o n : Nat} {v v' : AV} {cs vs cs' : List AV} {ag : Bool} [hT : TyVar C.P t ag n] (hle : v.le v') (hx : ev T x = some (.ptr b o)) (hy : ev T y = some v) (hg : gt H b = some (.cells cs tb)) (hv : v'.cellsA = vs) (hn : vs.length = n) (hl : o + n ≤ cs.length)
    (h1 : vs.all AV.one = true) (hs : setC cs o vs = cs') : OpU C ⟨d, .store t x y, ty, pos, after, g⟩ T H nx (.tup []) [(b, some (.cells cs' tb))] nx :=
  OpU.of_run (by intro c; simp) fun ρ Φ a w _ h2 h3 => by
    have hp := ev_con h2 hx
    simp only [AE.Con] at hp
    obtain ⟨z, hz, hp⟩ := hp
    obtain ⟨z', ob, e1, e2, e3⟩ := h3.at_ _ _ hg
    rw [hz] at e1; cases e1
    obtain ⟨pre, xs, rest, e4, e5, e6, rfl⟩ := e3
    have hcv := con_cells (hle _ _ _ _ (ev_con h2 hy))
    rw [hv] at hcv
    have hlen := conL_len hcv
    have hlx := conL_len e4
    obtain ⟨w', hw1, hw2⟩ := run_storeCells (P := C.P) o (a.eval y).cells.toList xs 0 w e2 (by omega) (conL_one hcv (by simpa using h1))
    refine ⟨ρ, Φ, undef, w', .inr ⟨?_, rfl⟩, ?_, by simp [AE.Con, undef, ConL]⟩
    · have hsz : (a.eval y).cells.size = n := by rw [← hn, ← hlen]; simp
      rw [e5] at hw1
      simp only [execOp, Instr.storeAt, hp, Instr.sureAddr, storeVar, Sem.run_bind, Sem.run_pure, Result.andThen_ok, hT.size, hsz, ne_eq, not_true_eq_false, if_false, hw1]
    · subst hs
      exact set_at h3 hg hz (conL_setC o e4 hcv) e5 e6 (by rw [setC_len]) hw2
theorem upsX4 {Hr : AH} {nx nx' b n : Nat} {cs : List AV} {e : TypeId} (hg : gt Hr b = outB cs e n) (hn : 0 < n) : upsOk 4 Hr nx nx' [(b, none)] = true := by
  obtain ⟨m, rfl⟩ : ∃ m, n = m + 1 := ⟨n - 1, by omega⟩
  simp [upsOk, hg, outB]
theorem borderJoined1_p (H Z : Nat) (ls : List (List Bx)) (c : Option Nat) (hc : chkS ⟨H, Z, ls⟩ = 0) (hv : VS ⟨H, Z, ls⟩ H Z) (hg : grt ⟨H, Z, ls⟩ = false) (hn2 : 2 ≤ ls.length) (a b d : Nat) (ha : a < 256) (hb : b < 256) (hd : d < 256) (k : Nat) (hkk : ((((a % ls.length + 1 : Nat) : Int) + (((b : Nat) : Int).tmod (((ls.length : Nat) : Int) - 1))).tmod ((ls.length : Nat) : Int)) = ((k : Nat) : Int)) (hk : k < ls.length) (hik : a % ls.length ≠ k) : Pure Try.prog 14 [.agg [i64 (H : Nat), i64 (Z : Nat), landsA ls c], .int .u8 (a : Nat), .int .u8 (b : Nat), .int .u8 (d : Nat)] (.bool true) := by
  have hv' := hv
  obtain ⟨_, _, hH, hZ1, hln, hlb, hbx⟩ := hv'
  simp only at hln hlb hbx
  have hZ := hZ1.2
  have hHZ : Z * H ≤ 1152 := Nat.mul_le_mul hZ hH.2
  have hHZc : H * Z = Z * H := Nat.mul_comm _ _
  have hi : a % ls.length < ls.length := Nat.mod_lt _ (by omega)
  have t1 := tmodI (a := (b : Nat)) (b := ((ls.length : Nat) : Int) - 1) (by omega) (by omega)
  have t2 := tmodI (a := ((a % ls.length + 1 : Nat) : Int) + (((b : Nat) : Int).tmod (((ls.length : Nat) : Int) - 1))) (b := ((ls.length : Nat) : Int)) (by omega) (by omega)
  refine pure_of_body Try.func14 (c := body Try.f14) rfl (by simp [Try.ntmps14]) fun w0 Φ0 => ?_
  refine W_seq rfl ?_
  refine W_reg rfl ?_
  refine Rv rfl rfl rfl (U_boxF rfl rfl rfl) rfl rfl ?_
  refine Rv rfl rfl rfl (U_assign rfl) rfl rfl ?_
  refine Re rfl ?_
  refine thenQ_n ?_
  refine W_seq rfl ?_
  refine W_seq rfl ?_
  refine W_reg rfl ?_
  refine Rv rfl rfl rfl (U_load3 rfl rfl rfl rfl rfl) rfl rfl ?_
  refine Rv rfl rfl rfl (U_call rfl rfl (fineT_p H Z ls c hg hc) rfl) rfl rfl ?_
  refine Rv rfl rfl rfl (U_not rfl) rfl rfl ?_
  refine Rv rfl rfl rfl (U_move rfl) rfl rfl ?_
  refine Rv rfl rfl rfl (U_fieldAddrR rfl) rfl rfl ?_
  refine Rv rfl rfl rfl (U_load1 rfl rfl rfl) rfl rfl ?_
  refine Rv rfl rfl rfl (U_lenOf rfl len_ros) rfl rfl ?_
  refine Rv rfl rfl rfl (U_lss rfl rfl) rfl rfl ?_
  refine Rv rfl rfl rfl (U_pick_f rfl rfl) rfl rfl ?_
  refine Re rfl ?_
  refine thenQ_n ?_
  refine WcondP rfl rfl (fun hc0 => absurd hc0 (by first | omega | (simp; omega))) (fun hc0 => ?_)
  refine W_skip rfl ?_
  refine thenQ_n ?_
  refine W_seq rfl ?_
  refine W_reg rfl ?_
  refine Rv rfl rfl rfl (U_fieldAddrR rfl) rfl rfl ?_
  refine Rv rfl rfl rfl (U_load1 rfl rfl rfl) rfl rfl ?_
  refine Rv rfl rfl rfl (U_lenOf rfl len_ros) rfl rfl ?_
  refine Rv rfl rfl rfl (U_assign rfl) rfl rfl ?_
  refine Re rfl ?_
  refine thenQ_n ?_
  refine W_seq rfl ?_
  refine W_reg rfl ?_
  refine Rv rfl rfl rfl (U_move rfl) rfl rfl ?_
  refine Rv rfl rfl rfl (U_convInt (by rfl) rfl (wr_i64 (by omega) (by omega))) rfl rfl ?_
  refine Rv rfl rfl rfl (U_move rfl) rfl rfl ?_
  refine Rv rfl rfl rfl (U_rem (c := ((a % ls.length : Nat) : Int)) rfl rfl (by omega) (tmodN _ _)) rfl rfl ?_
  refine Rv rfl rfl rfl (U_assign rfl) rfl rfl ?_
  refine Re rfl ?_
  refine thenQ_n ?_
  refine W_seq rfl ?_
  refine W_reg rfl ?_
  refine Rv rfl rfl rfl (U_move rfl) rfl rfl ?_
  refine Rv rfl rfl rfl (U_add rfl rfl (w64e (m := ((a % ls.length + 1 : Nat) : Int)) (by omega) (by omega) (by omega))) rfl rfl ?_
  refine Rv rfl rfl rfl (U_move rfl) rfl rfl ?_
  refine Rv rfl rfl rfl (U_convInt (by rfl) rfl (wr_i64 (by omega) (by omega))) rfl rfl ?_
  refine Rv rfl rfl rfl (U_move rfl) rfl rfl ?_
  refine Rv rfl rfl rfl (U_sub rfl rfl (w64 (by omega) (by omega))) rfl rfl ?_
  refine Rv rfl rfl rfl (U_rem rfl rfl (by omega) rfl) rfl rfl ?_
  refine Rv rfl rfl rfl (U_add rfl rfl (w64 (by omega) (by omega))) rfl rfl ?_
  refine Rv rfl rfl rfl (U_move rfl) rfl rfl ?_
  refine Rv rfl rfl rfl (U_rem rfl rfl (by omega) rfl) rfl rfl ?_
  refine Rv rfl rfl rfl (U_assign rfl) rfl rfl ?_
  refine Re rfl ?_
  refine thenQ_n ?_
  refine W_seq rfl ?_
  refine W_seq rfl ?_
  rw [hkk]
  refine Wjoin ⟨[(3, .int .u8 ((d : Nat) : Int)), (4, .rop [i64 ((H : Nat) : Int), i64 ((Z : Nat) : Int), .ros (ls.map boxesL) ls.length c] 0), (9, i64 ((ls.length : Nat) : Int)), (10, i64 ((a % ls.length : Nat) : Int)), (11, i64 ((k : Nat) : Int)), (74, .bool ((decide (15 < ((ls[(a % ls.length)].length : Nat) : Int))) || ((decide (15 < ((ls[k].length : Nat) : Int))) || (metQ Z H ls[(a % ls.length)] ls[k]))))], [], 0, []⟩ ?_ ?_
  · refine W_reg rfl ?_
    refine Rv rfl rfl rfl (U_fieldAddrR rfl) rfl rfl ?_
    refine Rv rfl rfl rfl (U_load1 rfl rfl rfl) rfl rfl ?_
    refine Rv rfl rfl rfl (U_move rfl) rfl rfl ?_
    have hx1 : (a % ls.length) < ls.length := by omega
    refine Rv rfl rfl rfl (U_indexR (j := (a % ls.length)) rfl rfl rfl hx1) rfl rfl ?_
    refine Rv rfl rfl rfl (U_load1 rfl rfl (getM hx1)) rfl rfl ?_
    refine Rv rfl rfl rfl (U_lenOf rfl len_ros) rfl rfl ?_
    refine Rv rfl rfl rfl (U_gtr rfl rfl) rfl rfl ?_
    refine Rv rfl rfl rfl (U_move rfl) rfl rfl ?_
    refine Rsplit (t := 60) rfl (fun hg2 => ?_) (fun hg2 => ?_)
    · rw [hg2]
      have hg2' : 15 < ((ls[(a % ls.length)].length : Nat) : Int) := of_decide_eq_true hg2
      refine Rs rfl rfl rfl rfl rfl ?_
      refine Rs rfl rfl rfl rfl rfl ?_
      refine Rs rfl rfl rfl rfl rfl ?_
      refine Rs rfl rfl rfl rfl rfl ?_
      refine Rs rfl rfl rfl rfl rfl ?_
      refine Rs rfl rfl rfl rfl rfl ?_
      refine Rs rfl rfl rfl rfl rfl ?_
      refine Rv rfl rfl rfl (U_pick_t rfl rfl) rfl rfl ?_
      refine Rv rfl rfl rfl (U_move rfl) rfl rfl ?_
      refine Rs rfl rfl rfl rfl rfl ?_
      refine Rs rfl rfl rfl rfl rfl ?_
      refine Rs rfl rfl rfl rfl rfl ?_
      refine Rs rfl rfl rfl rfl rfl ?_
      refine Rv rfl rfl rfl (U_pick_t rfl rfl) rfl rfl ?_
      refine Re rfl ?_
      exact joinTo id ⟨eD rfl rfl, eD rfl rfl, eD rfl rfl, eD rfl rfl, eD rfl rfl, eD rfl rfl, trivial⟩ trivial rfl rfl rfl rfl (fun _ _ => rfl)
    · rw [hg2]
      have hg2' : ¬ (15 < ((ls[(a % ls.length)].length : Nat) : Int)) := of_decide_eq_false hg2
      refine Rv rfl rfl rfl (U_fieldAddrR rfl) rfl rfl ?_
      refine Rv rfl rfl rfl (U_load1 rfl rfl rfl) rfl rfl ?_
      refine Rv rfl rfl rfl (U_move rfl) rfl rfl ?_
      have hx3 : k < ls.length := by omega
      refine Rv rfl rfl rfl (U_indexR (j := k) rfl rfl rfl hx3) rfl rfl ?_
      refine Rv rfl rfl rfl (U_load1 rfl rfl (getM hx3)) rfl rfl ?_
      refine Rv rfl rfl rfl (U_lenOf rfl len_ros) rfl rfl ?_
      refine Rv rfl rfl rfl (U_gtr rfl rfl) rfl rfl ?_
      refine Rv rfl rfl rfl (U_pick_f rfl rfl) rfl rfl ?_
      refine Rv rfl rfl rfl (U_move rfl) rfl rfl ?_
      refine Rsplit (t := 69) rfl (fun hg4 => ?_) (fun hg4 => ?_)
      · rw [hg4]
        have hg4' : 15 < ((ls[k].length : Nat) : Int) := of_decide_eq_true hg4
        refine Rs rfl rfl rfl rfl rfl ?_
        refine Rs rfl rfl rfl rfl rfl ?_
        refine Rs rfl rfl rfl rfl rfl ?_
        refine Rs rfl rfl rfl rfl rfl ?_
        refine Rv rfl rfl rfl (U_pick_t rfl rfl) rfl rfl ?_
        refine Re rfl ?_
        exact joinTo id ⟨eD rfl rfl, eD rfl rfl, eD rfl rfl, eD rfl rfl, eD rfl rfl, eD rfl rfl, trivial⟩ trivial rfl rfl rfl rfl (fun _ _ => rfl)
      · rw [hg4]
        have hg4' : ¬ (15 < ((ls[k].length : Nat) : Int)) := of_decide_eq_false hg4
        refine Rv rfl rfl rfl (U_load3 rfl rfl rfl rfl rfl) rfl rfl ?_
        refine Rv rfl rfl rfl (U_move rfl) rfl rfl ?_
        refine Rv rfl rfl rfl (U_move rfl) rfl rfl ?_
        refine Rv rfl rfl rfl (U_call rfl rfl (meet_p H Z ls c hv (a % ls.length) k (by omega) (by omega)) rfl) rfl rfl ?_
        refine Rv rfl rfl rfl (U_pick_f rfl rfl) rfl rfl ?_
        refine Re rfl ?_
        exact joinTo id ⟨eD rfl rfl, eD rfl rfl, eD rfl rfl, eD rfl rfl, eD rfl rfl, eD rfl rfl, trivial⟩ trivial rfl rfl rfl rfl (fun _ _ => rfl)
  refine thenQ_n ?_
  refine Wcond rfl rfl (fun hc1 => ?_) (fun hc1 => ?_)
  · refine W_seq rfl ?_
    refine W_reg rfl ?_
    refine Rv rfl rfl rfl (U_call rfl rfl (works_p) rfl) rfl rfl ?_
    refine Rv rfl rfl rfl (U_assign rfl) rfl rfl ?_
    refine Re rfl ?_
    refine thenQ_n ?_
    refine W_ret rfl ?_
    refine thenQ_r ?_
    exact retL (rlT rfl rl0) rfl rfl
  · have hc1' := Bool.eq_false_iff.1 hc1
    have hbb : (ls[(a % ls.length)].length ≤ 15 ∧ ls[k].length ≤ 15) ∧ metQ Z H ls[(a % ls.length)] ls[k] = false := by simp at hc1; exact ⟨⟨by omega, by omega⟩, by simpa using hc1.2.2⟩
    refine W_skip rfl ?_
    refine thenQ_n ?_
    refine W_seq rfl ?_
    refine WdrawL [77, 79, 82] rfl (by kernel_rfl) (by kernel_rfl) ?_
    refine Dv rfl rfl rfl (U_fieldAddrR rfl) rfl rfl ?_
    refine Dv rfl rfl rfl (U_load1 rfl rfl rfl) rfl rfl ?_
    refine Dv rfl rfl rfl (U_fieldAddrR rfl) rfl rfl ?_
    refine Dv rfl rfl rfl (U_load1 rfl rfl rfl) rfl rfl ?_
    refine Dv rfl rfl rfl (U_buildSliceF (by rfl) (by decide) rfl rfl rfl) rfl rfl ?_
    refine Dv rfl rfl rfl (U_fieldAddrR rfl) rfl rfl ?_
    refine Dv rfl rfl rfl (U_load1 rfl rfl rfl) rfl rfl ?_
    refine Da rfl rfl rfl (OpU.toQ (by omega) (U_appL (n' := ls.length) rfl rfl rfl rfl (srcR (map_len1 _)) (by omega) (by omega) rfl)) rfl rfl rfl rfl ?_
    refine Dv rfl rfl rfl (U_build rfl rfl) rfl rfl ?_
    refine Da rfl rfl rfl (U_alloc) rfl rfl rfl rfl ?_
    refine Dn_ rfl rfl rfl (U_storeAll rfl rfl rfl rfl rfl rfl) rfl rfl ?_
    refine Dr.nil rfl ?_
    refine thenQ_n ?_
    refine W_seq rfl ?_
    refine Wjoin ⟨[(3, .int .u8 ((d : Nat) : Int)), (4, .rop [i64 ((H : Nat) : Int), i64 ((Z : Nat) : Int), .ros (ls.map boxesL) ls.length c] 0), (9, i64 ((ls.length : Nat) : Int)), (10, i64 ((a % ls.length : Nat) : Int)), (11, i64 ((k : Nat) : Int)), (12, .ptr 1 0)], [(0, some (.cells ((ls.set (a % ls.length) (ls[(a % ls.length)] ++ ls[k])).map boxesL) 46)), (1, some (.cells [i64 ((H : Nat) : Int), i64 ((Z : Nat) : Int), .sliceo 0 0 ls.length 1] 24))], 4, []⟩ ?_ ?_
    · have hcs : (ls[(a % ls.length)].length = 0 ∧ ls[k].length = 0) ∨ (ls[(a % ls.length)].length = 0 ∧ 0 < ls[k].length) ∨ (0 < ls[(a % ls.length)].length ∧ ls[k].length = 0) ∨ (0 < ls[(a % ls.length)].length ∧ 0 < ls[k].length) := by omega
      rcases hcs with hz | hz | hz | hz
      · have hX : ls[(a % ls.length)] ++ ls[k] = [] := by rw [List.eq_nil_of_length_eq_zero hz.1, List.eq_nil_of_length_eq_zero hz.2]; rfl
        rw [hX]
        refine WdrawN [90, 93, 96, 99] [86] [94, 100] rfl (by kernel_rfl) (by kernel_rfl) ?_
        refine Dv rfl rfl rfl (U_fieldAddr rfl) rfl rfl ?_
        refine Dv rfl rfl rfl (U_load1 rfl rfl rfl) rfl rfl ?_
        refine Dv rfl rfl rfl (U_move rfl) rfl rfl ?_
        refine Dv rfl rfl rfl (U_buildSliceF (by rfl) (by decide) rfl rfl rfl) rfl rfl ?_
        refine Dv rfl rfl rfl (U_fieldAddrR rfl) rfl rfl ?_
        refine Dv rfl rfl rfl (U_load1 rfl rfl rfl) rfl rfl ?_
        refine Dv rfl rfl rfl (U_move rfl) rfl rfl ?_
        have hx5 : (a % ls.length) < ls.length := by omega
        refine Dv rfl rfl rfl (U_indexR (j := (a % ls.length)) rfl rfl rfl hx5) rfl rfl ?_
        refine Dv rfl rfl rfl (U_load1 rfl rfl (getM hx5)) rfl rfl ?_
        refine Dv rfl rfl rfl (U_app0G rfl rfl lenk_ros (len0_ros hz.1)) rfl rfl ?_
        refine Dv rfl rfl rfl (U_fieldAddrR rfl) rfl rfl ?_
        refine Dv rfl rfl rfl (U_load1 rfl rfl rfl) rfl rfl ?_
        refine Dv rfl rfl rfl (U_move rfl) rfl rfl ?_
        have hx6 : k < ls.length := by omega
        refine Dv rfl rfl rfl (U_indexR (j := k) rfl rfl rfl hx6) rfl rfl ?_
        refine Dv rfl rfl rfl (U_load1 rfl rfl (getM hx6)) rfl rfl ?_
        refine Dv rfl rfl rfl (U_app0G rfl rfl lenk_ros (len0_ros hz.2)) rfl rfl ?_
        refine Dv rfl rfl rfl (U_indexSo (j := (a % ls.length)) rfl rfl rfl (by omega)) rfl rfl ?_
        refine Dn_ rfl rfl rfl (U_storeW (n := 1) (v' := boxesL ([] : List Bx)) (cs' := (ls.set (a % ls.length) ([] : List Bx)).map boxesL) le_cap rfl rfl rfl rfl rfl (stLt hi) rfl setM) rfl rfl ?_
        refine Dr.nil rfl ?_
        exact joinTo id ⟨eD rfl rfl, eD rfl rfl, eD rfl rfl, eD rfl rfl, eD rfl rfl, e_ rfl rfl, trivial⟩ ⟨rD (mapD (fun _ => rfl) _) rfl rfl, r_ rfl rfl rfl, trivial⟩ rfl rfl rfl rfl (fun _ _ => rfl)
      · have hX : ls[(a % ls.length)] ++ ls[k] = ls[k] := by rw [List.eq_nil_of_length_eq_zero hz.1]; rfl
        rw [hX]
        refine WdrawN [90, 93, 96, 99] [86] [94, 100] rfl (by kernel_rfl) (by kernel_rfl) ?_
        refine Dv rfl rfl rfl (U_fieldAddr rfl) rfl rfl ?_
        refine Dv rfl rfl rfl (U_load1 rfl rfl rfl) rfl rfl ?_
        refine Dv rfl rfl rfl (U_move rfl) rfl rfl ?_
        refine Dv rfl rfl rfl (U_buildSliceF (by rfl) (by decide) rfl rfl rfl) rfl rfl ?_
        refine Dv rfl rfl rfl (U_fieldAddrR rfl) rfl rfl ?_
        refine Dv rfl rfl rfl (U_load1 rfl rfl rfl) rfl rfl ?_
        refine Dv rfl rfl rfl (U_move rfl) rfl rfl ?_
        have hx7 : (a % ls.length) < ls.length := by omega
        refine Dv rfl rfl rfl (U_indexR (j := (a % ls.length)) rfl rfl rfl hx7) rfl rfl ?_
        refine Dv rfl rfl rfl (U_load1 rfl rfl (getM hx7)) rfl rfl ?_
        refine Dv rfl rfl rfl (U_app0G rfl rfl lenk_ros (len0_ros hz.1)) rfl rfl ?_
        refine Dv rfl rfl rfl (U_fieldAddrR rfl) rfl rfl ?_
        refine Dv rfl rfl rfl (U_load1 rfl rfl rfl) rfl rfl ?_
        refine Dv rfl rfl rfl (U_move rfl) rfl rfl ?_
        have hx8 : k < ls.length := by omega
        refine Dv rfl rfl rfl (U_indexR (j := k) rfl rfl rfl hx8) rfl rfl ?_
        refine Dv rfl rfl rfl (U_load1 rfl rfl (getM hx8)) rfl rfl ?_
        refine Da rfl rfl rfl (OpU.frz (b := 2) (U_appL (n' := ls[k].length) rfl rfl rfl rfl (srcR (flat_len (z := 4) (fun _ => rfl) _)) (by omega) (by omega) rfl) rfl (by first | (simp; done) | (simp; omega) | omega) (flatD (f := bxC) (fun _ => rfl) _) (Nat.le_refl _) (Nat.lt_succ_self _)) rfl rfl rfl rfl ?_
        refine Dv rfl rfl rfl (U_indexSo (j := (a % ls.length)) rfl rfl rfl (by omega)) rfl rfl ?_
        refine Dn_ rfl rfl rfl (U_store (n := 1) (cs' := (ls.set (a % ls.length) ls[k]).map boxesL) rfl rfl rfl rfl rfl (stLt hx7) rfl setM) rfl rfl ?_
        refine Dr.nil rfl ?_
        exact joinTo id ⟨eD rfl rfl, eD rfl rfl, eD rfl rfl, eD rfl rfl, eD rfl rfl, e_ rfl rfl, trivial⟩ ⟨rD (mapD (fun _ => rfl) _) rfl rfl, r_ rfl rfl rfl, trivial⟩ rfl rfl rfl rfl (fun _ _ => rfl)
      · have hX : ls[(a % ls.length)] ++ ls[k] = ls[(a % ls.length)] := by rw [List.eq_nil_of_length_eq_zero hz.2, List.append_nil]
        rw [hX]
        refine WdrawN [90, 93, 96, 99] [86] [94, 100] rfl (by kernel_rfl) (by kernel_rfl) ?_
        refine Dv rfl rfl rfl (U_fieldAddr rfl) rfl rfl ?_
        refine Dv rfl rfl rfl (U_load1 rfl rfl rfl) rfl rfl ?_
        refine Dv rfl rfl rfl (U_move rfl) rfl rfl ?_
        refine Dv rfl rfl rfl (U_buildSliceF (by rfl) (by decide) rfl rfl rfl) rfl rfl ?_
        refine Dv rfl rfl rfl (U_fieldAddrR rfl) rfl rfl ?_
        refine Dv rfl rfl rfl (U_load1 rfl rfl rfl) rfl rfl ?_
        refine Dv rfl rfl rfl (U_move rfl) rfl rfl ?_
        have hx9 : (a % ls.length) < ls.length := by omega
        refine Dv rfl rfl rfl (U_indexR (j := (a % ls.length)) rfl rfl rfl hx9) rfl rfl ?_
        refine Dv rfl rfl rfl (U_load1 rfl rfl (getM hx9)) rfl rfl ?_
        refine Da rfl rfl rfl (OpU.frz (b := 2) (U_appL (n' := ls[(a % ls.length)].length) rfl rfl rfl rfl (srcR (flat_len (z := 4) (fun _ => rfl) _)) (by omega) (by omega) rfl) rfl (by first | (simp; done) | (simp; omega) | omega) (flatD (f := bxC) (fun _ => rfl) _) (Nat.le_refl _) (Nat.lt_succ_self _)) rfl rfl rfl rfl ?_
        refine Dv rfl rfl rfl (U_fieldAddrR rfl) rfl rfl ?_
        refine Dv rfl rfl rfl (U_load1 rfl rfl rfl) rfl rfl ?_
        refine Dv rfl rfl rfl (U_move rfl) rfl rfl ?_
        have hx10 : k < ls.length := by omega
        refine Dv rfl rfl rfl (U_indexR (j := k) rfl rfl rfl hx10) rfl rfl ?_
        refine Dv rfl rfl rfl (U_load1 rfl rfl (getM hx10)) rfl rfl ?_
        refine Dv rfl rfl rfl (U_app0G rfl rfl lenk_ros (len0_ros hz.2)) rfl rfl ?_
        refine Dv rfl rfl rfl (U_indexSo (j := (a % ls.length)) rfl rfl rfl (by omega)) rfl rfl ?_
        refine Dn_ rfl rfl rfl (U_store (n := 1) (cs' := (ls.set (a % ls.length) ls[(a % ls.length)]).map boxesL) rfl rfl rfl rfl rfl (stLt hx9) rfl setM) rfl rfl ?_
        refine Dr.nil rfl ?_
        exact joinTo id ⟨eD rfl rfl, eD rfl rfl, eD rfl rfl, eD rfl rfl, eD rfl rfl, e_ rfl rfl, trivial⟩ ⟨rD (mapD (fun _ => rfl) _) rfl rfl, r_ rfl rfl rfl, trivial⟩ rfl rfl rfl rfl (fun _ _ => rfl)
      · refine WdrawN [90, 93, 96, 99] [86] [94, 100] rfl (by kernel_rfl) (by kernel_rfl) ?_
        refine Dv rfl rfl rfl (U_fieldAddr rfl) rfl rfl ?_
        refine Dv rfl rfl rfl (U_load1 rfl rfl rfl) rfl rfl ?_
        refine Dv rfl rfl rfl (U_move rfl) rfl rfl ?_
        refine Dv rfl rfl rfl (U_buildSliceF (by rfl) (by decide) rfl rfl rfl) rfl rfl ?_
        refine Dv rfl rfl rfl (U_fieldAddrR rfl) rfl rfl ?_
        refine Dv rfl rfl rfl (U_load1 rfl rfl rfl) rfl rfl ?_
        refine Dv rfl rfl rfl (U_move rfl) rfl rfl ?_
        have hx11 : (a % ls.length) < ls.length := by omega
        refine Dv rfl rfl rfl (U_indexR (j := (a % ls.length)) rfl rfl rfl hx11) rfl rfl ?_
        refine Dv rfl rfl rfl (U_load1 rfl rfl (getM hx11)) rfl rfl ?_
        refine Da rfl rfl rfl (U_appL (n' := ls[(a % ls.length)].length) rfl rfl rfl rfl (srcR (flat_len (z := 4) (fun _ => rfl) _)) (by omega) (by omega) rfl) rfl rfl rfl rfl ?_
        refine Dv rfl rfl rfl (U_fieldAddrR rfl) rfl rfl ?_
        refine Dv rfl rfl rfl (U_load1 rfl rfl rfl) rfl rfl ?_
        refine Dv rfl rfl rfl (U_move rfl) rfl rfl ?_
        have hx12 : k < ls.length := by omega
        refine Dv rfl rfl rfl (U_indexR (j := k) rfl rfl rfl hx12) rfl rfl ?_
        refine Dv rfl rfl rfl (U_load1 rfl rfl (getM hx12)) rfl rfl ?_
        refine Da rfl rfl rfl (OpU.frz (b := 3) (U_appO (b := 2) (cs := ls[(a % ls.length)].flatMap bxC) (m := ls[k].length - 1) (cs' := (ls[(a % ls.length)] ++ ls[k]).flatMap bxC) (n' := (ls[(a % ls.length)] ++ ls[k]).length) rfl rfl (by simp) rfl (flat_len (z := 4) (fun _ => rfl) _) (by rw [show ls[k].length - 1 + 1 = ls[k].length by omega]; exact srcR (flat_len (z := 4) (fun _ => rfl) _)) (allF (fun _ => rfl) _) (by omega) (by rw [List.flatMap_append]) (by rw [List.length_append]; omega)) rfl (by first | (simp; done) | (simp; omega) | omega) (flatD (f := bxC) (fun _ => rfl) _) (Nat.le_refl _) (Nat.lt_succ_self _)) rfl rfl rfl (upsX4 rfl (by omega)) ?_
        refine Dv rfl rfl rfl (U_indexSo (j := (a % ls.length)) rfl rfl rfl (by omega)) rfl rfl ?_
        refine Dn_ rfl rfl rfl (U_store (n := 1) (cs' := (ls.set (a % ls.length) (ls[(a % ls.length)] ++ ls[k])).map boxesL) rfl rfl rfl rfl rfl (stLt hx11) rfl setM) rfl rfl ?_
        refine Dr.nil rfl ?_
        exact joinTo id ⟨eD rfl rfl, eD rfl rfl, eD rfl rfl, eD rfl rfl, eD rfl rfl, e_ rfl rfl, trivial⟩ ⟨rD (mapD (fun _ => rfl) _) rfl rfl, r_ rfl rfl rfl, trivial⟩ rfl rfl rfl rfl (fun _ _ => rfl)
    refine thenQ_n ?_
    refine W_seq rfl ?_
    refine W_reg rfl ?_
    refine Rv rfl rfl rfl (U_fieldAddr rfl) rfl rfl ?_
    refine Rv rfl rfl rfl (U_load1 rfl rfl rfl) rfl rfl ?_
    refine Rv rfl rfl rfl (U_move rfl) rfl rfl ?_
    have hsl : (ls.set (a % ls.length) (ls[(a % ls.length)] ++ ls[k])).length = ls.length := List.length_set
    have hx13 : k < (ls.set (a % ls.length) (ls[(a % ls.length)] ++ ls[k])).length := by omega
    refine Rv rfl rfl rfl (U_indexSo (j := k) rfl rfl rfl (by omega)) rfl rfl ?_
    refine Rn rfl rfl rfl (U_storeW (n := 1) (v' := boxesL ([] : List Bx)) (cs' := ((ls.set (a % ls.length) (ls[(a % ls.length)] ++ ls[k])).set k ([] : List Bx)).map boxesL) le_nils rfl rfl rfl rfl rfl (stLt (by rw [List.length_set]; exact hk)) rfl setM) rfl ?_
    refine Re rfl ?_
    have hXl : ((ls.set (a % ls.length) (ls[(a % ls.length)] ++ ls[k])).set k []).length = ls.length := by simp
    have hXe : (ls.set (a % ls.length) (ls[(a % ls.length)] ++ ls[k])).set k [] = joinL ls (a % ls.length) k := by simp only [joinL, List.getD_eq_getElem?_getD, List.getElem?_eq_getElem hi, List.getElem?_eq_getElem hk, Option.getD_some]
    have hvX : VS ⟨H, Z, (ls.set (a % ls.length) (ls[(a % ls.length)] ++ ls[k])).set k []⟩ H Z := by rw [hXe]; exact joinL_vs hv hi hk hbb.1.1 hbb.1.2
    have hcX := vs_chk hvX
    have hXi : ((ls.set (a % ls.length) (ls[(a % ls.length)] ++ ls[k])).set k [])[(a % ls.length)]'(by omega) = ls[(a % ls.length)] ++ ls[k] := by simp only [hXe]; exact joinL_i hi hk hik
    have hXk : ((ls.set (a % ls.length) (ls[(a % ls.length)] ++ ls[k])).set k [])[k]'(by omega) = [] := by simp only [hXe]; exact joinL_k hk
    have hs1 : sizQ Z H (((ls.set (a % ls.length) (ls[(a % ls.length)] ++ ls[k])).set k [])[(a % ls.length)]'(by omega)) = sizQ Z H ls[(a % ls.length)] + sizQ Z H ls[k] := by rw [hXi]; exact siz_app hbb.2
    have hs2 : sizQ Z H (((ls.set (a % ls.length) (ls[(a % ls.length)] ++ ls[k])).set k [])[k]'(by omega)) = 0 := by rw [hXk]; exact siz_nil
    have hz1 : sizQ Z H ls[(a % ls.length)] ≤ Z * H := sizQ_le
    have hz2 : sizQ Z H ls[k] ≤ Z * H := sizQ_le
    refine thenQ_n ?_
    refine W_seq rfl ?_
    refine W_reg rfl ?_
    refine Rv rfl rfl rfl (U_load3 rfl rfl rfl rfl rfl) rfl rfl ?_
    refine Rv rfl rfl rfl (U_move rfl) rfl rfl ?_
    refine Rv rfl rfl rfl (U_call rfl rfl (sizN_p H Z ls c (by assumption) (by assumption) (a % ls.length) (by omega) (by first | rfl | (simp; done))) rfl) rfl rfl ?_
    refine Rv rfl rfl rfl (U_move rfl) rfl rfl ?_
    refine Rv rfl rfl rfl (U_extract rfl rfl) rfl rfl ?_
    refine Rv rfl rfl rfl (U_extract rfl rfl) rfl rfl ?_
    refine Rv rfl rfl rfl (U_assign rfl) rfl rfl ?_
    refine Rv rfl rfl rfl (U_assign rfl) rfl rfl ?_
    refine Re rfl ?_
    refine thenQ_n ?_
    refine W_seq rfl ?_
    refine W_reg rfl ?_
    refine Rv rfl rfl rfl (U_load3 rfl rfl rfl rfl rfl) rfl rfl ?_
    refine Rv rfl rfl rfl (U_move rfl) rfl rfl ?_
    refine Rv rfl rfl rfl (U_call rfl rfl (sizN_p H Z ls c (by assumption) (by assumption) k (by omega) (by first | rfl | (simp; done))) rfl) rfl rfl ?_
    refine Rv rfl rfl rfl (U_move rfl) rfl rfl ?_
    refine Rv rfl rfl rfl (U_extract rfl rfl) rfl rfl ?_
    refine Rv rfl rfl rfl (U_extract rfl rfl) rfl rfl ?_
    refine Rv rfl rfl rfl (U_assign rfl) rfl rfl ?_
    refine Rv rfl rfl rfl (U_assign rfl) rfl rfl ?_
    refine Re rfl ?_
    refine thenQ_n ?_
    refine W_seq rfl ?_
    refine W_reg rfl ?_
    refine Rv rfl rfl rfl (U_load3 rfl rfl rfl rfl rfl) rfl rfl ?_
    refine Rv rfl rfl rfl (U_move rfl) rfl rfl ?_
    refine Rv rfl rfl rfl (U_callB (Frz.fr 0 rfl (mapD (fun _ => rfl) _)) rfl rfl (sizN_p H Z ((ls.set (a % ls.length) (ls[(a % ls.length)] ++ ls[k])).set k ([] : List Bx)) none (by assumption) (by assumption) (a % ls.length) (by omega) (by first | rfl | (simp; done))) rfl rfl) rfl rfl ?_
    refine Rv rfl rfl rfl (U_move rfl) rfl rfl ?_
    refine Rv rfl rfl rfl (U_extract rfl rfl) rfl rfl ?_
    refine Rv rfl rfl rfl (U_extract rfl rfl) rfl rfl ?_
    refine Rv rfl rfl rfl (U_assign rfl) rfl rfl ?_
    refine Rv rfl rfl rfl (U_assign rfl) rfl rfl ?_
    refine Re rfl ?_
    refine thenQ_n ?_
    refine W_seq rfl ?_
    refine W_reg rfl ?_
    refine Rv rfl rfl rfl (U_load3 rfl rfl rfl rfl rfl) rfl rfl ?_
    refine Rv rfl rfl rfl (U_move rfl) rfl rfl ?_
    refine Rv rfl rfl rfl (U_callB (Frz.fr 0 rfl (mapD (fun _ => rfl) _)) rfl rfl (sizN_p H Z ((ls.set (a % ls.length) (ls[(a % ls.length)] ++ ls[k])).set k ([] : List Bx)) none (by assumption) (by assumption) k (by omega) (by first | rfl | (simp; done))) rfl rfl) rfl rfl ?_
    refine Rv rfl rfl rfl (U_move rfl) rfl rfl ?_
    refine Rv rfl rfl rfl (U_extract rfl rfl) rfl rfl ?_
    refine Rv rfl rfl rfl (U_extract rfl rfl) rfl rfl ?_
    refine Rv rfl rfl rfl (U_assign rfl) rfl rfl ?_
    refine Rv rfl rfl rfl (U_assign rfl) rfl rfl ?_
    refine Re rfl ?_
    refine thenQ_n ?_
    refine W_seq rfl ?_
    refine W_seq rfl ?_
    refine Wjoin ⟨[(3, .int .u8 ((d : Nat) : Int)), (4, .rop [i64 ((H : Nat) : Int), i64 ((Z : Nat) : Int), .ros (ls.map boxesL) ls.length c] 0), (9, i64 ((ls.length : Nat) : Int)), (10, i64 ((a % ls.length : Nat) : Int)), (11, i64 ((k : Nat) : Int)), (12, .ptr 1 0), (154, .bool ((decide (((sizQ Z H ((ls.set (a % ls.length) (ls[(a % ls.length)] ++ ls[k])).set k ([] : List Bx))[(a % ls.length)] : Nat) : Int) ≠ ((sizQ Z H ls[(a % ls.length)] + sizQ Z H ls[k] : Nat) : Int))) || (decide (((sizQ Z H ((ls.set (a % ls.length) (ls[(a % ls.length)] ++ ls[k])).set k ([] : List Bx))[k] : Nat) : Int) ≠ 0))))], [(0, some (.cells (((ls.set (a % ls.length) (ls[(a % ls.length)] ++ ls[k])).set k ([] : List Bx)).map boxesL) 46)), (1, some (.cells [i64 ((H : Nat) : Int), i64 ((Z : Nat) : Int), .sliceo 0 0 ls.length 1] 24))], 2, []⟩ ?_ ?_
    · refine W_reg rfl ?_
      refine Rv rfl rfl rfl (U_move rfl) rfl rfl ?_
      refine Rv rfl rfl rfl (U_neq rfl rfl) rfl rfl ?_
      refine Rv rfl rfl rfl (U_move rfl) rfl rfl ?_
      refine Rv rfl rfl rfl (U_move rfl) rfl rfl ?_
      refine Rv rfl rfl rfl (U_neq rfl rfl) rfl rfl ?_
      refine Rv rfl rfl rfl (U_pick_f rfl rfl) rfl rfl ?_
      refine Rv rfl rfl rfl (U_move rfl) rfl rfl ?_
      refine Rv rfl rfl rfl (U_move rfl) rfl rfl ?_
      refine Rv rfl rfl rfl (U_neq rfl rfl) rfl rfl ?_
      refine Rv rfl rfl rfl (U_pick_f rfl rfl) rfl rfl ?_
      refine Rv rfl rfl rfl (U_move rfl) rfl rfl ?_
      refine Rv rfl rfl rfl (U_move rfl) rfl rfl ?_
      refine Rv rfl rfl rfl (U_neq rfl rfl) rfl rfl ?_
      refine Rv rfl rfl rfl (U_pick_f rfl rfl) rfl rfl ?_
      refine Rv rfl rfl rfl (U_move rfl) rfl rfl ?_
      refine Rv rfl rfl rfl (U_move rfl) rfl rfl ?_
      refine Rv rfl rfl rfl (U_move rfl) rfl rfl ?_
      refine Rv rfl rfl rfl (U_move rfl) rfl rfl ?_
      refine Rv rfl rfl rfl (U_add rfl rfl (w64e (m := ((sizQ Z H ls[(a % ls.length)] + sizQ Z H ls[k] : Nat) : Int)) (by omega) (by omega) (by omega))) rfl rfl ?_
      refine Rv rfl rfl rfl (U_neq rfl rfl) rfl rfl ?_
      refine Rv rfl rfl rfl (U_pick_f rfl rfl) rfl rfl ?_
      refine Rv rfl rfl rfl (U_move rfl) rfl rfl ?_
      refine Rsplit (t := 151) rfl (fun hg14 => ?_) (fun hg14 => ?_)
      · rw [hg14]
        have hg14' : ((sizQ Z H ((ls.set (a % ls.length) (ls[(a % ls.length)] ++ ls[k])).set k ([] : List Bx))[(a % ls.length)] : Nat) : Int) ≠ ((sizQ Z H ls[(a % ls.length)] + sizQ Z H ls[k] : Nat) : Int) := of_decide_eq_true hg14
        refine Rs rfl rfl rfl rfl rfl ?_
        refine Rs rfl rfl rfl rfl rfl ?_
        refine Rv rfl rfl rfl (U_pick_t rfl rfl) rfl rfl ?_
        refine Re rfl ?_
        exact joinTo id ⟨eD rfl rfl, eD rfl rfl, eD rfl rfl, eD rfl rfl, eD rfl rfl, e_ rfl rfl, eD rfl rfl, trivial⟩ ⟨rD (mapD (fun _ => rfl) _) rfl rfl, r_ rfl rfl rfl, trivial⟩ rfl rfl rfl rfl (fun _ _ => rfl)
      · rw [hg14]
        have hg14' : ¬ (((sizQ Z H ((ls.set (a % ls.length) (ls[(a % ls.length)] ++ ls[k])).set k ([] : List Bx))[(a % ls.length)] : Nat) : Int) ≠ ((sizQ Z H ls[(a % ls.length)] + sizQ Z H ls[k] : Nat) : Int)) := of_decide_eq_false hg14
        refine Rv rfl rfl rfl (U_move rfl) rfl rfl ?_
        refine Rv rfl rfl rfl (U_neq rfl rfl) rfl rfl ?_
        refine Rv rfl rfl rfl (U_pick_f rfl rfl) rfl rfl ?_
        refine Re rfl ?_
        exact joinTo id ⟨eD rfl rfl, eD rfl rfl, eD rfl rfl, eD rfl rfl, eD rfl rfl, e_ rfl rfl, eD rfl rfl, trivial⟩ ⟨rD (mapD (fun _ => rfl) _) rfl rfl, r_ rfl rfl rfl, trivial⟩ rfl rfl rfl rfl (fun _ _ => rfl)
    refine thenQ_n ?_
    refine Wcond rfl rfl (fun hc2 => absurd hc2 (by first | (simp [hs1, hs2]; done) | (rw [hs1, hs2]; simp))) (fun hc2 => ?_)
    refine W_skip rfl ?_
    refine thenQ_n ?_
    refine W_seq rfl ?_
    refine W_reg rfl ?_
    refine Rv rfl rfl rfl (U_move rfl) rfl rfl ?_
    refine Rv rfl rfl rfl (U_convInt (by rfl) rfl (wr_i64 (by omega) (by omega))) rfl rfl ?_
    refine Rv rfl rfl rfl (U_move rfl) rfl rfl ?_
    refine Rv rfl rfl rfl (U_rem (c := ((d % ls.length : Nat) : Int)) rfl rfl (by omega) (tmodN _ _)) rfl rfl ?_
    refine Rv rfl rfl rfl (U_assign rfl) rfl rfl ?_
    refine Re rfl ?_
    refine thenQ_n ?_
    refine W_seq rfl ?_
    refine W_seq rfl ?_
    refine Wjoin ⟨[(4, .rop [i64 ((H : Nat) : Int), i64 ((Z : Nat) : Int), .ros (ls.map boxesL) ls.length c] 0), (10, i64 ((a % ls.length : Nat) : Int)), (11, i64 ((k : Nat) : Int)), (12, .ptr 1 0), (21, i64 ((d % ls.length : Nat) : Int)), (166, .bool ((decide (((d % ls.length : Nat) : Int) = ((a % ls.length : Nat) : Int))) || (decide (((d % ls.length : Nat) : Int) = ((k : Nat) : Int)))))], [(0, some (.cells (((ls.set (a % ls.length) (ls[(a % ls.length)] ++ ls[k])).set k ([] : List Bx)).map boxesL) 46)), (1, some (.cells [i64 ((H : Nat) : Int), i64 ((Z : Nat) : Int), .sliceo 0 0 ls.length 1] 24))], 2, []⟩ ?_ ?_
    · refine W_reg rfl ?_
      refine Rv rfl rfl rfl (U_move rfl) rfl rfl ?_
      refine Rv rfl rfl rfl (U_move rfl) rfl rfl ?_
      refine Rv rfl rfl rfl (U_eql rfl rfl) rfl rfl ?_
      refine Rv rfl rfl rfl (U_move rfl) rfl rfl ?_
      refine Rsplit (t := 162) rfl (fun hg15 => ?_) (fun hg15 => ?_)
      · rw [hg15]
        have hg15' : ((d % ls.length : Nat) : Int) = ((a % ls.length : Nat) : Int) := of_decide_eq_true hg15
        refine Rs rfl rfl rfl rfl rfl ?_
        refine Rs rfl rfl rfl rfl rfl ?_
        refine Rs rfl rfl rfl rfl rfl ?_
        refine Rv rfl rfl rfl (U_pick_t rfl rfl) rfl rfl ?_
        refine Re rfl ?_
        exact joinTo id ⟨eD rfl rfl, eD rfl rfl, eD rfl rfl, e_ rfl rfl, eD rfl rfl, eD rfl rfl, trivial⟩ ⟨rD (mapD (fun _ => rfl) _) rfl rfl, r_ rfl rfl rfl, trivial⟩ rfl rfl rfl rfl (fun _ _ => rfl)
      · rw [hg15]
        have hg15' : ¬ (((d % ls.length : Nat) : Int) = ((a % ls.length : Nat) : Int)) := of_decide_eq_false hg15
        refine Rv rfl rfl rfl (U_move rfl) rfl rfl ?_
        refine Rv rfl rfl rfl (U_move rfl) rfl rfl ?_
        refine Rv rfl rfl rfl (U_eql rfl rfl) rfl rfl ?_
        refine Rv rfl rfl rfl (U_pick_f rfl rfl) rfl rfl ?_
        refine Re rfl ?_
        exact joinTo id ⟨eD rfl rfl, eD rfl rfl, eD rfl rfl, e_ rfl rfl, eD rfl rfl, eD rfl rfl, trivial⟩ ⟨rD (mapD (fun _ => rfl) _) rfl rfl, r_ rfl rfl rfl, trivial⟩ rfl rfl rfl rfl (fun _ _ => rfl)
    refine thenQ_n ?_
    refine Wcond rfl rfl (fun hc3 => ?_) (fun hc3 => ?_)
    · refine W_seq rfl ?_
      refine W_reg rfl ?_
      refine Rv rfl rfl rfl (U_call rfl rfl (works_p) rfl) rfl rfl ?_
      refine Rv rfl rfl rfl (U_assign rfl) rfl rfl ?_
      refine Re rfl ?_
      refine thenQ_n ?_
      refine W_ret rfl ?_
      refine thenQ_r ?_
      exact retL (rlT rfl rl0) rfl rfl
    · have hc3' := Bool.eq_false_iff.1 hc3
      have hjj : (d % ls.length) ≠ (a % ls.length) ∧ (d % ls.length) ≠ k := by simp at hc3; omega
      have hj : (d % ls.length) < ls.length := Nat.mod_lt _ (by omega)
      have hXj : ((ls.set (a % ls.length) (ls[(a % ls.length)] ++ ls[k])).set k [])[(d % ls.length)]'(by omega) = ls[(d % ls.length)] := by simp only [hXe]; exact joinL_j hj hjj.1 hjj.2
      have hb1 : brQ Z H (((ls.set (a % ls.length) (ls[(a % ls.length)] ++ ls[k])).set k [])[(a % ls.length)]'(by omega)) (((ls.set (a % ls.length) (ls[(a % ls.length)] ++ ls[k])).set k [])[(d % ls.length)]'(by omega)) = brQ Z H ls[(a % ls.length)] ls[(d % ls.length)] + brQ Z H ls[k] ls[(d % ls.length)] := by rw [hXi, hXj]; exact br_app hbb.2
      have hb2 : brQ Z H (((ls.set (a % ls.length) (ls[(a % ls.length)] ++ ls[k])).set k [])[k]'(by omega)) (((ls.set (a % ls.length) (ls[(a % ls.length)] ++ ls[k])).set k [])[(d % ls.length)]'(by omega)) = 0 := by rw [hXk]; exact br_nil
      have hz3 : brQ Z H ls[(a % ls.length)] ls[(d % ls.length)] ≤ 4 * sizQ Z H ls[(a % ls.length)] := brQ_le
      have hz4 : brQ Z H ls[k] ls[(d % ls.length)] ≤ 4 * sizQ Z H ls[k] := brQ_le
      refine W_skip rfl ?_
      refine thenQ_n ?_
      refine W_seq rfl ?_
      refine W_reg rfl ?_
      refine Rv rfl rfl rfl (U_load3 rfl rfl rfl rfl rfl) rfl rfl ?_
      refine Rv rfl rfl rfl (U_move rfl) rfl rfl ?_
      refine Rv rfl rfl rfl (U_move rfl) rfl rfl ?_
      refine Rv rfl rfl rfl (U_call rfl rfl (brdN_p H Z ls c (by assumption) (by assumption) (a % ls.length) (d % ls.length) (by omega) (by omega) (by omega) (by first | rfl | (simp; done))) rfl) rfl rfl ?_
      refine Rv rfl rfl rfl (U_move rfl) rfl rfl ?_
      refine Rv rfl rfl rfl (U_extract rfl rfl) rfl rfl ?_
      refine Rv rfl rfl rfl (U_extract rfl rfl) rfl rfl ?_
      refine Rv rfl rfl rfl (U_assign rfl) rfl rfl ?_
      refine Rv rfl rfl rfl (U_assign rfl) rfl rfl ?_
      refine Re rfl ?_
      refine thenQ_n ?_
      refine W_seq rfl ?_
      refine W_reg rfl ?_
      refine Rv rfl rfl rfl (U_load3 rfl rfl rfl rfl rfl) rfl rfl ?_
      refine Rv rfl rfl rfl (U_move rfl) rfl rfl ?_
      refine Rv rfl rfl rfl (U_move rfl) rfl rfl ?_
      refine Rv rfl rfl rfl (U_call rfl rfl (brdN_p H Z ls c (by assumption) (by assumption) k (d % ls.length) (by omega) (by omega) (by omega) (by first | rfl | (simp; done))) rfl) rfl rfl ?_
      refine Rv rfl rfl rfl (U_move rfl) rfl rfl ?_
      refine Rv rfl rfl rfl (U_extract rfl rfl) rfl rfl ?_
      refine Rv rfl rfl rfl (U_extract rfl rfl) rfl rfl ?_
      refine Rv rfl rfl rfl (U_assign rfl) rfl rfl ?_
      refine Rv rfl rfl rfl (U_assign rfl) rfl rfl ?_
      refine Re rfl ?_
      refine thenQ_n ?_
      refine W_seq rfl ?_
      refine W_reg rfl ?_
      refine Rv rfl rfl rfl (U_load3 rfl rfl rfl rfl rfl) rfl rfl ?_
      refine Rv rfl rfl rfl (U_move rfl) rfl rfl ?_
      refine Rv rfl rfl rfl (U_move rfl) rfl rfl ?_
      refine Rv rfl rfl rfl (U_callB (Frz.fr 0 rfl (mapD (fun _ => rfl) _)) rfl rfl (brdN_p H Z ((ls.set (a % ls.length) (ls[(a % ls.length)] ++ ls[k])).set k ([] : List Bx)) none (by assumption) (by assumption) (a % ls.length) (d % ls.length) (by omega) (by omega) (by omega) (by first | rfl | (simp; done))) rfl rfl) rfl rfl ?_
      refine Rv rfl rfl rfl (U_move rfl) rfl rfl ?_
      refine Rv rfl rfl rfl (U_extract rfl rfl) rfl rfl ?_
      refine Rv rfl rfl rfl (U_extract rfl rfl) rfl rfl ?_
      refine Rv rfl rfl rfl (U_assign rfl) rfl rfl ?_
      refine Rv rfl rfl rfl (U_assign rfl) rfl rfl ?_
      refine Re rfl ?_
      refine thenQ_n ?_
      refine W_seq rfl ?_
      refine W_reg rfl ?_
      refine Rv rfl rfl rfl (U_load3 rfl rfl rfl rfl rfl) rfl rfl ?_
      refine Rv rfl rfl rfl (U_move rfl) rfl rfl ?_
      refine Rv rfl rfl rfl (U_move rfl) rfl rfl ?_
      refine Rv rfl rfl rfl (U_callB (Frz.fr 0 rfl (mapD (fun _ => rfl) _)) rfl rfl (brdN_p H Z ((ls.set (a % ls.length) (ls[(a % ls.length)] ++ ls[k])).set k ([] : List Bx)) none (by assumption) (by assumption) k (d % ls.length) (by omega) (by omega) (by omega) (by first | rfl | (simp; done))) rfl rfl) rfl rfl ?_
      refine Rv rfl rfl rfl (U_move rfl) rfl rfl ?_
      refine Rv rfl rfl rfl (U_extract rfl rfl) rfl rfl ?_
      refine Rv rfl rfl rfl (U_extract rfl rfl) rfl rfl ?_
      refine Rv rfl rfl rfl (U_assign rfl) rfl rfl ?_
      refine Rv rfl rfl rfl (U_assign rfl) rfl rfl ?_
      refine Re rfl ?_
      refine thenQ_n ?_
      refine W_seq rfl ?_
      refine Wjoin ⟨[(8, .bool ((decide (((brQ Z H ((ls.set (a % ls.length) (ls[(a % ls.length)] ++ ls[k])).set k ([] : List Bx))[(a % ls.length)] ((ls.set (a % ls.length) (ls[(a % ls.length)] ++ ls[k])).set k ([] : List Bx))[(d % ls.length)] : Nat) : Int) = ((brQ Z H ls[(a % ls.length)] ls[(d % ls.length)] + brQ Z H ls[k] ls[(d % ls.length)] : Nat) : Int))) && (decide (((brQ Z H ((ls.set (a % ls.length) (ls[(a % ls.length)] ++ ls[k])).set k ([] : List Bx))[k] ((ls.set (a % ls.length) (ls[(a % ls.length)] ++ ls[k])).set k ([] : List Bx))[(d % ls.length)] : Nat) : Int) = 0))))], [], 0, []⟩ ?_ ?_
      · refine W_reg rfl ?_
        refine Rv rfl rfl rfl (U_move rfl) rfl rfl ?_
        refine Rv rfl rfl rfl (U_eql rfl rfl) rfl rfl ?_
        refine Rv rfl rfl rfl (U_move rfl) rfl rfl ?_
        refine Rv rfl rfl rfl (U_move rfl) rfl rfl ?_
        refine Rv rfl rfl rfl (U_eql rfl rfl) rfl rfl ?_
        refine Rv rfl rfl rfl (U_pick_t rfl rfl) rfl rfl ?_
        refine Rv rfl rfl rfl (U_move rfl) rfl rfl ?_
        refine Rv rfl rfl rfl (U_move rfl) rfl rfl ?_
        refine Rv rfl rfl rfl (U_eql rfl rfl) rfl rfl ?_
        refine Rv rfl rfl rfl (U_pick_t rfl rfl) rfl rfl ?_
        refine Rv rfl rfl rfl (U_move rfl) rfl rfl ?_
        refine Rv rfl rfl rfl (U_move rfl) rfl rfl ?_
        refine Rv rfl rfl rfl (U_eql rfl rfl) rfl rfl ?_
        refine Rv rfl rfl rfl (U_pick_t rfl rfl) rfl rfl ?_
        refine Rv rfl rfl rfl (U_move rfl) rfl rfl ?_
        refine Rv rfl rfl rfl (U_move rfl) rfl rfl ?_
        refine Rv rfl rfl rfl (U_move rfl) rfl rfl ?_
        refine Rv rfl rfl rfl (U_move rfl) rfl rfl ?_
        refine Rv rfl rfl rfl (U_add rfl rfl (w64e (m := ((brQ Z H ls[(a % ls.length)] ls[(d % ls.length)] + brQ Z H ls[k] ls[(d % ls.length)] : Nat) : Int)) (by omega) (by omega) (by omega))) rfl rfl ?_
        refine Rv rfl rfl rfl (U_eql rfl rfl) rfl rfl ?_
        refine Rv rfl rfl rfl (U_pick_t rfl rfl) rfl rfl ?_
        refine Rv rfl rfl rfl (U_move rfl) rfl rfl ?_
        refine Rsplit (t := 217) rfl (fun hg16 => ?_) (fun hg16 => ?_)
        · rw [hg16]
          have hg16' : ((brQ Z H ((ls.set (a % ls.length) (ls[(a % ls.length)] ++ ls[k])).set k ([] : List Bx))[(a % ls.length)] ((ls.set (a % ls.length) (ls[(a % ls.length)] ++ ls[k])).set k ([] : List Bx))[(d % ls.length)] : Nat) : Int) = ((brQ Z H ls[(a % ls.length)] ls[(d % ls.length)] + brQ Z H ls[k] ls[(d % ls.length)] : Nat) : Int) := of_decide_eq_true hg16
          refine Rv rfl rfl rfl (U_move rfl) rfl rfl ?_
          refine Rv rfl rfl rfl (U_eql rfl rfl) rfl rfl ?_
          refine Rv rfl rfl rfl (U_pick_t rfl rfl) rfl rfl ?_
          refine Rv rfl rfl rfl (U_move rfl) rfl rfl ?_
          refine Rsplit (t := 221) rfl (fun hg17 => ?_) (fun hg17 => ?_)
          · rw [hg17]
            have hg17' : ((brQ Z H ((ls.set (a % ls.length) (ls[(a % ls.length)] ++ ls[k])).set k ([] : List Bx))[k] ((ls.set (a % ls.length) (ls[(a % ls.length)] ++ ls[k])).set k ([] : List Bx))[(d % ls.length)] : Nat) : Int) = 0 := of_decide_eq_true hg17
            refine Rv rfl rfl rfl (U_call rfl rfl (works_p) rfl) rfl rfl ?_
            refine Rv rfl rfl rfl (U_pick_t rfl rfl) rfl rfl ?_
            refine Rv rfl rfl rfl (U_assign rfl) rfl rfl ?_
            refine Re rfl ?_
            exact joinTo id ⟨eD rfl rfl, trivial⟩ trivial rfl rfl rfl rfl (fun _ _ => rfl)
          · rw [hg17]
            have hg17' : ¬ (((brQ Z H ((ls.set (a % ls.length) (ls[(a % ls.length)] ++ ls[k])).set k ([] : List Bx))[k] ((ls.set (a % ls.length) (ls[(a % ls.length)] ++ ls[k])).set k ([] : List Bx))[(d % ls.length)] : Nat) : Int) = 0) := of_decide_eq_false hg17
            refine Rs rfl rfl rfl rfl rfl ?_
            refine Rv rfl rfl rfl (U_pick_f rfl rfl) rfl rfl ?_
            refine Rv rfl rfl rfl (U_assign rfl) rfl rfl ?_
            refine Re rfl ?_
            exact joinTo id ⟨eD rfl rfl, trivial⟩ trivial rfl rfl rfl rfl (fun _ _ => rfl)
        · rw [hg16]
          have hg16' : ¬ (((brQ Z H ((ls.set (a % ls.length) (ls[(a % ls.length)] ++ ls[k])).set k ([] : List Bx))[(a % ls.length)] ((ls.set (a % ls.length) (ls[(a % ls.length)] ++ ls[k])).set k ([] : List Bx))[(d % ls.length)] : Nat) : Int) = ((brQ Z H ls[(a % ls.length)] ls[(d % ls.length)] + brQ Z H ls[k] ls[(d % ls.length)] : Nat) : Int)) := of_decide_eq_false hg16
          refine Rs rfl rfl rfl rfl rfl ?_
          refine Rs rfl rfl rfl rfl rfl ?_
          refine Rv rfl rfl rfl (U_pick_f rfl rfl) rfl rfl ?_
          refine Rv rfl rfl rfl (U_move rfl) rfl rfl ?_
          refine Rs rfl rfl rfl rfl rfl ?_
          refine Rv rfl rfl rfl (U_pick_f rfl rfl) rfl rfl ?_
          refine Rv rfl rfl rfl (U_assign rfl) rfl rfl ?_
          refine Re rfl ?_
          exact joinTo id ⟨eD rfl rfl, trivial⟩ trivial rfl rfl rfl rfl (fun _ _ => rfl)
      refine thenQ_n ?_
      refine W_ret rfl ?_
      exact retL (rlT rfl rl0) (by first | rfl | (simp only [hb1, hb2]; simp [packA]; done)) rfl
theorem joined_k {n a b : Nat} (hn : 2 ≤ n) : ∃ k : Nat, ((((a % n + 1 : Nat) : Int) + (((b : Nat) : Int).tmod (((n : Nat) : Int) - 1))).tmod ((n : Nat) : Int)) = ((k : Nat) : Int) ∧ k < n ∧ a % n ≠ k := by
  have h0 : a % n < n := Nat.mod_lt _ (by omega)
  have h1 : b % (n - 1) < n - 1 := Nat.mod_lt _ (by omega)
  have e1 : ((b : Nat) : Int).tmod (((n : Nat) : Int) - 1) = ((b % (n - 1) : Nat) : Int) := by rw [show ((n : Nat) : Int) - 1 = ((n - 1 : Nat) : Int) by omega]; exact tmodN _ _
  refine ⟨(a % n + 1 + b % (n - 1)) % n, ?_, Nat.mod_lt _ (by omega), ?_⟩
  · rw [e1, show (((a % n + 1 : Nat) : Int) + ((b % (n - 1) : Nat) : Int)) = ((a % n + 1 + b % (n - 1) : Nat) : Int) by omega]; exact tmodN _ _
  · generalize a % n = x at *
    generalize b % (n - 1) = y at *
    intro h
    by_cases e : x + 1 + y < n
    · rw [Nat.mod_eq_of_lt e] at h; omega
    · rw [Nat.mod_eq_sub_mod (by omega), Nat.mod_eq_of_lt (by omega)] at h; omega
theorem borderJoined_p (s : Sk) (c : Option Nat) (a b d : Nat) (ha : a < 256) (hb : b < 256) (hd : d < 256) : Pure Try.prog 14 [.agg [i64 s.h, i64 s.z, landsA s.ls c], .int .u8 (a : Nat), .int .u8 (b : Nat), .int .u8 (d : Nat)] (.bool true) := by
  cases hf : (!grt s && decide (chkS s = 0)) with
  | false => exact borderJoinedF_p s c hf a b d ha hb hd
  | true =>
    simp only [Bool.and_eq_true, Bool.not_eq_true', decide_eq_true_eq] at hf
    obtain ⟨H, Z, ls, rfl, hv⟩ := sk_ok hf.2
    have hc := hf.2
    have hg := hf.1
    by_cases hn2 : ls.length < 2
    · exact borderJoined0_p H Z ls c hc hv hg hn2 a b d ha hb hd
    · obtain ⟨k, hkk, hk, hik⟩ := joined_k (n := ls.length) (a := a) (b := b) (by omega)
      exact borderJoined1_p H Z ls c hc hv hg (by omega) a b d ha hb hd k hkk hk hik
end Go.Proofs.Ythlolelbmhfdbaa
end

section
namespace Go.Proofs.Ythlolelbmhfdbaa
set_option maxRecDepth 20000
open Go.AE
section
variable {H z h f : Nat} {p : Nat → Bool} {P : Nat → Nat → Bool}
theorem least (q : Nat → Bool) : ∀ n, (∀ j, j < n → q j = true) ∨ ∃ d, d < n ∧ q d = false ∧ ∀ j, j < d → q j = true
  | 0 => .inl fun j h => by omega
  | n + 1 => by
    rcases least q n with h | ⟨d, h1, h2, h3⟩
    · cases e : q n with
      | false => exact .inr ⟨n, by omega, e, h⟩
      | true =>
        refine .inl fun j hj => ?_
        by_cases e2 : j = n
        · subst e2; exact e
        · exact h j (by omega)
    · exact .inr ⟨d, by omega, h2, h3⟩
end
end Go.Proofs.Ythlolelbmhfdbaa
end

section
namespace Go.Proofs.Ythlolelbmhfdbaa
set_option maxRecDepth 20000
open Go.AE
section
variable {Z H : Nat} {l l' m m' : List Bx} {ls ls' : List (List Bx)}
structure Eqs (H : Nat) (ls' ls : List (List Bx)) : Prop where
  len : ls'.length = ls.length
  eq : ∀ i, inL' (ls'.getD i []) H = inL' (ls.getD i []) H
theorem Eqs.at (h : Eqs H ls' ls) {i : Nat} (h1 : i < ls'.length) (h2 : i < ls.length) : inL' ls'[i] H = inL' ls[i] H := by
  have := h.eq i
  simpa [List.getD_eq_getElem?_getD, List.getElem?_eq_getElem, h1, h2] using this
end
end Go.Proofs.Ythlolelbmhfdbaa
end

section
namespace Go.Proofs.Ythlolelbmhfdbaa
set_option maxRecDepth 20000
open Go.AE
abbrev Pl2 := Nat × Nat
def inP (Z H : Nat) (la : List Bx) (p : Pl2) : Prop := (p.1 < Z ∧ p.2 < H) ∧ inL' la H p.1 p.2 = true
inductive Con (Z H : Nat) (la : List Bx) (p : Pl2) : Pl2 → Prop
  | refl : Con Z H la p p
  | step {q r : Pl2} : Con Z H la p q → r ∈ bsP Z H q.1 q.2 → inL' la H r.1 r.2 = true → Con Z H la p r
section
variable {Z H : Nat} {la : List Bx} {S : List Pl2}
theorem adj_mem {p q : Pl2} : q ∈ bsP Z H p.1 p.2 ↔ adjQ Z H p q ≠ 0 := by
  have one : ∀ (c : Prop) [Decidable c] (x : Pl2), q ∈ (if c then [x] else []) ↔ (if c ∧ q = x then 1 else 0 : Nat) ≠ 0 := by
    intro c _ x
    by_cases h : c <;> by_cases h2 : q = x <;> simp [h, h2]
  unfold bsP adjQ
  simp only [List.mem_append, one]
  omega
theorem bsP_comm {p q : Pl2} (hp : p.1 < Z ∧ p.2 < H) (h : q ∈ bsP Z H p.1 p.2) : p ∈ bsP Z H q.1 q.2 := by
  have hq := bsP_in hp.1 hp.2 q h
  rw [adj_mem] at h ⊢
  rwa [adjQ_comm hq hp]
theorem Con.inn {p q : Pl2} (hp : inP Z H la p) (h : Con Z H la p q) : inP Z H la q := by
  induction h with
  | refl => exact hp
  | step _ h1 h2 ih => exact ⟨bsP_in ih.1.1 ih.1.2 _ h1, h2⟩
theorem Con.trans {p q r : Pl2} (h : Con Z H la p q) (h2 : Con Z H la q r) : Con Z H la p r := by
  induction h2 with
  | refl => exact h
  | step _ a b ih => exact .step ih a b
theorem Con.symm {p q : Pl2} (hp : inP Z H la p) (h : Con Z H la p q) : Con Z H la q p := by
  induction h with
  | refl => exact .refl
  | @step q r h1 a b ih =>
    have hq := h1.inn hp
    exact (Con.step .refl (bsP_comm hq.1 a) hq.2).trans ih
def closed (Z H : Nat) (la : List Bx) (S : List Pl2) (k : Nat) : Prop := ∀ i (hi : i < S.length), i < k → ∀ q ∈ bsP Z H S[i].1 S[i].2, inL' la H q.1 q.2 = true → q ∈ S
structure Grow (Z H : Nat) (la : List Bx) (s : Pl2) (S S' : List Pl2) : Prop where
  pre : ∃ N, S' = S ++ N
  con : ∀ q ∈ S', q ∈ S ∨ Con Z H la s q
theorem Grow.refl {s : Pl2} : Grow Z H la s S S := ⟨⟨[], by simp⟩, fun q h => .inl h⟩
theorem Grow.trans {s : Pl2} {S' S'' : List Pl2} (h : Grow Z H la s S S') (h2 : Grow Z H la s S' S'') : Grow Z H la s S S'' := by
  obtain ⟨N, e⟩ := h.pre; obtain ⟨M, e2⟩ := h2.pre
  exact ⟨⟨N ++ M, by rw [e2, e, List.append_assoc]⟩, fun q hq => (h2.con q hq).elim (h.con q) .inr⟩
theorem add_grow {s q : Pl2} (hq : inL' la H q.1 q.2 = true → Con Z H la s q) : Grow Z H la s S (addQ H la S q) := by
  unfold addQ; split
  · rename_i h
    exact ⟨⟨[q], rfl⟩, fun r hr => (List.mem_append.1 hr).imp id fun h2 => by rw [List.mem_singleton.1 h2]; exact hq h.1⟩
  · exact .refl
theorem add_has {q : Pl2} (hq : inL' la H q.1 q.2 = true) : q ∈ addQ H la S q := by
  unfold addQ; split
  · simp
  · rename_i h
    have : S.contains q = true := by
      cases e : S.contains q with
      | true => rfl
      | false => exact absurd ⟨hq, e⟩ h
    simpa using this
theorem fold_grow {s : Pl2} : ∀ {l : List Pl2} {S : List Pl2}, (∀ q ∈ l, inL' la H q.1 q.2 = true → Con Z H la s q) → Grow Z H la s S (l.foldl (addQ H la) S)
  | [], S, _ => .refl
  | a :: l, S, h => (add_grow (S := S) (h a (.head _))).trans (fold_grow (l := l) fun q hq => h q (.tail _ hq))
theorem fold_pre {x : Pl2} : ∀ {l : List Pl2} {S : List Pl2}, x ∈ S → x ∈ l.foldl (addQ H la) S
  | [], _, h => h
  | b :: l, S, h => by
    refine fold_pre (l := l) ?_
    unfold addQ; split
    · exact List.mem_append_left _ h
    · exact h
theorem fold_has : ∀ {l : List Pl2} {S : List Pl2} (q : Pl2), q ∈ l → inL' la H q.1 q.2 = true → q ∈ l.foldl (addQ H la) S
  | [], _, _, h, _ => absurd h List.not_mem_nil
  | a :: l, S, q, h, hq => by
    rcases List.mem_cons.1 h with rfl | h
    · show q ∈ l.foldl (addQ H la) (addQ H la S q)
      exact fold_pre (l := l) (add_has hq)
    · exact fold_has (l := l) q h hq
theorem exp_grow {s p : Pl2} (hp : Con Z H la s p) : Grow Z H la s S (expQ Z H la S p) := fold_grow fun q hq h => .step hp hq h
theorem exp_has {p q : Pl2} (hq : q ∈ bsP Z H p.1 p.2) (h : inL' la H q.1 q.2 = true) : q ∈ expQ Z H la S p := fold_has q hq h
theorem run_grow : ∀ (f : Nat) {S : List Pl2} {k n0 : Nat} {s : Pl2}, PcOk Z H S → (∀ i (hi : i < S.length), n0 ≤ i → Con Z H la s S[i]) → n0 ≤ k → closed Z H la S k → Z * H ≤ f + k → Grow Z H la s S (runQ Z H la f S k) ∧ closed Z H la (runQ Z H la f S k) (runQ Z H la f S k).length
  | 0, S, k, n0, s, hok, hcn, hk, hcl, hf => by
    have := hok.len
    have e : runQ Z H la 0 S k = S := rfl
    rw [e]
    exact ⟨.refl, fun i hi h2 => hcl i hi (by omega)⟩
  | f + 1, S, k, n0, s, hok, hcn, hk, hcl, hf => by
    by_cases h : k < S.length
    · rw [runQ_step h]
      have hg : Grow Z H la s S (expQ Z H la S S[k]) := exp_grow (hcn k h hk)
      obtain ⟨N, e⟩ := hg.pre
      have hok' : PcOk Z H (expQ Z H la S S[k]) := hok.exp (hok.pl _ (List.getElem_mem h))
      have ih := run_grow f (S := expQ Z H la S S[k]) (k := k + 1) (n0 := n0) (s := s) hok' (fun i hi h2 => by
        have hnd := hok'.nd
        by_cases hlt : i < S.length
        · have : (expQ Z H la S S[k])[i] = S[i] := by simp only [e]; rw [List.getElem_append_left hlt]
          rw [this]; exact hcn i hlt h2
        · rcases hg.con _ (List.getElem_mem hi) with h3 | h3
          · exfalso
            simp only [e] at h3 hnd hi
            rw [List.getElem_append_right (by omega)] at h3
            have hi' : i - S.length < N.length := by rw [List.length_append] at hi; omega
            exact (List.nodup_append.1 hnd).2.2 _ h3 _ (List.getElem_mem hi') rfl
          · exact h3) (by omega) (fun i hi h2 q hq hin => by
        by_cases e2 : i = k
        · subst e2
          have e3 : (expQ Z H la S S[i])[i] = S[i] := by simp only [e]; rw [List.getElem_append_left h]
          rw [e3] at hq
          exact exp_has hq hin
        · have hlt : i < S.length := by omega
          have e3 : (expQ Z H la S S[k])[i] = S[i] := by simp only [e]; rw [List.getElem_append_left hlt]
          rw [e3] at hq
          have := hcl i hlt (by omega) q hq hin
          rw [e]; exact List.mem_append_left _ this) (by omega)
      exact ⟨hg.trans ih.1, ih.2⟩
    · rw [runQ_end (by omega)]
      exact ⟨.refl, fun i hi h2 => hcl i hi (by omega)⟩
end
end Go.Proofs.Ythlolelbmhfdbaa
end

section
namespace Go.Proofs.Ythlolelbmhfdbaa
set_option maxRecDepth 20000
open Go.AE
abbrev rng (Z H : Nat) (p : Pl2) : Prop := p.1 < Z ∧ p.2 < H
structure Turn (Z H : Nat) (t u : Pl2 → Pl2) : Prop where
  it : ∀ p, rng Z H p → rng Z H (t p)
  iu : ∀ p, rng Z H p → rng Z H (u p)
  ut : ∀ p, rng Z H p → u (t p) = p
  tu : ∀ p, rng Z H p → t (u p) = p
  adj : ∀ p q, rng Z H p → rng Z H q → adjQ Z H (t p) (t q) = adjQ Z H p q
theorem Turn.inv {Z H : Nat} {t u : Pl2 → Pl2} (h : Turn Z H t u) : Turn Z H u t :=
  ⟨h.iu, h.it, h.tu, h.ut, fun p q hp hq => by rw [← h.adj _ _ (h.iu p hp) (h.iu q hq), h.tu p hp, h.tu q hq]⟩
theorem Turn.comp {Z H : Nat} {t u t' u' : Pl2 → Pl2} (h : Turn Z H t u) (h2 : Turn Z H t' u') : Turn Z H (fun p => t (t' p)) (fun p => u' (u p)) :=
  ⟨fun p hp => h.it _ (h2.it p hp), fun p hp => h2.iu _ (h.iu p hp), fun p hp => by rw [h.ut _ (h2.it p hp), h2.ut p hp], fun p hp => by rw [h2.tu _ (h.iu p hp), h.tu p hp], fun p q hp hq => by rw [h.adj _ _ (h2.it p hp) (h2.it q hq), h2.adj p q hp hq]⟩
def Trnd (Z H : Nat) (t : Pl2 → Pl2) (la lb : List Bx) : Prop := ∀ p, rng Z H p → inL' lb H p.1 p.2 = inL' la H (t p).1 (t p).2
theorem Trnd.inv {Z H : Nat} {t u : Pl2 → Pl2} {la lb : List Bx} (ht : Turn Z H t u) (h : Trnd Z H t la lb) : Trnd Z H u lb la := fun p hp => by
  rw [h _ (ht.iu p hp), ht.tu p hp]
section
variable {Z H : Nat} {t u : Pl2 → Pl2} {la lb lc ld : List Bx}
end
structure Trns (Z H : Nat) (t : Pl2 → Pl2) (ls ls' : List (List Bx)) : Prop where
  len : ls'.length = ls.length
  at_ : ∀ i (h1 : i < ls.length) (h2 : i < ls'.length), Trnd Z H t ls[i] ls'[i]
section
variable {Z H : Nat} {t u : Pl2 → Pl2} {ls ls' : List (List Bx)}
theorem Trns.getD (h : Trns Z H t ls ls') (i : Nat) : Trnd Z H t (ls.getD i []) (ls'.getD i []) := by
  by_cases hi : i < ls.length
  · have hi2 : i < ls'.length := by rw [h.len]; exact hi
    have := h.at_ i hi hi2
    simpa [List.getD_eq_getElem?_getD, List.getElem?_eq_getElem, hi, hi2] using this
  · have e1 : ls.getD i [] = [] := by simp [List.getD_eq_getElem?_getD, List.getElem?_eq_none (show ls.length ≤ i by omega)]
    have e2 : ls'.getD i [] = [] := by simp [List.getD_eq_getElem?_getD, List.getElem?_eq_none (show ls'.length ≤ i by rw [h.len]; omega)]
    rw [e1, e2]; intro p hp; simp [inL']
end
end Go.Proofs.Ythlolelbmhfdbaa
end

section
namespace Go.Proofs.Ythlolelbmhfdbaa
set_option maxRecDepth 20000
open Go.AE
theorem Trnd.comp {Z H : Nat} {t t' : Pl2 → Pl2} {la lb lc : List Bx} (h : Trnd Z H t la lb) (h2 : Trnd Z H t' lb lc) (ht' : ∀ p, rng Z H p → rng Z H (t' p)) : Trnd Z H (fun p => t (t' p)) la lc := fun p hp => by
  rw [h2 p hp, h _ (ht' p hp)]
end Go.Proofs.Ythlolelbmhfdbaa
end
