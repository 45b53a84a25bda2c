import Derived.IntWalk
import Derived.Test.YthmibifghihdaaaM5
set_option linter.all false
section
namespace Go.AE
open Go.RowKit
section ops
variable {C : Ctx} {T : AT} {H : AH} {nx : Nat} {d : Option Tmp} {ty : TypeId} {pos : String} {after : Array Edge} {g : Option (Nat × Bool)}
end ops
section steps
variable {C : Ctx} {T : AT} {H : AH} {nx : Nat} {df : List Nat} {ops : Array Oper} {i : Nat} {K : St → Prop} {o : Oper} {v : AV} {ups : AH} {nx' t : Nat} {c : Bool}
end steps
section dsteps
variable {al : Nat × ABlk} {C : Ctx} {kl : Oper → Nat} {ops : List Oper} {ms : List Nat} {H0 : AH} {K : AT → AH → Nat → Prop} {i : Nat} {T : AT} {D : List (Nat × AH)} {nx nx' t : Nat} {o : Oper} {v : AV} {ups : AH} {c : Bool}
end dsteps
section codes
variable {C : Ctx} {c : Code} {Q : Exit → St → Prop} {T : AT} {H : AH} {nx : Nat} {df : List Nat}
theorem WdrawL (l : List Nat) (h : c.tag = 2) (hm : C.P.follows .mixedOrders = true) (hck : chk (light l) c.ops.toList (masks c.ops.toList) = true)
    (k : Dr (al := al0) C (light l) c.ops.toList (masks c.ops.toList) H (fun T H nx => Q .normal ⟨T, H, nx, df⟩) 0 T [] nx) : WpA C c Q ⟨T, H, nx, df⟩ := W_draw h hm hck k
end codes
section ops
variable {C : Ctx} {T : AT} {H : AH} {nx : Nat} {d : Option Tmp} {ty : TypeId} {pos : String} {after : Array Edge} {g : Option (Nat × Bool)}
end ops
end Go.AE
end

section
namespace Go.AE
open Go.RowKit
section ops
variable {C : Ctx} {T : AT} {H : AH} {nx : Nat} {d : Option Tmp} {ty : TypeId} {pos : String} {after : Array Edge} {g : Option (Nat × Bool)}
end ops
section
variable {C : Ctx} {c : Code} {Q : Exit → St → Prop} {T T' : AT} {H H' : AH} {nx n : Nat} {df : List Nat}
end
section
variable {C : Ctx} {c : Code} {Q : Exit → St → Prop} {T T' : AT} {H H' : AH} {nx : Nat} {df : List Nat} {b n z : Nat} {cs : List AV} {t : TypeId}
theorem fS {b n z i : Nat} {cs : List AV} {v : AV} {T : AT} (h : lk T i = some v) (hv : v.nob b = true) : ∃ u, lk T i = some u ∧ FrO b n z cs u v := ⟨v, h, .same hv⟩
end
end Go.AE
end

section
namespace Go.AE
open Go.RowKit
section
variable {P : Program} {T : AT} {H : AH} {nx : Nat}
end
section ops
variable {C : Ctx} {T : AT} {H : AH} {nx : Nat} {d : Option Tmp} {ty : TypeId} {pos : String} {after : Array Edge} {g : Option (Nat × Bool)}
end ops
theorem upsO {Hr : AH} {nx b n : Nat} {k : Option ABlk} {cs : List AV} {e : TypeId} (hg : gt Hr b = outB cs e n) (hn : 0 < n) : upsOk 2 Hr nx (nx + 1) [(nx, k), (b, none)] = true := by
  obtain ⟨m, rfl⟩ : ∃ m, n = m + 1 := ⟨n - 1, by omega⟩
  simp [upsOk, hg, outB]
end Go.AE
end

section
namespace Go.AE
open Go.RowKit
section
variable {C : Ctx} {T : AT} {H : AH} {nx : Nat} {d : Option Tmp} {ty : TypeId} {pos : String} {after : Array Edge} {g : Option (Nat × Bool)}
theorem U_eqlS {t t' : TypeId} {x y : Operand} {k : IntKind} {a : Int} (hx : ev T x = some (.int k a)) (hy : ev T y = some (.int k a)) : OpU C ⟨d, .binOp .eql t x y t', ty, pos, after, g⟩ T H nx (.bool true) [] nx := by
  have h := U_eql (C := C) (t := t) (t' := t') (d := d) (ty := ty) (pos := pos) (after := after) (g := g) (H := H) (nx := nx) hx hy
  rwa [decide_eq_true rfl] at h
theorem U_eqlAS {t t' : TypeId} {x y : Operand} {cs : List AV} {ks : List IntKind} {ns : List Int} [hT : TyEq C.P t ks] (hx : ev T x = some (.agg cs)) (hy : ev T y = some (.agg cs)) (h1 : numsOf cs = some ns) (k1 : kindsA cs = ks) :
    OpU C ⟨d, .binOp .eql t x y t', ty, pos, after, g⟩ T H nx (.bool true) [] nx := by
  have h := U_eqlA (C := C) (t := t) (t' := t') (d := d) (ty := ty) (pos := pos) (after := after) (g := g) (H := H) (nx := nx) (p := True) hx hy h1 h1 k1 k1 (by simp)
  rwa [decide_eq_true trivial] at h
theorem len0_ros {cs : List AV} {n : Nat} {c : Option Nat} (hn : n = 0) : ∀ (ρ : Env) Φ w y, Con ρ Φ w (.ros cs n c) y → ∃ a k, y = .slice a 0 k := fun ρ Φ w y h => by
  obtain ⟨a, k, h1, _⟩ := lenk_ros ρ Φ w y h; subst hn; exact ⟨a, k, h1⟩
end
end Go.AE
end

section
namespace Go.AE
open Go.RowKit
section
variable {C : Ctx} {T : AT} {H : AH} {nx : Nat} {d : Option Tmp} {ty : TypeId} {pos : String} {after : Array Edge} {g : Option (Nat × Bool)}
theorem U_appL {sT xT e e' z n n' : Nat} {x y : Operand} {s v : AV} {news : List AV} [hT : TySl C.P sT e z] [hX : TySl C.P xT e' z] [hE : TyElem C.P e z] (hx : ev T x = some s) (hs : srcS z H s = some ([], 0)) (hc0 : capOf s = some 0) (hy : ev T y = some v) (h2 : srcS z H v = some (news, n)) (hn : 0 < n) (hlim : n ≤ 1000000) (hn' : n = n') :
    OpU C ⟨d, .call ⟨.builtin .append, #[x, y], #[sT, xT]⟩, ty, pos, after, g⟩ T H nx (.out nx n' z) [(nx, outB news e n')] (nx + 1) := by
  subst hn'
  cases n with
  | zero => cases hn
  | succ m =>
    have h := U_appendGrow (C := C) (T := T) (H := H) (nx := nx) (d := d) (ty := ty) (pos := pos) (after := after) (g := g) (sT := sT) (xT := xT) hx hy hs h2 hc0 (by omega) (by omega)
    rw [Nat.zero_add] at h
    exact OpU.weakV (fun _ _ _ _ h => con_outS.2 h) h
end
end Go.AE
end

section
namespace Go.Proofs.Ythmibifghihdaaa
set_option maxRecDepth 20000
open Go.AE
theorem chkB_ok {b : Bk} (h : chkB b = 0) : ∃ (n : Nat) (ks : List (Nat × Nat)), b = ⟨n, ks.map cP⟩ ∧ VB n ks ∧ ks.length ≤ 40 := by
  unfold chkB at h
  split at h
  · omega
  · rename_i h1
    split at h
    · omega
    · rename_i h2
      have h1' : (1 ≤ b.n ∧ b.n ≤ 10) ∧ b.ls.length ≤ 40 := by simp [inL1] at h1; omega
      have h2' : ∀ p ∈ b.ls, (0 ≤ p.1 ∧ p.1 < b.n) ∧ (0 ≤ p.2 ∧ p.2 < b.n) ∧ p.1 ≠ p.2 := by
        intro p hp
        have : strB b.n p = false := by
          cases e : strB b.n p with
          | false => rfl
          | true => exact absurd (List.any_eq_true.2 ⟨p, hp, e⟩) h2
        rw [strB_eq] at this; simp [staB] at this; omega
      refine ⟨b.n.toNat, b.ls.map fun p => (p.1.toNat, p.2.toNat), ?_, ⟨by omega, by omega, by simp; omega, fun p hp => ?_⟩, by simp; omega⟩
      · obtain ⟨n, ls⟩ := b
        simp only at h1' h2'
        have e1 : ((n.toNat : Nat) : Int) = n := by omega
        have e2 : (ls.map fun p => (p.1.toNat, p.2.toNat)).map cP = ls := by
          rw [List.map_map]
          refine (List.map_congr_left fun p hp => ?_).trans (List.map_id _)
          have := h2' p hp
          refine Prod.ext ?_ ?_ <;> simp [cP] <;> omega
        rw [e1, e2]
      · obtain ⟨q, hq, rfl⟩ := List.mem_map.1 hp
        have := h2' q hq
        refine ⟨?_, ?_, ?_⟩ <;> simp only <;> omega
theorem openE_p (b : Bk) (c : Option Nat) (hl : b.ls.length ≤ 1000000) (hE : chkB b ≠ 0) : Pure Try.prog 59 [bookA b c] (.tup [.nilp, i64 (chkB b)]) := by
  refine pure_of_body Try.func59 (c := body Try.f59) rfl (by simp [Try.ntmps59]) fun w0 Φ0 => ?_
  refine W_seq rfl ?_
  refine W_reg rfl ?_
  refine Rv rfl rfl rfl (U_boxF rfl rfl rfl) rfl rfl ?_
  refine Rv rfl rfl rfl (U_assign rfl) rfl rfl ?_
  refine Rv rfl rfl rfl (U_assign rfl) rfl rfl ?_
  refine Re rfl ?_
  refine thenQ_n ?_
  refine W_seq rfl ?_
  refine W_seq rfl ?_
  refine W_reg rfl ?_
  refine Rv rfl rfl rfl (U_load2 rfl rfl rfl rfl) rfl rfl ?_
  refine Rv rfl rfl rfl (U_call rfl rfl (chkB_p b c hl) rfl) rfl rfl ?_
  refine Rv rfl rfl rfl (U_assign rfl) rfl rfl ?_
  refine Re rfl ?_
  refine thenQ_n ?_
  refine W_seq rfl ?_
  refine W_reg rfl ?_
  refine Rv rfl rfl rfl (U_move rfl) rfl rfl ?_
  refine Rv rfl rfl rfl (U_neq rfl rfl) rfl rfl ?_
  refine Re rfl ?_
  refine thenQ_n ?_
  refine WcondP rfl rfl (fun hc0 => ?_) (fun hc0 => absurd (hE) hc0)
  refine W_seq rfl ?_
  refine W_reg rfl ?_
  refine Rv rfl rfl rfl (U_move rfl) rfl rfl ?_
  refine Rv rfl rfl rfl (U_assign rfl) rfl rfl ?_
  refine Rv rfl rfl rfl (U_assign rfl) rfl rfl ?_
  refine Re rfl ?_
  refine thenQ_n ?_
  refine W_ret rfl ?_
  refine thenQ_r ?_
  exact retL (rlT rfl (rlT rfl rl0)) rfl rfl
end Go.Proofs.Ythmibifghihdaaa
end

section
namespace Go.Proofs.Ythmibifghihdaaa
set_option maxRecDepth 20000
open Go.AE
theorem withinF_p (lo hi : Int) (l : List Int) (c : Option Nat) (hl : l.length ≤ 1000000) (h : inL lo hi l = false) : Pure Try.prog 56 [i64 lo, i64 hi, intsA l c] (.bool false) := by have := within_p lo hi l c hl; rwa [h] at this
theorem ruledE_p (b : Bk) (c : Option Nat) (hl : b.ls.length ≤ 1000000) (hE : chkB b ≠ 0) (l : List Int) (d : Option Nat) : Pure Try.prog 63 [bookA b c, intsA l d] (.tup [.nilp, i64 (chkB b)]) := by
  refine pure_of_body Try.func63 (c := body Try.f63) rfl (by simp [Try.ntmps63]) fun w0 Φ0 => ?_
  refine W_seq rfl ?_
  refine W_reg rfl ?_
  refine Rv rfl rfl rfl (U_boxF rfl rfl rfl) rfl rfl ?_
  refine Rv rfl rfl rfl (U_assign rfl) rfl rfl ?_
  refine Rv rfl rfl rfl (U_assign rfl) rfl rfl ?_
  refine Re rfl ?_
  refine thenQ_n ?_
  refine W_seq rfl ?_
  refine W_reg rfl ?_
  refine Rv rfl rfl rfl (U_load2 rfl rfl rfl rfl) rfl rfl ?_
  refine Rv rfl rfl rfl (U_call rfl rfl (openE_p b c hl hE) rfl) rfl rfl ?_
  refine Rv rfl rfl rfl (U_move rfl) rfl rfl ?_
  refine Rv rfl rfl rfl (U_extract rfl rfl) rfl rfl ?_
  refine Rv rfl rfl rfl (U_extract rfl rfl) rfl rfl ?_
  refine Rv rfl rfl rfl (U_assign rfl) rfl rfl ?_
  refine Rv rfl rfl rfl (U_assign rfl) rfl rfl ?_
  refine Re rfl ?_
  refine thenQ_n ?_
  refine W_seq rfl ?_
  refine W_block rfl ?_
  refine W_seq rfl ?_
  refine W_reg rfl ?_
  refine Rv rfl rfl rfl (U_move rfl) rfl rfl ?_
  refine Rv rfl rfl rfl (U_neq rfl rfl) rfl rfl ?_
  refine Rv rfl rfl rfl (U_assign rfl) rfl rfl ?_
  refine Re rfl ?_
  refine thenQ_n ?_
  refine WcondP rfl rfl (fun hc0 => ?_) (fun hc0 => absurd (hE) hc0)
  refine W_seq rfl ?_
  refine W_reg rfl ?_
  refine Rv rfl rfl rfl (U_move rfl) rfl rfl ?_
  refine Rv rfl rfl rfl (U_assign rfl) rfl rfl ?_
  refine Rv rfl rfl rfl (U_assign rfl) rfl rfl ?_
  refine Re rfl ?_
  refine thenQ_n ?_
  refine W_ret rfl ?_
  refine blkQ_r ?_
  refine thenQ_r ?_
  exact retL (rlT rfl (rlT rfl rl0)) rfl rfl
theorem ruledA_p (n : Nat) (ks : List (Nat × Nat)) (c : Option Nat) (hv : VB n ks) (h40 : ks.length ≤ 40) (l : List Int) (d : Option Nat) (hl : l.length ≤ 1000000) (hin : inL 0 (((n : Nat) : Int) - 1) l = false) : Pure Try.prog 63 [bknA n ks c, intsA l d] (.tup [.nilp, i64 2]) := by
  have hv' := hv
  obtain ⟨hn1, hn, hkl, hk⟩ := hv'
  have hk2 := vb_lt hv
  refine pure_of_body Try.func63 (c := body Try.f63) rfl (by simp [Try.ntmps63]) fun w0 Φ0 => ?_
  refine W_seq rfl ?_
  refine W_reg rfl ?_
  refine Rv rfl rfl rfl (U_boxF rfl rfl rfl) rfl rfl ?_
  refine Rv rfl rfl rfl (U_assign rfl) rfl rfl ?_
  refine Rv rfl rfl rfl (U_assign rfl) rfl rfl ?_
  refine Re rfl ?_
  refine thenQ_n ?_
  refine W_seq rfl ?_
  refine W_reg rfl ?_
  refine Rv rfl rfl rfl (U_load2 rfl rfl rfl rfl) rfl rfl ?_
  refine Rv rfl rfl rfl (U_call rfl rfl (openG_p n ks c hv h40) rfl) rfl rfl ?_
  refine Rv rfl rfl rfl (U_move rfl) rfl rfl ?_
  refine Rv rfl rfl rfl (U_extract rfl rfl) rfl rfl ?_
  refine Rv rfl rfl rfl (U_extract rfl rfl) rfl rfl ?_
  refine Rv rfl rfl rfl (U_assign rfl) rfl rfl ?_
  refine Rv rfl rfl rfl (U_assign rfl) rfl rfl ?_
  refine Re rfl ?_
  refine thenQ_n ?_
  refine W_seq rfl ?_
  refine W_block rfl ?_
  refine W_seq rfl ?_
  refine W_reg rfl ?_
  refine Rv rfl rfl rfl (U_move rfl) rfl rfl ?_
  refine Rv rfl rfl rfl (U_neq rfl rfl) rfl rfl ?_
  refine Rv rfl rfl rfl (U_assign rfl) rfl rfl ?_
  refine Re rfl ?_
  refine thenQ_n ?_
  refine WcondP rfl rfl (fun h => absurd h (by decide)) (fun _ => ?_)
  refine W_seq rfl ?_
  refine Wdraw rfl (by kernel_rfl) (by kernel_rfl) ?_
  refine Dv rfl rfl rfl (U_fieldAddrR rfl) rfl rfl ?_
  refine Dv rfl rfl rfl (U_load1 rfl rfl rfl) rfl rfl ?_
  refine Dv rfl rfl rfl (U_sub rfl rfl (w64 (by omega) (by omega))) rfl rfl ?_
  refine Dv rfl rfl rfl (U_move rfl) rfl rfl ?_
  refine Dv rfl rfl rfl (U_call rfl rfl (withinF_p 0 (((n : Nat) : Int) - 1) l d (by first | assumption | omega | (simp; done) | (simp; omega)) (by assumption)) rfl) rfl rfl ?_
  refine Dv rfl rfl rfl (U_not rfl) rfl rfl ?_
  refine Dv rfl rfl rfl (U_move rfl) rfl rfl ?_
  refine Ds rfl rfl rfl rfl rfl ?_
  refine Ds rfl rfl rfl rfl rfl ?_
  refine Ds rfl rfl rfl rfl rfl ?_
  refine Ds rfl rfl rfl rfl rfl ?_
  refine Ds rfl rfl rfl rfl rfl ?_
  refine Ds rfl rfl rfl rfl rfl ?_
  refine Ds rfl rfl rfl rfl rfl ?_
  refine Ds rfl rfl rfl rfl rfl ?_
  refine Ds rfl rfl rfl rfl rfl ?_
  refine Ds rfl rfl rfl rfl rfl ?_
  refine Ds rfl rfl rfl rfl rfl ?_
  refine Ds rfl rfl rfl rfl rfl ?_
  refine Dv rfl rfl rfl (U_pick_t rfl rfl) rfl rfl ?_
  refine Dv rfl rfl rfl (U_assign rfl) rfl rfl ?_
  refine Dr.nil rfl ?_
  refine thenQ_n ?_
  refine Wcond rfl rfl (fun _ => ?_) (fun h => nomatch h)
  refine W_seq rfl ?_
  refine W_reg rfl ?_
  refine Rv rfl rfl rfl (U_assign rfl) rfl rfl ?_
  refine Rv rfl rfl rfl (U_assign rfl) rfl rfl ?_
  refine Re rfl ?_
  refine thenQ_n ?_
  refine W_ret rfl ?_
  refine blkQ_r ?_
  refine thenQ_r ?_
  exact retL (rlT rfl (rlT rfl rl0)) rfl rfl
theorem ruledDY_p (n : Nat) (ks : List (Nat × Nat)) (c : Option Nat) (hv : VB n ks) (h40 : ks.length ≤ 40) (x y : Int) (d : Option Nat) (hin : inL 0 (((n : Nat) : Int) - 1) [x, y] = true) (hxy : ¬ x = y) (g : Nat) (hg : Cyc n ks g) : Pure Try.prog 63 [bknA n ks c, intsA [x, y] d] (.tup [.nilp, i64 16]) := by
  have hv' := hv
  obtain ⟨hn1, hn, hkl, hk⟩ := hv'
  have hk2 := vb_lt hv
  refine pure_of_body Try.func63 (c := body Try.f63) rfl (by simp [Try.ntmps63]) fun w0 Φ0 => ?_
  refine W_seq rfl ?_
  refine W_reg rfl ?_
  refine Rv rfl rfl rfl (U_boxF rfl rfl rfl) rfl rfl ?_
  refine Rv rfl rfl rfl (U_assign rfl) rfl rfl ?_
  refine Rv rfl rfl rfl (U_assign rfl) rfl rfl ?_
  refine Re rfl ?_
  refine thenQ_n ?_
  refine W_seq rfl ?_
  refine W_reg rfl ?_
  refine Rv rfl rfl rfl (U_load2 rfl rfl rfl rfl) rfl rfl ?_
  refine Rv rfl rfl rfl (U_call rfl rfl (openG_p n ks c hv h40) rfl) rfl rfl ?_
  refine Rv rfl rfl rfl (U_move rfl) rfl rfl ?_
  refine Rv rfl rfl rfl (U_extract rfl rfl) rfl rfl ?_
  refine Rv rfl rfl rfl (U_extract rfl rfl) rfl rfl ?_
  refine Rv rfl rfl rfl (U_assign rfl) rfl rfl ?_
  refine Rv rfl rfl rfl (U_assign rfl) rfl rfl ?_
  refine Re rfl ?_
  refine thenQ_n ?_
  refine W_seq rfl ?_
  refine W_block rfl ?_
  refine W_seq rfl ?_
  refine W_reg rfl ?_
  refine Rv rfl rfl rfl (U_move rfl) rfl rfl ?_
  refine Rv rfl rfl rfl (U_neq rfl rfl) rfl rfl ?_
  refine Rv rfl rfl rfl (U_assign rfl) rfl rfl ?_
  refine Re rfl ?_
  refine thenQ_n ?_
  refine WcondP rfl rfl (fun h => absurd h (by decide)) (fun _ => ?_)
  refine W_seq rfl ?_
  refine Wdraw rfl (by kernel_rfl) (by kernel_rfl) ?_
  refine Dv rfl rfl rfl (U_fieldAddrR rfl) rfl rfl ?_
  refine Dv rfl rfl rfl (U_load1 rfl rfl rfl) rfl rfl ?_
  refine Dv rfl rfl rfl (U_sub rfl rfl (w64 (by omega) (by omega))) rfl rfl ?_
  refine Dv rfl rfl rfl (U_move rfl) rfl rfl ?_
  refine Dv rfl rfl rfl (U_call rfl rfl (withinT_p 0 (((n : Nat) : Int) - 1) [x, y] d (by first | assumption | omega | (simp; done) | (simp; omega)) (by assumption)) rfl) rfl rfl ?_
  refine Dv rfl rfl rfl (U_not rfl) rfl rfl ?_
  refine Dv rfl rfl rfl (U_move rfl) rfl rfl ?_
  refine Dv rfl rfl rfl (U_move rfl) rfl rfl ?_
  refine Dv rfl rfl rfl (U_lenOf rfl len_ros) rfl rfl ?_
  refine Dv rfl rfl rfl (U_eql rfl rfl) rfl rfl ?_
  refine Dv rfl rfl rfl (U_move rfl) rfl rfl ?_
  refine Dv rfl rfl rfl (U_move rfl) rfl rfl ?_
  refine Dv rfl rfl rfl (U_indexR (j := 0) rfl rfl rfl (by first | decide | (simp; done))) rfl rfl ?_
  refine Dv rfl rfl rfl (U_load1 rfl rfl rfl) rfl rfl ?_
  refine Dv rfl rfl rfl (U_move rfl) rfl rfl ?_
  refine Dv rfl rfl rfl (U_indexR (j := 1) rfl rfl rfl (by first | decide | (simp; done))) rfl rfl ?_
  refine Dv rfl rfl rfl (U_load1 rfl rfl rfl) rfl rfl ?_
  refine Dv rfl rfl rfl (OpU.toB (U_eql rfl rfl) (decide_eq_false hxy)) rfl rfl ?_
  refine Dv rfl rfl rfl (U_pick_t rfl rfl) rfl rfl ?_
  refine Dv rfl rfl rfl (U_pick_f rfl rfl) rfl rfl ?_
  refine Dv rfl rfl rfl (U_assign rfl) rfl rfl ?_
  refine Dr.nil rfl ?_
  refine thenQ_n ?_
  refine Wcond rfl rfl (fun h => nomatch h) (fun _ => ?_)
  refine W_seq rfl ?_
  refine W_reg rfl ?_
  refine Rv rfl rfl rfl (U_move rfl) rfl rfl ?_
  refine Rv rfl rfl rfl (U_call rfl rfl (circleY_p n ks c hv g hg) rfl) rfl rfl ?_
  refine Rv rfl rfl rfl (U_neRos (by simp) rfl rfl) rfl rfl ?_
  refine Rv rfl rfl rfl (U_assign rfl) rfl rfl ?_
  refine Re rfl ?_
  refine thenQ_n ?_
  refine Wcond rfl rfl (fun _ => ?_) (fun h => nomatch h)
  refine W_seq rfl ?_
  refine W_reg rfl ?_
  refine Rv rfl rfl rfl (U_assign rfl) rfl rfl ?_
  refine Rv rfl rfl rfl (U_assign rfl) rfl rfl ?_
  refine Re rfl ?_
  refine thenQ_n ?_
  refine W_ret rfl ?_
  refine blkQ_r ?_
  refine thenQ_r ?_
  exact retL (rlT rfl (rlT rfl rl0)) rfl rfl
end Go.Proofs.Ythmibifghihdaaa
end

section
namespace Go.Proofs.Ythmibifghihdaaa
set_option maxRecDepth 20000
open Go.AE
theorem chance_e (b : Bk) (c : Option Nat) (hl : b.ls.length ≤ 1000000) (x y : Int) (e : Int) (he : e ≠ 0) (hr : Pure Try.prog 63 [bookA b c, intsA [x, y] (some 2)] (.tup [.nilp, i64 e])) : Pure Try.prog 35 [bookA b c, i64 x, i64 y] (.tup [.agg [i64 0, i64 0], i64 e]) := by
  refine pure_of_body Try.func35 (c := body Try.f35) rfl (by simp [Try.ntmps35]) fun w0 Φ0 => ?_
  refine W_seq rfl ?_
  refine W_reg rfl ?_
  refine Rv rfl rfl rfl (U_boxF rfl rfl rfl) rfl rfl ?_
  refine Ra rfl rfl rfl (U_alloc) rfl rfl rfl ?_
  refine Rv rfl rfl rfl (U_assign rfl) rfl rfl ?_
  refine Re rfl ?_
  refine thenQ_n ?_
  refine W_seq rfl ?_
  refine W_reg rfl ?_
  refine Rv rfl rfl rfl (U_load2 rfl rfl rfl rfl) rfl rfl ?_
  refine Rv rfl rfl rfl (U_move rfl) rfl rfl ?_
  refine Rv rfl rfl rfl (U_move rfl) rfl rfl ?_
  refine Rv rfl rfl rfl (U_buildSliceF (by rfl) (by decide) rfl rfl rfl) rfl rfl ?_
  refine Rv rfl rfl rfl (U_call rfl rfl (hr) rfl) rfl rfl ?_
  refine Rv rfl rfl rfl (U_move rfl) rfl rfl ?_
  refine Rv rfl rfl rfl (U_extract rfl rfl) rfl rfl ?_
  refine Rv rfl rfl rfl (U_extract rfl rfl) rfl rfl ?_
  refine Rv rfl rfl rfl (U_assign rfl) rfl rfl ?_
  refine Rv rfl rfl rfl (U_assign rfl) rfl rfl ?_
  refine Re rfl ?_
  refine thenQ_n ?_
  refine W_seq rfl ?_
  refine W_seq rfl ?_
  refine W_reg rfl ?_
  refine Rv rfl rfl rfl (U_move rfl) rfl rfl ?_
  refine Rv rfl rfl rfl (U_neq rfl rfl) rfl rfl ?_
  refine Re rfl ?_
  refine thenQ_n ?_
  refine WcondP rfl rfl (fun hc0 => ?_) (fun hc0 => absurd (he) hc0)
  refine W_seq rfl ?_
  refine W_reg rfl ?_
  refine Rv rfl rfl rfl (U_build rfl rfl) rfl rfl ?_
  refine Rv rfl rfl rfl (U_move rfl) rfl rfl ?_
  refine Rn rfl rfl rfl (U_storeAll rfl rfl rfl rfl rfl rfl) rfl ?_
  refine Rv rfl rfl rfl (U_assign rfl) rfl rfl ?_
  refine Re rfl ?_
  refine thenQ_n ?_
  refine W_ret rfl ?_
  refine thenQ_r ?_
  exact retL (rlA rfl rfl rfl (rlT rfl rl0)) rfl rfl
end Go.Proofs.Ythmibifghihdaaa
end

section
namespace Go.Proofs.Ythmibifghihdaaa
set_option maxRecDepth 20000
open Go.AE
theorem chance_gY (n : Nat) (ks : List (Nat × Nat)) (c : Option Nat) (hv : VB n ks) (h40 : ks.length ≤ 40) (ha : Acy n ks) (a b : Nat) (ha2 : a < n) (hb2 : b < n) (hab : a ≠ b) (hpos : 0 < cntQ n ks) (g2 : Nat) (h2 : Cyc n (ks ++ [(a, b)]) g2) : Pure Try.prog 35 [bknA n ks c, i64 (a : Nat), i64 (b : Nat)] (.tup [.agg [i64 ((frN 0 (cntQ n ks) : Nat) : Int), i64 ((frD 0 (cntQ n ks) : Nat) : Int)], i64 0]) := by
  have hv' := hv
  obtain ⟨hn1, hn, hkl, hk⟩ := hv'
  have hk2 := vb_lt hv
  have hin := in2 ha2 hb2
  have hne : ¬ (a : Int) = b := by omega
  have hv2 := vb_snoc hv (by omega) ha2 hb2 hab
  have hle := cntQ_le hv
  have hle2 := cntQ_le hv2
  refine pure_of_body Try.func35 (c := body Try.f35) rfl (by simp [Try.ntmps35]) fun w0 Φ0 => ?_
  refine W_seq rfl ?_
  refine W_reg rfl ?_
  refine Rv rfl rfl rfl (U_boxF rfl rfl rfl) rfl rfl ?_
  refine Ra rfl rfl rfl (U_alloc) rfl rfl rfl ?_
  refine Rv rfl rfl rfl (U_assign rfl) rfl rfl ?_
  refine Re rfl ?_
  refine thenQ_n ?_
  refine W_seq rfl ?_
  refine W_reg rfl ?_
  refine Rv rfl rfl rfl (U_load2 rfl rfl rfl rfl) rfl rfl ?_
  refine Rv rfl rfl rfl (U_move rfl) rfl rfl ?_
  refine Rv rfl rfl rfl (U_move rfl) rfl rfl ?_
  refine Rv rfl rfl rfl (U_buildSliceF (by rfl) (by decide) rfl rfl rfl) rfl rfl ?_
  refine Rv rfl rfl rfl (U_call rfl rfl (ruledDG_p n ks c hv h40 ((a : Nat) : Int) ((b : Nat) : Int) (some 2) (by assumption) (by assumption) ha) rfl) rfl rfl ?_
  refine Rv rfl rfl rfl (U_move rfl) rfl rfl ?_
  refine Rv rfl rfl rfl (U_extract rfl rfl) rfl rfl ?_
  refine Rv rfl rfl rfl (U_extract rfl rfl) rfl rfl ?_
  refine Rv rfl rfl rfl (U_assign rfl) rfl rfl ?_
  refine Rv rfl rfl rfl (U_assign rfl) rfl rfl ?_
  refine Re rfl ?_
  refine thenQ_n ?_
  refine W_seq rfl ?_
  refine W_seq rfl ?_
  refine W_reg rfl ?_
  refine Rv rfl rfl rfl (U_move rfl) rfl rfl ?_
  refine Rv rfl rfl rfl (U_neq rfl rfl) rfl rfl ?_
  refine Re rfl ?_
  refine thenQ_n ?_
  refine WcondP rfl rfl (fun h => absurd h (by decide)) (fun _ => ?_)
  refine W_skip rfl ?_
  refine thenQ_n ?_
  refine W_seq rfl ?_
  refine W_reg rfl ?_
  refine Rv rfl rfl rfl (U_move rfl) rfl rfl ?_
  refine Rv rfl rfl rfl (U_call rfl rfl (countK_p n ks c hv) rfl) rfl rfl ?_
  refine Rv rfl rfl rfl (U_assign rfl) rfl rfl ?_
  refine Rv rfl rfl rfl (U_assign rfl) rfl rfl ?_
  refine Re rfl ?_
  refine thenQ_n ?_
  refine W_seq rfl ?_
  refine W_seq rfl ?_
  refine W_reg rfl ?_
  refine Rv rfl rfl rfl (U_move rfl) rfl rfl ?_
  refine Rv rfl rfl rfl (U_move rfl) rfl rfl ?_
  refine Rv rfl rfl rfl (U_move rfl) rfl rfl ?_
  refine Rv rfl rfl rfl (U_call rfl rfl (with_p n ks c (seQ ks) (faQ n ks) (briQ n ks) (by omega) (by omega) (by assumption) a b (by first | assumption | omega) (by first | assumption | omega)) rfl) rfl rfl ?_
  refine Rv rfl rfl rfl (U_assign rfl) rfl rfl ?_
  refine Re rfl ?_
  refine thenQ_n ?_
  refine W_seq rfl ?_
  refine W_reg rfl ?_
  refine Rv rfl rfl rfl (U_move rfl) rfl rfl ?_
  refine Rv rfl rfl rfl (U_call rfl rfl (circleY_p n (ks ++ [(a, b)]) none hv2 g2 h2) rfl) rfl rfl ?_
  refine Rv rfl rfl rfl (U_eqRos (by simp) rfl rfl) rfl rfl ?_
  refine Re rfl ?_
  refine thenQ_n ?_
  refine Wcond rfl rfl (fun h => nomatch h) (fun _ => ?_)
  refine W_skip rfl ?_
  refine thenQ_n ?_
  refine W_seq rfl ?_
  refine W_reg rfl ?_
  refine Rv rfl rfl rfl (U_move rfl) rfl rfl ?_
  refine Rv rfl rfl rfl (U_move rfl) rfl rfl ?_
  refine Rv rfl rfl rfl (U_assign rfl) rfl rfl ?_
  refine Rv rfl rfl rfl (U_assign rfl) rfl rfl ?_
  refine Re rfl ?_
  refine thenQ_n ?_
  refine W_seq rfl ?_
  refine W_block rfl ?_
  refine LoopTo (T' := [(6, .ptr 0 0), (10, i64 0), (11, i64 ((cntQ n ks : Nat) : Int)), (13, i64 ((0 : Nat) : Int)), (14, i64 (((cntQ n ks) : Nat) : Int))]) (H' := [(0, some (.cells [i64 0, i64 0] 40))]) (n := 1) rfl (fun mz_ qz_ => ∃ (x : Nat) (y : Nat), Nat.gcd x y = Nat.gcd 0 (cntQ n ks) ∧ x ≤ 3628800 ∧ y ≤ 3628800 ∧ (0 < x ∨ 0 < y) ∧ mz_ = 0 + y ∧ qz_ = ⟨[(6, .ptr 0 0), (10, i64 0), (11, i64 ((cntQ n ks : Nat) : Int)), (13, i64 ((x : Nat) : Int)), (14, i64 ((y : Nat) : Int))], [(0, some (.cells [i64 0, i64 0] 40))], 1, []⟩) ⟨0, cntQ n ks, rfl, (by omega), (by omega), (by omega), rfl, rfl⟩ id ⟨e_ rfl rfl, eD rfl rfl, eD rfl rfl, eD rfl rfl, eD rfl rfl, trivial⟩ ⟨rD rfl rfl rfl, trivial⟩ rfl rfl rfl rfl (fun _ _ => rfl) ?_
  rintro _ _ ⟨x, y, hi0_0, hi0_1, hi0_2, hi0_3, rfl, rfl⟩
  refine W_seq rfl ?_
  refine W_seq rfl ?_
  refine W_reg rfl ?_
  refine Rv rfl rfl rfl (U_move rfl) rfl rfl ?_
  refine Rv rfl rfl rfl (U_neq rfl rfl) rfl rfl ?_
  refine Re rfl ?_
  refine thenQ_n ?_
  refine WcondP rfl rfl (fun hc2 => ?_) (fun hc2 => ?_)
  · refine W_skip rfl ?_
    refine thenQ_n ?_
    refine W_block rfl ?_
    refine Wdraw rfl (by kernel_rfl) (by kernel_rfl) ?_
    refine Dv rfl rfl rfl (U_move rfl) rfl rfl ?_
    refine Dv rfl rfl rfl (U_move rfl) rfl rfl ?_
    refine Dv rfl rfl rfl (U_move rfl) rfl rfl ?_
    refine Dv rfl rfl rfl (U_rem (c := ((x % y : Nat) : Int)) rfl rfl (by omega) (tmodN _ _)) rfl rfl ?_
    refine Dv rfl rfl rfl (U_assign rfl) rfl rfl ?_
    refine Dv rfl rfl rfl (U_assign rfl) rfl rfl ?_
    refine Dr.nil rfl ?_
    refine blkQ_n ?_
    refine thenQ_n ?_
    exact againTo (T' := [(6, .ptr 0 0), (10, i64 0), (11, i64 ((cntQ n ks : Nat) : Int)), (13, i64 ((y : Nat) : Int)), (14, i64 (((x % y) : Nat) : Int))]) (H' := [(0, some (.cells [i64 0, i64 0] 40))]) (n := 1) (0 + (x % y)) ⟨y, x % y, (by rw [gcd_step]; exact hi0_0), (by omega), (by have := Nat.mod_lt x (show y > 0 by omega); omega), (by omega), rfl, rfl⟩ (by have := Nat.mod_lt x (show y > 0 by omega); omega) id ⟨e_ rfl rfl, eD rfl rfl, eD rfl rfl, eD rfl rfl, eD rfl rfl, trivial⟩ ⟨rD rfl rfl rfl, trivial⟩ rfl rfl rfl rfl (fun _ _ => rfl)
  · rw [Decidable.not_not] at hc2
    have hy : y = 0 := by omega
    subst hy
    rw [Nat.gcd_zero_right] at hi0_0
    refine W_exit rfl ?_
    refine thenQ_x ?_
    refine thenQ_x ?_
    refine blkQ_x rfl ?_
    refine thenQ_n ?_
    refine W_seq rfl ?_
    refine Wdraw rfl (by kernel_rfl) (by kernel_rfl) ?_
    refine Dv rfl rfl rfl (U_move rfl) rfl rfl ?_
    refine Dv rfl rfl rfl (U_move rfl) rfl rfl ?_
    refine Dv rfl rfl rfl (U_quo (c := ((0 / x : Nat) : Int)) rfl rfl (by omega) (wquoN (a := 0) (by omega))) rfl rfl ?_
    refine Dv rfl rfl rfl (U_move rfl) rfl rfl ?_
    refine Dv rfl rfl rfl (U_move rfl) rfl rfl ?_
    refine Dv rfl rfl rfl (U_quo (c := (((cntQ n ks) / x : Nat) : Int)) rfl rfl (by omega) (wquoN (by omega))) rfl rfl ?_
    refine Dv rfl rfl rfl (U_build rfl rfl) rfl rfl ?_
    refine Dn_ rfl rfl rfl (U_storeAll rfl rfl rfl rfl rfl rfl) rfl rfl ?_
    refine Dv rfl rfl rfl (U_assign rfl) rfl rfl ?_
    refine Dr.nil rfl ?_
    refine thenQ_n ?_
    refine W_ret rfl ?_
    exact retL (rlA rfl rfl rfl (rlT rfl rl0)) (by first | rfl | (simp only [packA]; rw [frN, frD, ← hi0_0]; first | done | rfl)) rfl
end Go.Proofs.Ythmibifghihdaaa
end

section
namespace Go.Proofs.Ythmibifghihdaaa
set_option maxRecDepth 20000
open Go.AE
theorem inL_of {n : Nat} {l : List Int} (h : ∀ j (hj : j < l.length), staB (n : Nat) l[j] = true) : inL 0 (((n : Nat) : Int) - 1) l = true := by
  rw [inL, List.all_eq_true]
  intro x hx
  obtain ⟨j, hj, rfl⟩ := List.getElem_of_mem hx
  have := h j hj
  simp [staB] at this; simp; omega
end Go.Proofs.Ythmibifghihdaaa
end

section
namespace Go.Proofs.Ythmibifghihdaaa
set_option maxRecDepth 20000
open Go.AE
theorem bfL_S {n : Nat} {ks : List (Nat × Nat)} {k : Nat} (h : k < ks.length) : bfL n (ks.take (k + 1)) = (bfL n (ks.take k)).set ks[k].2 ((bfL n (ks.take k)).getD ks[k].2 0 ||| 1 <<< ks[k].1) := by
  unfold bfL; rw [List.take_succ_eq_append_getElem h, List.foldl_append]; rfl
theorem bf_ok : ∀ (ks : List (Nat × Nat)) (o : List Nat), (∀ x ∈ o, x < 1024) → (∀ p ∈ ks, p.1 < 10) → (ks.foldl (fun o p => o.set p.2 (o.getD p.2 0 ||| 1 <<< p.1)) o).length = o.length ∧ ∀ x ∈ ks.foldl (fun o p => o.set p.2 (o.getD p.2 0 ||| 1 <<< p.1)) o, x < 1024
  | [], o, h, _ => ⟨rfl, h⟩
  | p :: ks, o, h, hk => by
    have h1 : o.getD p.2 0 < 1024 := by
      by_cases e : p.2 < o.length
      · rw [getD_eq e]; exact h _ (List.getElem_mem _)
      · rw [List.getD_eq_getElem?_getD, List.getElem?_eq_none (by omega)]; decide
    have := bf_ok ks (o.set p.2 (o.getD p.2 0 ||| 1 <<< p.1)) (fun x hx => by
      rcases List.mem_or_eq_of_mem_set hx with hx | rfl
      · exact h x hx
      · exact or1024 h1 (shl1024 (hk p (by simp)))) fun q hq => hk q (by simp [hq])
    rw [List.length_set] at this
    exact this
section
variable {n : Nat} {ks : List (Nat × Nat)}
theorem bfL_len (hv : VB n ks) (k : Nat) : (bfL n (ks.take k)).length = n := by
  have := (bf_ok (ks.take k) (List.replicate n 0) (by simp) fun p hp => (vb10 hv p (List.mem_of_mem_take hp)).1).1
  simpa [bfL] using this
theorem bfL_lt (hv : VB n ks) (k : Nat) : ∀ x ∈ bfL n (ks.take k), x < 1024 := (bf_ok (ks.take k) (List.replicate n 0) (by simp) fun p hp => (vb10 hv p (List.mem_of_mem_take hp)).1).2
theorem bfL_len' (hv : VB n ks) : (bfL n ks).length = n := by have := bfL_len hv ks.length; rwa [List.take_length] at this
theorem bfL_lt' (hv : VB n ks) : ∀ x ∈ bfL n ks, x < 1024 := by have := bfL_lt hv ks.length; rwa [List.take_length] at this
end
section
variable {n : Nat} {nx : Nat → Nat → Bool}
def upK (n : Nat) (nx : Nat → Nat → Bool) (s k : Nat) : List Nat := (List.range (1 <<< n)).map fun j => Wp n nx s j + ((List.range k).map fun a => if (nx s a && decide (ad s a = j)) = true then up n nx s else 0).sum
theorem upK_len {s k : Nat} : (upK n nx s k).length = 1 <<< n := by simp [upK]
theorem upK_at {s k j : Nat} (h : j < (upK n nx s k).length) : (upK n nx s k)[j] = Wp n nx s j + ((List.range k).map fun a => if (nx s a && decide (ad s a = j)) = true then up n nx s else 0).sum := by simp [upK]
theorem upK_0 : (List.replicate (1 <<< n) 0).set 0 1 = upK n nx 0 0 := by
  refine List.ext_getElem (by simp [upK]) fun j h1 h2 => ?_
  rw [upK_at, List.getElem_set, Wp_0]
  by_cases e : j = 0
  · subst e; simp
  · simp [e, show ¬ 0 = j by omega]
theorem upK_all (hx : Nxt nx) {s : Nat} : upK n nx s n = upK n nx (s + 1) 0 := by
  refine List.ext_getElem (by simp [upK]) fun j h1 h2 => ?_
  rw [upK_at, upK_at, Wp_S hx]; simp
theorem upK_self (hx : Nxt nx) {s k : Nat} (hs : s < 2 ^ n) (h : s < (upK n nx s k).length) : (upK n nx s k)[s] = up n nx s := by
  rw [upK_at, Wp_end hs (Nat.le_refl _)]
  have : ((List.range k).map fun a => if (nx s a && decide (ad s a = s)) = true then up n nx s else 0) = (List.range k).map fun _ => 0 := List.map_congr_left fun a _ => by
    rw [if_neg]
    intro h
    simp only [Bool.and_eq_true, decide_eq_true_eq] at h
    have := ad_gt (hx _ _ h.1); omega
  rw [this]
  have e : ∀ (l : List Nat), (l.map fun _ => 0).sum = 0 := fun l => by induction l with | nil => rfl | cons x l ih => simpa using ih
  rw [e]; omega
theorem upK_T (hx : Nxt nx) {s k : Nat} (hs : s < 2 ^ n) (h : nx s k = true) {u v : Nat} (hi : ad s k < (upK n nx s k).length) (hu : u = (upK n nx s k)[ad s k]) (hv : v = up n nx s) : (upK n nx s k).set (ad s k) (u + v) = upK n nx s (k + 1) := by
  refine List.ext_getElem (by simp [upK]) fun j h1 h2 => ?_
  rw [List.getElem_set]
  split
  · rename_i e; subst e
    rw [hu, hv, upK_at, upK_at, List.range_succ, List.map_append, List.sum_append]; simp [h]; omega
  · rename_i e
    rw [upK_at, upK_at, List.range_succ, List.map_append, List.sum_append]; simp [e]
theorem upK_F {s k : Nat} (h : nx s k = false) : upK n nx s k = upK n nx s (k + 1) := by
  refine List.ext_getElem (by simp [upK]) fun j h1 h2 => ?_
  rw [upK_at, upK_at, List.range_succ, List.map_append, List.sum_append]; simp [h]
theorem upK_le (hn : n ≤ 10) (hx : Nxt nx) {s k j : Nat} (hk : k ≤ n) (hj : j < 2 ^ n) (h : j < (upK n nx s k).length) : (upK n nx s k)[j] ≤ 3628800 := by
  rw [upK_at]
  have h1 := Wp_mono (nx := nx) (s := s + 1) hj
  rw [Wp_S hx] at h1
  have h2 : ((List.range k).map fun a => if (nx s a && decide (ad s a = j)) = true then up n nx s else 0).sum ≤ ((List.range n).map fun a => if (nx s a && decide (ad s a = j)) = true then up n nx s else 0).sum := by
    obtain ⟨d, rfl⟩ : ∃ d, n = k + d := ⟨n - k, by omega⟩
    rw [List.range_add, List.map_append, List.sum_append]; omega
  exact Nat.le_trans (Nat.le_trans (Nat.add_le_add_left h2 _) h1) (up_lt hn hj)
theorem upK_end {j : Nat} (hj : j < 2 ^ n) (h : j < (upK n nx (1 <<< n) 0).length) : (upK n nx (1 <<< n) 0)[j] = up n nx j := by
  rw [upK_at, Wp_end hj (by rw [one_shl]; omega)]; simp
def enR (n : Nat) (nx : Nat → Nat → Bool) (m k : Nat) : Nat := if m = full n then 1 else enP n nx m ((List.range k).filter (nx m))
def enK (n : Nat) (nx : Nat → Nat → Bool) (m k : Nat) : List Nat := (enV n nx (m + 1)).set m (enR n nx m k)
theorem enK_len {m k : Nat} : (enK n nx m k).length = 1 <<< n := by simp [enK, enV_len]
theorem enK_0 {m : Nat} (hm : m < 2 ^ n) : enK n nx m 0 = enV n nx (min (m + 1) (full n)) := by
  refine List.ext_getElem (by simp [enK, enV_len]) fun j h1 h2 => ?_
  have hj : j < 2 ^ n := by rw [enK_len] at h1; rwa [← one_shl (n := n)]
  have hf : full n = 2 ^ n - 1 := rfl
  simp only [enK]
  rw [List.getElem_set]
  split
  · rename_i e; subst e
    rw [enV_at]
    unfold enR
    split
    · rename_i e2; rw [if_pos (by omega)]; conv => rhs; rw [e2]
      exact en_full.symm
    · rename_i e2; rw [if_neg (by omega)]; rfl
  · rename_i e
    rw [enV_at, enV_at]
    by_cases h3 : m + 1 ≤ j
    · rw [if_pos h3, if_pos (by omega)]
    · rw [if_neg h3, if_neg (by omega)]
theorem enR_all (hx : Nxt nx) {m : Nat} (hm : m < 2 ^ n) : enR n nx m n = en n nx m := by
  unfold enR
  split
  · rename_i e; subst e; exact en_full.symm
  · rename_i e
    rw [enP, sum_filter, en_eq hx hm e]
theorem enK_all (hx : Nxt nx) {m : Nat} (hm : m < 2 ^ n) : enK n nx m n = enV n nx (min m (full n)) := by
  rw [enK, enR_all hx hm, enV_set]
  have : full n = 2 ^ n - 1 := rfl
  rw [Nat.min_eq_left (by omega)]
theorem enR_T {m k : Nat} (hne : m ≠ full n) (h : nx m k = true) : enR n nx m (k + 1) = enR n nx m k + en n nx (ad m k) := by
  unfold enR
  rw [if_neg hne, if_neg hne, List.range_succ, List.filter_append]
  simp [enP, h]
theorem enR_F {m k : Nat} (h : nx m k = false) : enR n nx m (k + 1) = enR n nx m k := by
  unfold enR
  rw [List.range_succ, List.filter_append]
  simp [h]
theorem enK_T {m k : Nat} (hne : m ≠ full n) (h : nx m k = true) {u v : Nat} (hu : u = enR n nx m k) (hv : v = en n nx (ad m k)) : (enK n nx m k).set m (u + v) = enK n nx m (k + 1) := by
  rw [hu, hv, ← enR_T hne h, enK, enK, List.set_set]
theorem enK_F {m k : Nat} (h : nx m k = false) : enK n nx m k = enK n nx m (k + 1) := by rw [enK, enK, enR_F h]
theorem enR_le (hn : n ≤ 10) (hx : Nxt nx) {m k : Nat} (hm : m < 2 ^ n) (hk : k ≤ n) : enR n nx m k ≤ 3628800 := by
  have h1 := en_lt hx hn hm
  rw [← enR_all hx hm] at h1
  have h2 : enR n nx m k ≤ enR n nx m n := by
    unfold enR
    split
    · exact Nat.le_refl _
    · obtain ⟨d, rfl⟩ : ∃ d, n = k + d := ⟨n - k, by omega⟩
      rw [List.range_add, List.filter_append, enP, enP, List.map_append, List.sum_append]; omega
  omega
theorem enK_at1 {m k : Nat} (h : m < (enK n nx m k).length) : (enK n nx m k)[m] = enR n nx m k := by simp [enK]
theorem enK_at2 {m k j : Nat} (h : m < j) (hj : j < (enK n nx m k).length) : (enK n nx m k)[j] = en n nx j := by
  simp only [enK]
  rw [List.getElem_set_ne (by omega), enV_at, if_pos (by omega)]
theorem nx_full (hx : Nxt nx) {k : Nat} (hk : k < n) : nx (full n) k = false := by
  cases e : nx (full n) k with
  | false => rfl
  | true => have := hx _ _ e; rw [full_tb] at this; simp at this; omega
end
end Go.Proofs.Ythmibifghihdaaa
end

section
namespace Go.Proofs.Ythmibifghihdaaa
set_option maxRecDepth 20000
open Go.AE
theorem before_p (n : Nat) (ks : List (Nat × Nat)) (c : Option Nat) (hv : VB n ks) : Pure Try.prog 66 [bknA n ks c] (.ros ((bfL n ks).map n64) n none) := by
  have hv' := hv
  obtain ⟨hn1, hn, hkl, hk⟩ := hv'
  have h1024 := shl_le hn
  have h2n := shl_ge hn1
  refine pure_of_body Try.func66 (c := body Try.f66) rfl (by simp [Try.ntmps66]) fun w0 Φ0 => ?_
  refine W_seq rfl ?_
  refine W_reg rfl ?_
  refine Rv rfl rfl rfl (U_boxF rfl rfl rfl) rfl rfl ?_
  refine Rv rfl rfl rfl (U_assign rfl) rfl rfl ?_
  refine Re rfl ?_
  refine thenQ_n ?_
  refine W_seq rfl ?_
  refine W_reg rfl ?_
  refine Rv rfl rfl rfl (U_fieldAddrR rfl) rfl rfl ?_
  refine Rv rfl rfl rfl (U_load1 rfl rfl rfl) rfl rfl ?_
  refine Ra rfl rfl rfl (U_mkL (n := n) (cs' := (List.replicate n (0 : Nat)).map n64) rfl rfl rfl (by omega) (replM rfl _)) rfl rfl rfl ?_
  refine Rv rfl rfl rfl (U_assign rfl) rfl rfl ?_
  refine Re rfl ?_
  refine thenQ_n ?_
  refine W_seq rfl ?_
  refine W_seq rfl ?_
  refine W_reg rfl ?_
  refine Rv rfl rfl rfl (U_assign rfl) rfl rfl ?_
  refine Re rfl ?_
  refine thenQ_n ?_
  refine W_block rfl ?_
  refine LoopTo (T' := [(1, .rop [i64 ((n : Nat) : Int), .ros (ks.flatMap lkN) ks.length c] 0), (3, .slice 0 0 n n), (4, i64 ((0 : Nat) : Int))]) (H' := [(0, some (.cells ((bfL n (ks.take 0)).map n64) 3))]) (n := 1) rfl (fun mz_ qz_ => ∃ (k : Nat), k ≤ ks.length ∧ mz_ = ks.length - k ∧ qz_ = ⟨[(1, .rop [i64 ((n : Nat) : Int), .ros (ks.flatMap lkN) ks.length c] 0), (3, .slice 0 0 n n), (4, i64 ((k : Nat) : Int))], [(0, some (.cells ((bfL n (ks.take k)).map n64) 3))], 1, []⟩) ⟨0, (by omega), rfl, rfl⟩ id ⟨eD rfl rfl, e_ rfl rfl, eD rfl rfl, trivial⟩ ⟨rD (mapD (fun _ => rfl) _) rfl rfl, trivial⟩ rfl rfl rfl rfl (fun _ _ => rfl) ?_
  rintro _ _ ⟨k, hi0_0, rfl, rfl⟩
  refine W_seq rfl ?_
  refine W_seq rfl ?_
  refine W_reg rfl ?_
  refine Rv rfl rfl rfl (U_move rfl) rfl rfl ?_
  refine Rv rfl rfl rfl (U_fieldAddrR rfl) rfl rfl ?_
  refine Rv rfl rfl rfl (U_load1 rfl rfl rfl) rfl rfl ?_
  refine Rv rfl rfl rfl (U_lenOf rfl len_ros) rfl rfl ?_
  refine Rv rfl rfl rfl (U_lss rfl rfl) rfl rfl ?_
  refine Re rfl ?_
  refine thenQ_n ?_
  refine WcondP rfl rfl (fun hc0 => ?_) (fun hc0 => ?_)
  · have hck : k < ks.length := by omega
    have hkp := hk _ (List.getElem_mem hck)
    have hbl := bfL_len hv k
    have hbi : ks[k].2 < (bfL n (ks.take k)).length := by omega
    have hbx : (bfL n (ks.take k))[ks[k].2] < 1024 := bfL_lt hv k _ (List.getElem_mem _)
    refine W_skip rfl ?_
    refine thenQ_n ?_
    refine W_seq rfl ?_
    refine W_block rfl ?_
    refine Wdraw rfl (by kernel_rfl) (by kernel_rfl) ?_
    refine Dv rfl rfl rfl (U_move rfl) rfl rfl ?_
    refine Dv rfl rfl rfl (U_fieldAddrR rfl) rfl rfl ?_
    refine Dv rfl rfl rfl (U_load1 rfl rfl rfl) rfl rfl ?_
    refine Dv rfl rfl rfl (U_move rfl) rfl rfl ?_
    have hx1 : k < ks.length := by omega
    refine Dv rfl rfl rfl (U_indexR (j := k) rfl rfl rfl hx1) rfl rfl ?_
    refine Dv rfl rfl rfl (U_indexAR (j := 1) rfl rfl rfl (by decide)) rfl rfl ?_
    refine Dv rfl rfl rfl (U_load1 rfl rfl (lkH1 hx1)) rfl rfl ?_
    have hx2 : ks[k].2 < (bfL n (ks.take k)).length := by omega
    refine Dv rfl rfl rfl (U_indexS (j := ks[k].2) rfl rfl rfl (by omega)) rfl rfl ?_
    refine Dv rfl rfl rfl (U_load1 rfl rfl (getM0 hx2)) rfl rfl ?_
    refine Dv rfl rfl rfl (U_fieldAddrR rfl) rfl rfl ?_
    refine Dv rfl rfl rfl (U_load1 rfl rfl rfl) rfl rfl ?_
    refine Dv rfl rfl rfl (U_move rfl) rfl rfl ?_
    refine Dv rfl rfl rfl (U_indexR (j := k) rfl rfl rfl hx1) rfl rfl ?_
    refine Dv rfl rfl rfl (U_indexAR (j := 0) rfl rfl rfl (by decide)) rfl rfl ?_
    refine Dv rfl rfl rfl (U_load1 rfl rfl (lkH0 hx1)) rfl rfl ?_
    refine Dv rfl rfl rfl (U_shl rfl rfl (by omega) (shlN (n := 1) (i := ks[k].1) (shl63 (by omega)) (by omega))) rfl rfl ?_
    refine Dv rfl rfl rfl (U_or rfl rfl (orN (a := (bfL n (ks.take k))[ks[k].2]) (b := 1 <<< ks[k].1) (lt63 hbx) (lt63 (shl1024 (by omega))))) rfl rfl ?_
    refine Dv rfl rfl rfl (U_indexS (j := ks[k].2) rfl rfl rfl (by omega)) rfl rfl ?_
    refine Dn_ rfl rfl rfl (U_store (n := 1) (cs' := ((bfL n (ks.take k)).set ks[k].2 (((bfL n (ks.take k))[ks[k].2]) ||| (1 <<< ks[k].1))).map n64) rfl rfl rfl rfl rfl (stLt hx2) rfl setM) rfl rfl ?_
    refine Dr.nil rfl ?_
    refine blkQ_n ?_
    refine thenQ_n ?_
    refine W_reg rfl ?_
    refine Rv rfl rfl rfl (U_move rfl) rfl rfl ?_
    refine Rv rfl rfl rfl (U_add rfl rfl (w64e (m := ((k + 1 : Nat) : Int)) (by omega) (by omega) (by omega))) rfl rfl ?_
    refine Rv rfl rfl rfl (U_assign rfl) rfl rfl ?_
    refine Re rfl ?_
    refine thenQ_n ?_
    rw [← getD_eq (d := 0) hbi]
    rw [← bfL_S hck]
    exact againTo (T' := [(1, .rop [i64 ((n : Nat) : Int), .ros (ks.flatMap lkN) ks.length c] 0), (3, .slice 0 0 n n), (4, i64 (((k + 1) : Nat) : Int))]) (H' := [(0, some (.cells ((bfL n (ks.take (k + 1))).map n64) 3))]) (n := 1) (ks.length - (k + 1)) ⟨k + 1, (by omega), rfl, rfl⟩ (by omega) id ⟨eD rfl rfl, e_ rfl rfl, eD rfl rfl, trivial⟩ ⟨rD (mapD (fun _ => rfl) _) rfl rfl, trivial⟩ rfl rfl rfl rfl (fun _ _ => rfl)
  · obtain rfl : k = ks.length := by omega
    rw [List.take_length]
    refine W_exit rfl ?_
    refine thenQ_x ?_
    refine thenQ_x ?_
    refine blkQ_x rfl ?_
    refine thenQ_n ?_
    refine W_seq rfl ?_
    refine W_reg rfl ?_
    refine Rv rfl rfl rfl (U_move rfl) rfl rfl ?_
    refine Rv rfl rfl rfl (U_assign rfl) rfl rfl ?_
    refine Re rfl ?_
    refine thenQ_n ?_
    refine WfrN 0 rfl (mapD (fun _ => rfl) _) (T' := [(2, .ros ((bfL n ks).map n64) n (some n))]) (H' := []) ⟨⟨_, rfl, fr_sl (Nat.le_refl _)⟩, trivial⟩ trivial ?_
    refine WweakT (j := 2) rfl le_cap ?_
    refine W_ret rfl ?_
    exact retL (rlT rfl rl0) rfl rfl
end Go.Proofs.Ythmibifghihdaaa
end

section
namespace Go.Proofs.Ythmibifghihdaaa
set_option maxRecDepth 20000
open Go.AE
theorem ways_p (n : Nat) (ks : List (Nat × Nat)) (c : Option Nat) (hv : VB n ks) : Pure Try.prog 67 [bknA n ks c] (.tup [.ros ((upK n (nxQ n ks) (1 <<< n) 0).map n64) (1 <<< n) none, .ros ((enV n (nxQ n ks) 0).map n64) (1 <<< n) none]) := by
  have hv' := hv
  obtain ⟨hn1, hn, hkl, hk⟩ := hv'
  have h1024 := shl_le hn
  have h2n := shl_ge hn1
  have hx : Nxt (nxQ n ks) := nxR_nxt (bfN n ks)
  have hbl := bfL_len' hv
  have hmin : 1 <<< n - 1 = min (1 <<< n) (full n) := by rw [full_shl]; omega
  refine pure_of_body Try.func67 (c := body Try.f67) rfl (by simp [Try.ntmps67]) fun w0 Φ0 => ?_
  refine W_seq rfl ?_
  refine W_reg rfl ?_
  refine Rv rfl rfl rfl (U_boxF rfl rfl rfl) rfl rfl ?_
  refine Rv rfl rfl rfl (U_assign rfl) rfl rfl ?_
  refine Rv rfl rfl rfl (U_assign rfl) rfl rfl ?_
  refine Re rfl ?_
  refine thenQ_n ?_
  refine W_seq rfl ?_
  refine W_reg rfl ?_
  refine Rv rfl rfl rfl (U_load2 rfl rfl rfl rfl) rfl rfl ?_
  refine Rv rfl rfl rfl (U_call rfl rfl (before_p n ks c hv) rfl) rfl rfl ?_
  refine Rv rfl rfl rfl (U_assign rfl) rfl rfl ?_
  refine Re rfl ?_
  refine thenQ_n ?_
  refine W_seq rfl ?_
  refine W_reg rfl ?_
  refine Rv rfl rfl rfl (U_fieldAddrR rfl) rfl rfl ?_
  refine Rv rfl rfl rfl (U_load1 rfl rfl rfl) rfl rfl ?_
  refine Rv rfl rfl rfl (U_shl rfl rfl (by omega) (shlN (n := 1) (i := n) (shl63' hn) (by omega))) rfl rfl ?_
  refine Rv rfl rfl rfl (U_assign rfl) rfl rfl ?_
  refine Re rfl ?_
  refine thenQ_n ?_
  refine W_seq rfl ?_
  refine Wdraw rfl (by kernel_rfl) (by kernel_rfl) ?_
  refine Dv rfl rfl rfl (U_move rfl) rfl rfl ?_
  refine Da rfl rfl rfl (U_mkL (n := 1 <<< n) (cs' := (List.replicate (1 <<< n) (0 : Nat)).map n64) rfl rfl rfl (by omega) (replM rfl _)) rfl rfl rfl rfl ?_
  refine Dv rfl rfl rfl (U_move rfl) rfl rfl ?_
  refine Da rfl rfl rfl (U_mkL (n := 1 <<< n) (cs' := (List.replicate (1 <<< n) (0 : Nat)).map n64) rfl rfl rfl (by omega) (replM rfl _)) rfl rfl rfl rfl ?_
  refine Dv rfl rfl rfl (U_assign rfl) rfl rfl ?_
  refine Dv rfl rfl rfl (U_assign rfl) rfl rfl ?_
  refine Dr.nil rfl ?_
  refine thenQ_n ?_
  refine W_seq rfl ?_
  refine W_reg rfl ?_
  refine Rv rfl rfl rfl (U_move rfl) rfl rfl ?_
  refine Rv rfl rfl rfl (U_move rfl) rfl rfl ?_
  refine Rv rfl rfl rfl (U_move rfl) rfl rfl ?_
  refine Rv rfl rfl rfl (U_sub rfl rfl (w64e (m := ((1 <<< n - 1 : Nat) : Int)) (by omega) (by omega) (by omega))) rfl rfl ?_
  have hr0 : (List.replicate (1 <<< n) 0).length = 1 <<< n := List.length_replicate
  have hx1 : 0 < (List.replicate (1 <<< n) (0 : Nat)).length := by omega
  refine Rv rfl rfl rfl (U_indexS (j := 0) rfl rfl rfl (by omega)) rfl rfl ?_
  refine Rn rfl rfl rfl (U_store (n := 1) (cs' := ((List.replicate (1 <<< n) (0 : Nat)).set 0 1).map n64) rfl rfl rfl rfl rfl (stLt hx1) rfl setM) rfl ?_
  have hx2 : (1 <<< n - 1) < (List.replicate (1 <<< n) (0 : Nat)).length := by omega
  refine Rv rfl rfl rfl (U_indexS (j := (1 <<< n - 1)) rfl rfl rfl (by omega)) rfl rfl ?_
  refine Rn rfl rfl rfl (U_store (n := 1) (cs' := ((List.replicate (1 <<< n) (0 : Nat)).set (1 <<< n - 1) 1).map n64) rfl rfl rfl rfl rfl (stLt hx2) rfl setM) rfl ?_
  refine Re rfl ?_
  rw [upK_0 (n := n) (nx := (nxQ n ks)), enV_0 (n := n) (nx := (nxQ n ks)), hmin]
  refine thenQ_n ?_
  refine W_seq rfl ?_
  refine W_seq rfl ?_
  refine W_reg rfl ?_
  refine Rv rfl rfl rfl (U_assign rfl) rfl rfl ?_
  refine Re rfl ?_
  refine thenQ_n ?_
  refine W_block rfl ?_
  refine LoopTo (T' := [(1, .rop [i64 ((n : Nat) : Int), .ros (ks.flatMap lkN) ks.length c] 0), (4, .ros ((bfL n ks).map n64) n none), (5, i64 ((1 <<< n : Nat) : Int)), (6, .slice 0 0 (1 <<< n) (1 <<< n)), (7, .slice 1 0 (1 <<< n) (1 <<< n)), (8, i64 ((0 : Nat) : Int))]) (H' := [(0, some (.cells ((upK n (nxQ n ks) 0 0).map n64) 2)), (1, some (.cells ((enV n (nxQ n ks) (min (1 <<< n) (full n))).map n64) 2))]) (n := 2) rfl (fun mz_ qz_ => ∃ (s : Nat), s ≤ 1 <<< n ∧ mz_ = 1 <<< n - s ∧ qz_ = ⟨[(1, .rop [i64 ((n : Nat) : Int), .ros (ks.flatMap lkN) ks.length c] 0), (4, .ros ((bfL n ks).map n64) n none), (5, i64 ((1 <<< n : Nat) : Int)), (6, .slice 0 0 (1 <<< n) (1 <<< n)), (7, .slice 1 0 (1 <<< n) (1 <<< n)), (8, i64 ((s : Nat) : Int))], [(0, some (.cells ((upK n (nxQ n ks) s 0).map n64) 2)), (1, some (.cells ((enV n (nxQ n ks) (min (1 <<< n) (full n))).map n64) 2))], 2, []⟩) ⟨0, (Nat.zero_le _), rfl, rfl⟩ id ⟨eD rfl rfl, eD rfl rfl, eD rfl rfl, e_ rfl rfl, e_ rfl rfl, eD rfl rfl, trivial⟩ ⟨rD (mapD (fun _ => rfl) _) rfl rfl, rD (mapD (fun _ => rfl) _) rfl rfl, trivial⟩ rfl rfl rfl rfl (fun _ _ => rfl) ?_
  rintro _ _ ⟨s, hi0_0, rfl, rfl⟩
  refine W_seq rfl ?_
  refine W_seq rfl ?_
  refine W_reg rfl ?_
  refine Rv rfl rfl rfl (U_move rfl) rfl rfl ?_
  refine Rv rfl rfl rfl (U_move rfl) rfl rfl ?_
  refine Rv rfl rfl rfl (U_lss rfl rfl) rfl rfl ?_
  refine Re rfl ?_
  refine thenQ_n ?_
  refine WcondP rfl rfl (fun hc0 => ?_) (fun hc0 => ?_)
  · have hs : s < 2 ^ n := by rw [← one_shl (n := n)]; omega
    refine W_skip rfl ?_
    refine thenQ_n ?_
    refine W_seq rfl ?_
    refine W_block rfl ?_
    refine W_seq rfl ?_
    refine W_reg rfl ?_
    refine Rv rfl rfl rfl (U_assign rfl) rfl rfl ?_
    refine Re rfl ?_
    refine thenQ_n ?_
    refine W_block rfl ?_
    refine LoopTo (T' := [(1, .rop [i64 ((n : Nat) : Int), .ros (ks.flatMap lkN) ks.length c] 0), (4, .ros ((bfL n ks).map n64) n none), (5, i64 ((1 <<< n : Nat) : Int)), (6, .slice 0 0 (1 <<< n) (1 <<< n)), (7, .slice 1 0 (1 <<< n) (1 <<< n)), (8, i64 ((s : Nat) : Int)), (9, i64 ((0 : Nat) : Int))]) (H' := [(0, some (.cells ((upK n (nxQ n ks) s 0).map n64) 2)), (1, some (.cells ((enV n (nxQ n ks) (min (1 <<< n) (full n))).map n64) 2))]) (n := 2) rfl (fun mz_ qz_ => ∃ (k : Nat), k ≤ n ∧ mz_ = n - k ∧ qz_ = ⟨[(1, .rop [i64 ((n : Nat) : Int), .ros (ks.flatMap lkN) ks.length c] 0), (4, .ros ((bfL n ks).map n64) n none), (5, i64 ((1 <<< n : Nat) : Int)), (6, .slice 0 0 (1 <<< n) (1 <<< n)), (7, .slice 1 0 (1 <<< n) (1 <<< n)), (8, i64 ((s : Nat) : Int)), (9, i64 ((k : Nat) : Int))], [(0, some (.cells ((upK n (nxQ n ks) s k).map n64) 2)), (1, some (.cells ((enV n (nxQ n ks) (min (1 <<< n) (full n))).map n64) 2))], 2, []⟩) ⟨0, (by omega), rfl, rfl⟩ id ⟨eD rfl rfl, eD rfl rfl, eD rfl rfl, e_ rfl rfl, e_ rfl rfl, eD rfl rfl, eD rfl rfl, trivial⟩ ⟨rD (mapD (fun _ => rfl) _) rfl rfl, rD (mapD (fun _ => rfl) _) rfl rfl, trivial⟩ rfl rfl rfl rfl (fun _ _ => rfl) ?_
    rintro _ _ ⟨k, hi1_0, rfl, rfl⟩
    refine W_seq rfl ?_
    refine W_seq rfl ?_
    refine W_reg rfl ?_
    refine Rv rfl rfl rfl (U_move rfl) rfl rfl ?_
    refine Rv rfl rfl rfl (U_fieldAddrR rfl) rfl rfl ?_
    refine Rv rfl rfl rfl (U_load1 rfl rfl rfl) rfl rfl ?_
    refine Rv rfl rfl rfl (U_lss rfl rfl) rfl rfl ?_
    refine Re rfl ?_
    refine thenQ_n ?_
    refine WcondP rfl rfl (fun hc1 => ?_) (fun hc1 => ?_)
    · have hkn : k < n := by omega
      have hbi : k < (bfL n ks).length := by omega
      have hbk : bfN n ks k = (bfL n ks)[k] := getD_eq hbi
      have hbx : (bfL n ks)[k] < 1024 := bfL_lt' hv _ (List.getElem_mem _)
      have h10 : s < 1024 := by omega
      refine W_skip rfl ?_
      refine thenQ_n ?_
      refine W_seq rfl ?_
      refine W_block rfl ?_
      refine W_seq rfl ?_
      refine Wdraw rfl (by kernel_rfl) (by kernel_rfl) ?_
      refine Dv rfl rfl rfl (U_move rfl) rfl rfl ?_
      refine Dv rfl rfl rfl (U_move rfl) rfl rfl ?_
      refine Dv rfl rfl rfl (U_shr rfl rfl (by omega) (shrN (n := s) (i := k) (lt63 h10))) rfl rfl ?_
      refine Dv rfl rfl rfl (U_and rfl rfl (andN (a := s >>> k) (b := 1) (sh63 h10) (by omega))) rfl rfl ?_
      refine Dv rfl rfl rfl (U_eql rfl rfl) rfl rfl ?_
      refine Dv rfl rfl rfl (U_move rfl) rfl rfl ?_
      refine Dsplit (t := 43) rfl (fun hg3 => ?_) (fun hg3 => ?_)
      · rw [hg3]
        have hg3' : (((s >>> k) &&& 1 : Nat) : Int) = 0 := of_decide_eq_true hg3
        have hcg1 := hg3'
        refine Dv rfl rfl rfl (U_move rfl) rfl rfl ?_
        refine Dv rfl rfl rfl (U_move rfl) rfl rfl ?_
        have hx4 : k < (bfL n ks).length := by omega
        refine Dv rfl rfl rfl (U_indexR (j := k) rfl rfl rfl (by omega)) rfl rfl ?_
        refine Dv rfl rfl rfl (U_load1 rfl rfl (getM hx4)) rfl rfl ?_
        refine Dv rfl rfl rfl (U_move rfl) rfl rfl ?_
        refine Dv rfl rfl rfl (U_and rfl rfl (andN (a := (bfL n ks)[k]) (b := s) (lt63 hbx) (lt63 h10))) rfl rfl ?_
        refine Dv rfl rfl rfl (U_move rfl) rfl rfl ?_
        refine Dv rfl rfl rfl (U_move rfl) rfl rfl ?_
        refine Dv rfl rfl rfl (U_indexR (j := k) rfl rfl rfl (by omega)) rfl rfl ?_
        refine Dv rfl rfl rfl (U_load1 rfl rfl (getM hx4)) rfl rfl ?_
        refine Dv rfl rfl rfl (U_eql rfl rfl) rfl rfl ?_
        refine Dv rfl rfl rfl (U_pick_t rfl rfl) rfl rfl ?_
        refine Dr.nil rfl ?_
        refine thenQ_n ?_
        refine WcondP rfl rfl (fun hc2 => ?_) (fun hc2 => ?_)
        · have hnx : nxQ n ks s k = true := by show nxR (bfN n ks) s k = true; unfold nxR; rw [hbk, decide_eq_true hcg1, decide_eq_true hc2]; rfl
          have had : s ||| 1 <<< k < 2 ^ n := ad_lt hs hkn
          have hadl : s ||| 1 <<< k < (upK n (nxQ n ks) s k).length := by rw [upK_len, one_shl (n := n)]; exact had
          have hsl : s < (upK n (nxQ n ks) s k).length := by rw [upK_len, one_shl (n := n)]; exact hs
          have hb1 := upK_le hn hx (show k ≤ n by omega) had hadl
          have hvs : (upK n (nxQ n ks) s k)[s] = up n (nxQ n ks) s := upK_self hx hs hsl
          have hb2 : up n (nxQ n ks) s ≤ 3628800 := up_lt hn hs
          refine Wdraw rfl (by kernel_rfl) (by kernel_rfl) ?_
          refine Dv rfl rfl rfl (U_move rfl) rfl rfl ?_
          refine Dv rfl rfl rfl (U_move rfl) rfl rfl ?_
          refine Dv rfl rfl rfl (U_move rfl) rfl rfl ?_
          refine Dv rfl rfl rfl (U_shl rfl rfl (by omega) (shlN (n := 1) (i := k) (shl63 (by omega)) (by omega))) rfl rfl ?_
          refine Dv rfl rfl rfl (U_or rfl rfl (orN (a := s) (b := 1 <<< k) (lt63 h10) (lt63 (shl1024 (by omega))))) rfl rfl ?_
          have hx5 : (s ||| (1 <<< k)) < (upK n (nxQ n ks) s k).length := by omega
          refine Dv rfl rfl rfl (U_indexS (j := (s ||| (1 <<< k))) rfl rfl rfl (by omega)) rfl rfl ?_
          refine Dv rfl rfl rfl (U_load1 rfl rfl (getM0 hx5)) rfl rfl ?_
          refine Dv rfl rfl rfl (U_move rfl) rfl rfl ?_
          refine Dv rfl rfl rfl (U_move rfl) rfl rfl ?_
          have hx6 : s < (upK n (nxQ n ks) s k).length := by omega
          refine Dv rfl rfl rfl (U_indexS (j := s) rfl rfl rfl (by omega)) rfl rfl ?_
          refine Dv rfl rfl rfl (U_load1 rfl rfl (getM0 hx6)) rfl rfl ?_
          refine Dv rfl rfl rfl (U_add rfl rfl (w64e (m := ((((upK n (nxQ n ks) s k)[(s ||| (1 <<< k))]) + (upK n (nxQ n ks) s k)[s] : Nat) : Int)) (by omega) (by omega) (by omega))) rfl rfl ?_
          refine Dv rfl rfl rfl (U_indexS (j := (s ||| (1 <<< k))) rfl rfl rfl (by omega)) rfl rfl ?_
          refine Dn_ rfl rfl rfl (U_store (n := 1) (cs' := ((upK n (nxQ n ks) s k).set (s ||| (1 <<< k)) (((upK n (nxQ n ks) s k)[(s ||| (1 <<< k))]) + (upK n (nxQ n ks) s k)[s])).map n64) rfl rfl rfl rfl rfl (stLt hx5) rfl setM) rfl rfl ?_
          refine Dr.nil rfl ?_
          refine blkQ_n ?_
          refine thenQ_n ?_
          refine W_reg rfl ?_
          refine Rv rfl rfl rfl (U_move rfl) rfl rfl ?_
          refine Rv rfl rfl rfl (U_add rfl rfl (w64e (m := ((k + 1 : Nat) : Int)) (by omega) (by omega) (by omega))) rfl rfl ?_
          refine Rv rfl rfl rfl (U_assign rfl) rfl rfl ?_
          refine Re rfl ?_
          refine thenQ_n ?_
          first | rw [upK_T hx hs hnx hadl rfl hvs] | rw [upK_F hnx]
          exact againTo (T' := [(1, .rop [i64 ((n : Nat) : Int), .ros (ks.flatMap lkN) ks.length c] 0), (4, .ros ((bfL n ks).map n64) n none), (5, i64 ((1 <<< n : Nat) : Int)), (6, .slice 0 0 (1 <<< n) (1 <<< n)), (7, .slice 1 0 (1 <<< n) (1 <<< n)), (8, i64 ((s : Nat) : Int)), (9, i64 (((k + 1) : Nat) : Int))]) (H' := [(0, some (.cells ((upK n (nxQ n ks) s (k + 1)).map n64) 2)), (1, some (.cells ((enV n (nxQ n ks) (min (1 <<< n) (full n))).map n64) 2))]) (n := 2) (n - (k + 1)) ⟨k + 1, (by omega), rfl, rfl⟩ (by omega) id ⟨eD rfl rfl, eD rfl rfl, eD rfl rfl, e_ rfl rfl, e_ rfl rfl, eD rfl rfl, eD rfl rfl, trivial⟩ ⟨rD (mapD (fun _ => rfl) _) rfl rfl, rD (mapD (fun _ => rfl) _) rfl rfl, trivial⟩ rfl rfl rfl rfl (fun _ _ => rfl)
        · have hnx : nxQ n ks s k = false := by show nxR (bfN n ks) s k = false; unfold nxR; rw [hbk, decide_eq_true hcg1, decide_eq_false hc2]; rfl
          refine W_skip rfl ?_
          refine blkQ_n ?_
          refine thenQ_n ?_
          refine W_reg rfl ?_
          refine Rv rfl rfl rfl (U_move rfl) rfl rfl ?_
          refine Rv rfl rfl rfl (U_add rfl rfl (w64e (m := ((k + 1 : Nat) : Int)) (by omega) (by omega) (by omega))) rfl rfl ?_
          refine Rv rfl rfl rfl (U_assign rfl) rfl rfl ?_
          refine Re rfl ?_
          refine thenQ_n ?_
          first | rw [upK_T hx hs hnx hadl rfl hvs] | rw [upK_F hnx]
          exact againTo (T' := [(1, .rop [i64 ((n : Nat) : Int), .ros (ks.flatMap lkN) ks.length c] 0), (4, .ros ((bfL n ks).map n64) n none), (5, i64 ((1 <<< n : Nat) : Int)), (6, .slice 0 0 (1 <<< n) (1 <<< n)), (7, .slice 1 0 (1 <<< n) (1 <<< n)), (8, i64 ((s : Nat) : Int)), (9, i64 (((k + 1) : Nat) : Int))]) (H' := [(0, some (.cells ((upK n (nxQ n ks) s (k + 1)).map n64) 2)), (1, some (.cells ((enV n (nxQ n ks) (min (1 <<< n) (full n))).map n64) 2))]) (n := 2) (n - (k + 1)) ⟨k + 1, (by omega), rfl, rfl⟩ (by omega) id ⟨eD rfl rfl, eD rfl rfl, eD rfl rfl, e_ rfl rfl, e_ rfl rfl, eD rfl rfl, eD rfl rfl, trivial⟩ ⟨rD (mapD (fun _ => rfl) _) rfl rfl, rD (mapD (fun _ => rfl) _) rfl rfl, trivial⟩ rfl rfl rfl rfl (fun _ _ => rfl)
      · rw [hg3]
        have hg3' : ¬ ((((s >>> k) &&& 1 : Nat) : Int) = 0) := of_decide_eq_false hg3
        have hnx : nxQ n ks s k = false := by show nxR (bfN n ks) s k = false; unfold nxR; rw [decide_eq_false hg3']; rfl
        refine Ds rfl rfl rfl rfl rfl ?_
        refine Ds rfl rfl rfl rfl rfl ?_
        refine Ds rfl rfl rfl rfl rfl ?_
        refine Ds rfl rfl rfl rfl rfl ?_
        refine Ds rfl rfl rfl rfl rfl ?_
        refine Ds rfl rfl rfl rfl rfl ?_
        refine Ds rfl rfl rfl rfl rfl ?_
        refine Ds rfl rfl rfl rfl rfl ?_
        refine Ds rfl rfl rfl rfl rfl ?_
        refine Ds rfl rfl rfl rfl rfl ?_
        refine Ds rfl rfl rfl rfl rfl ?_
        refine Dv rfl rfl rfl (U_pick_f rfl rfl) rfl rfl ?_
        refine Dr.nil rfl ?_
        refine thenQ_n ?_
        refine Wcond rfl rfl (fun h => nomatch h) (fun _ => ?_)
        refine W_skip rfl ?_
        refine blkQ_n ?_
        refine thenQ_n ?_
        refine W_reg rfl ?_
        refine Rv rfl rfl rfl (U_move rfl) rfl rfl ?_
        refine Rv rfl rfl rfl (U_add rfl rfl (w64e (m := ((k + 1 : Nat) : Int)) (by omega) (by omega) (by omega))) rfl rfl ?_
        refine Rv rfl rfl rfl (U_assign rfl) rfl rfl ?_
        refine Re rfl ?_
        refine thenQ_n ?_
        first | rw [upK_T hx hs hnx hadl rfl hvs] | rw [upK_F hnx]
        exact againTo (T' := [(1, .rop [i64 ((n : Nat) : Int), .ros (ks.flatMap lkN) ks.length c] 0), (4, .ros ((bfL n ks).map n64) n none), (5, i64 ((1 <<< n : Nat) : Int)), (6, .slice 0 0 (1 <<< n) (1 <<< n)), (7, .slice 1 0 (1 <<< n) (1 <<< n)), (8, i64 ((s : Nat) : Int)), (9, i64 (((k + 1) : Nat) : Int))]) (H' := [(0, some (.cells ((upK n (nxQ n ks) s (k + 1)).map n64) 2)), (1, some (.cells ((enV n (nxQ n ks) (min (1 <<< n) (full n))).map n64) 2))]) (n := 2) (n - (k + 1)) ⟨k + 1, (by omega), rfl, rfl⟩ (by omega) id ⟨eD rfl rfl, eD rfl rfl, eD rfl rfl, e_ rfl rfl, e_ rfl rfl, eD rfl rfl, eD rfl rfl, trivial⟩ ⟨rD (mapD (fun _ => rfl) _) rfl rfl, rD (mapD (fun _ => rfl) _) rfl rfl, trivial⟩ rfl rfl rfl rfl (fun _ _ => rfl)
    · obtain rfl : n = k := by omega
      rw [upK_all hx]
      refine W_exit rfl ?_
      refine thenQ_x ?_
      refine thenQ_x ?_
      refine blkQ_x rfl ?_
      refine blkQ_n ?_
      refine thenQ_n ?_
      refine W_reg rfl ?_
      refine Rv rfl rfl rfl (U_move rfl) rfl rfl ?_
      refine Rv rfl rfl rfl (U_add rfl rfl (w64e (m := ((s + 1 : Nat) : Int)) (by omega) (by omega) (by omega))) rfl rfl ?_
      refine Rv rfl rfl rfl (U_assign rfl) rfl rfl ?_
      refine Re rfl ?_
      refine thenQ_n ?_
      exact againTo (T' := [(1, .rop [i64 ((n : Nat) : Int), .ros (ks.flatMap lkN) ks.length c] 0), (4, .ros ((bfL n ks).map n64) n none), (5, i64 ((1 <<< n : Nat) : Int)), (6, .slice 0 0 (1 <<< n) (1 <<< n)), (7, .slice 1 0 (1 <<< n) (1 <<< n)), (8, i64 (((s + 1) : Nat) : Int))]) (H' := [(0, some (.cells ((upK n (nxQ n ks) (s + 1) 0).map n64) 2)), (1, some (.cells ((enV n (nxQ n ks) (min (1 <<< n) (full n))).map n64) 2))]) (n := 2) (1 <<< n - (s + 1)) ⟨s + 1, (by omega), rfl, rfl⟩ (by omega) id ⟨eD rfl rfl, eD rfl rfl, eD rfl rfl, e_ rfl rfl, e_ rfl rfl, eD rfl rfl, trivial⟩ ⟨rD (mapD (fun _ => rfl) _) rfl rfl, rD (mapD (fun _ => rfl) _) rfl rfl, trivial⟩ rfl rfl rfl rfl (fun _ _ => rfl)
  · obtain rfl : s = 1 <<< n := by omega
    refine W_exit rfl ?_
    refine thenQ_x ?_
    refine thenQ_x ?_
    refine blkQ_x rfl ?_
    refine thenQ_n ?_
    refine W_seq rfl ?_
    refine W_seq rfl ?_
    refine W_reg rfl ?_
    refine Rv rfl rfl rfl (U_move rfl) rfl rfl ?_
    refine Rv rfl rfl rfl (U_sub rfl rfl (w64 (by omega) (by omega))) rfl rfl ?_
    refine Rv rfl rfl rfl (U_assign rfl) rfl rfl ?_
    refine Re rfl ?_
    refine thenQ_n ?_
    refine W_block rfl ?_
    refine LoopTo (T' := [(1, .rop [i64 ((n : Nat) : Int), .ros (ks.flatMap lkN) ks.length c] 0), (4, .ros ((bfL n ks).map n64) n none), (6, .slice 0 0 (1 <<< n) (1 <<< n)), (7, .slice 1 0 (1 <<< n) (1 <<< n)), (10, i64 ((((1 <<< n) : Nat) : Int) - 1))]) (H' := [(0, some (.cells ((upK n (nxQ n ks) (1 <<< n) 0).map n64) 2)), (1, some (.cells ((enV n (nxQ n ks) (min (1 <<< n) (full n))).map n64) 2))]) (n := 2) rfl (fun mz_ qz_ => ∃ (s : Nat), s ≤ 1 <<< n ∧ mz_ = 0 + s ∧ qz_ = ⟨[(1, .rop [i64 ((n : Nat) : Int), .ros (ks.flatMap lkN) ks.length c] 0), (4, .ros ((bfL n ks).map n64) n none), (6, .slice 0 0 (1 <<< n) (1 <<< n)), (7, .slice 1 0 (1 <<< n) (1 <<< n)), (10, i64 (((s : Nat) : Int) - 1))], [(0, some (.cells ((upK n (nxQ n ks) (1 <<< n) 0).map n64) 2)), (1, some (.cells ((enV n (nxQ n ks) (min s (full n))).map n64) 2))], 2, []⟩) ⟨1 <<< n, (Nat.le_refl _), rfl, rfl⟩ id ⟨eD rfl rfl, eD rfl rfl, e_ rfl rfl, e_ rfl rfl, eD rfl rfl, trivial⟩ ⟨rD (mapD (fun _ => rfl) _) rfl rfl, rD (mapD (fun _ => rfl) _) rfl rfl, trivial⟩ rfl rfl rfl rfl (fun _ _ => rfl) ?_
    rintro _ _ ⟨s, hi2_0, rfl, rfl⟩
    refine W_seq rfl ?_
    refine W_seq rfl ?_
    refine W_reg rfl ?_
    refine Rv rfl rfl rfl (U_move rfl) rfl rfl ?_
    refine Rv rfl rfl rfl (U_geq rfl rfl) rfl rfl ?_
    refine Re rfl ?_
    refine thenQ_n ?_
    refine WcondP rfl rfl (fun hc3 => ?_) (fun hc3 => ?_)
    · obtain ⟨m, rfl⟩ : ∃ m, s = m + 1 := ⟨s - 1, by omega⟩
      have hm1 : ((m + 1 : Nat) : Int) - 1 = ((m : Nat) : Int) := by omega
      rw [hm1]
      have hm : m < 2 ^ n := by rw [← one_shl (n := n)]; omega
      rw [← enK_0 (n := n) (nx := (nxQ n ks)) hm]
      refine W_skip rfl ?_
      refine thenQ_n ?_
      refine W_seq rfl ?_
      refine W_block rfl ?_
      refine W_seq rfl ?_
      refine W_reg rfl ?_
      refine Rv rfl rfl rfl (U_assign rfl) rfl rfl ?_
      refine Re rfl ?_
      refine thenQ_n ?_
      refine W_block rfl ?_
      refine LoopTo (T' := [(1, .rop [i64 ((n : Nat) : Int), .ros (ks.flatMap lkN) ks.length c] 0), (4, .ros ((bfL n ks).map n64) n none), (6, .slice 0 0 (1 <<< n) (1 <<< n)), (7, .slice 1 0 (1 <<< n) (1 <<< n)), (10, i64 ((m : Nat) : Int)), (11, i64 ((0 : Nat) : Int))]) (H' := [(0, some (.cells ((upK n (nxQ n ks) (1 <<< n) 0).map n64) 2)), (1, some (.cells ((enK n (nxQ n ks) m 0).map n64) 2))]) (n := 2) rfl (fun mz_ qz_ => ∃ (k : Nat), k ≤ n ∧ mz_ = n - k ∧ qz_ = ⟨[(1, .rop [i64 ((n : Nat) : Int), .ros (ks.flatMap lkN) ks.length c] 0), (4, .ros ((bfL n ks).map n64) n none), (6, .slice 0 0 (1 <<< n) (1 <<< n)), (7, .slice 1 0 (1 <<< n) (1 <<< n)), (10, i64 ((m : Nat) : Int)), (11, i64 ((k : Nat) : Int))], [(0, some (.cells ((upK n (nxQ n ks) (1 <<< n) 0).map n64) 2)), (1, some (.cells ((enK n (nxQ n ks) m k).map n64) 2))], 2, []⟩) ⟨0, (by omega), rfl, rfl⟩ id ⟨eD rfl rfl, eD rfl rfl, e_ rfl rfl, e_ rfl rfl, eD rfl rfl, eD rfl rfl, trivial⟩ ⟨rD (mapD (fun _ => rfl) _) rfl rfl, rD (mapD (fun _ => rfl) _) rfl rfl, trivial⟩ rfl rfl rfl rfl (fun _ _ => rfl) ?_
      rintro _ _ ⟨k, hi3_0, rfl, rfl⟩
      refine W_seq rfl ?_
      refine W_seq rfl ?_
      refine W_reg rfl ?_
      refine Rv rfl rfl rfl (U_move rfl) rfl rfl ?_
      refine Rv rfl rfl rfl (U_fieldAddrR rfl) rfl rfl ?_
      refine Rv rfl rfl rfl (U_load1 rfl rfl rfl) rfl rfl ?_
      refine Rv rfl rfl rfl (U_lss rfl rfl) rfl rfl ?_
      refine Re rfl ?_
      refine thenQ_n ?_
      refine WcondP rfl rfl (fun hc4 => ?_) (fun hc4 => ?_)
      · have hkn : k < n := by omega
        have hbi : k < (bfL n ks).length := by omega
        have hbk : bfN n ks k = (bfL n ks)[k] := getD_eq hbi
        have hbx : (bfL n ks)[k] < 1024 := bfL_lt' hv _ (List.getElem_mem _)
        have h10 : m < 1024 := by omega
        refine W_skip rfl ?_
        refine thenQ_n ?_
        refine W_seq rfl ?_
        refine W_block rfl ?_
        refine W_seq rfl ?_
        refine Wdraw rfl (by kernel_rfl) (by kernel_rfl) ?_
        refine Dv rfl rfl rfl (U_move rfl) rfl rfl ?_
        refine Dv rfl rfl rfl (U_move rfl) rfl rfl ?_
        refine Dv rfl rfl rfl (U_shr rfl rfl (by omega) (shrN (n := m) (i := k) (lt63 h10))) rfl rfl ?_
        refine Dv rfl rfl rfl (U_and rfl rfl (andN (a := m >>> k) (b := 1) (sh63 h10) (by omega))) rfl rfl ?_
        refine Dv rfl rfl rfl (U_eql rfl rfl) rfl rfl ?_
        refine Dv rfl rfl rfl (U_move rfl) rfl rfl ?_
        refine Dsplit (t := 86) rfl (fun hg7 => ?_) (fun hg7 => ?_)
        · rw [hg7]
          have hg7' : (((m >>> k) &&& 1 : Nat) : Int) = 0 := of_decide_eq_true hg7
          have hcg1 := hg7'
          refine Dv rfl rfl rfl (U_move rfl) rfl rfl ?_
          refine Dv rfl rfl rfl (U_move rfl) rfl rfl ?_
          have hx8 : k < (bfL n ks).length := by omega
          refine Dv rfl rfl rfl (U_indexR (j := k) rfl rfl rfl (by omega)) rfl rfl ?_
          refine Dv rfl rfl rfl (U_load1 rfl rfl (getM hx8)) rfl rfl ?_
          refine Dv rfl rfl rfl (U_move rfl) rfl rfl ?_
          refine Dv rfl rfl rfl (U_and rfl rfl (andN (a := (bfL n ks)[k]) (b := m) (lt63 hbx) (lt63 h10))) rfl rfl ?_
          refine Dv rfl rfl rfl (U_move rfl) rfl rfl ?_
          refine Dv rfl rfl rfl (U_move rfl) rfl rfl ?_
          refine Dv rfl rfl rfl (U_indexR (j := k) rfl rfl rfl (by omega)) rfl rfl ?_
          refine Dv rfl rfl rfl (U_load1 rfl rfl (getM hx8)) rfl rfl ?_
          refine Dv rfl rfl rfl (U_eql rfl rfl) rfl rfl ?_
          refine Dv rfl rfl rfl (U_pick_t rfl rfl) rfl rfl ?_
          refine Dr.nil rfl ?_
          refine thenQ_n ?_
          refine WcondP rfl rfl (fun hc5 => ?_) (fun hc5 => ?_)
          · have hnx : nxQ n ks m k = true := by show nxR (bfN n ks) m k = true; unfold nxR; rw [hbk, decide_eq_true hcg1, decide_eq_true hc5]; rfl
            have had : m ||| 1 <<< k < 2 ^ n := ad_lt hm hkn
            have hgt : m < m ||| 1 <<< k := ad_gt (hx _ _ hnx)
            have hne : m ≠ full n := by { rintro rfl; rw [nx_full hx hkn] at hnx; cases hnx }
            have hadl : m ||| 1 <<< k < (enK n (nxQ n ks) m k).length := by rw [enK_len, one_shl (n := n)]; exact had
            have hml : m < (enK n (nxQ n ks) m k).length := by rw [enK_len, one_shl (n := n)]; exact hm
            have hu : (enK n (nxQ n ks) m k)[m] = enR n (nxQ n ks) m k := enK_at1 hml
            have hv_ : (enK n (nxQ n ks) m k)[m ||| 1 <<< k] = en n (nxQ n ks) (ad m k) := enK_at2 hgt hadl
            have hb1 := enR_le hn hx hm (show k ≤ n by omega)
            have hb2 : en n (nxQ n ks) (ad m k) ≤ 3628800 := en_lt hx hn had
            refine Wdraw rfl (by kernel_rfl) (by kernel_rfl) ?_
            refine Dv rfl rfl rfl (U_move rfl) rfl rfl ?_
            refine Dv rfl rfl rfl (U_move rfl) rfl rfl ?_
            have hx9 : m < (enK n (nxQ n ks) m k).length := by omega
            refine Dv rfl rfl rfl (U_indexS (j := m) rfl rfl rfl (by omega)) rfl rfl ?_
            refine Dv rfl rfl rfl (U_load1 rfl rfl (getM0 hx9)) rfl rfl ?_
            refine Dv rfl rfl rfl (U_move rfl) rfl rfl ?_
            refine Dv rfl rfl rfl (U_move rfl) rfl rfl ?_
            refine Dv rfl rfl rfl (U_move rfl) rfl rfl ?_
            refine Dv rfl rfl rfl (U_shl rfl rfl (by omega) (shlN (n := 1) (i := k) (shl63 (by omega)) (by omega))) rfl rfl ?_
            refine Dv rfl rfl rfl (U_or rfl rfl (orN (a := m) (b := 1 <<< k) (lt63 h10) (lt63 (shl1024 (by omega))))) rfl rfl ?_
            have hx10 : (m ||| (1 <<< k)) < (enK n (nxQ n ks) m k).length := by omega
            refine Dv rfl rfl rfl (U_indexS (j := (m ||| (1 <<< k))) rfl rfl rfl (by omega)) rfl rfl ?_
            refine Dv rfl rfl rfl (U_load1 rfl rfl (getM0 hx10)) rfl rfl ?_
            refine Dv rfl rfl rfl (U_add rfl rfl (w64e (m := (((enK n (nxQ n ks) m k)[m] + ((enK n (nxQ n ks) m k)[(m ||| (1 <<< k))]) : Nat) : Int)) (by omega) (by omega) (by omega))) rfl rfl ?_
            refine Dv rfl rfl rfl (U_indexS (j := m) rfl rfl rfl (by omega)) rfl rfl ?_
            refine Dn_ rfl rfl rfl (U_store (n := 1) (cs' := ((enK n (nxQ n ks) m k).set m ((enK n (nxQ n ks) m k)[m] + ((enK n (nxQ n ks) m k)[(m ||| (1 <<< k))]))).map n64) rfl rfl rfl rfl rfl (stLt hx9) rfl setM) rfl rfl ?_
            refine Dr.nil rfl ?_
            refine blkQ_n ?_
            refine thenQ_n ?_
            refine W_reg rfl ?_
            refine Rv rfl rfl rfl (U_move rfl) rfl rfl ?_
            refine Rv rfl rfl rfl (U_add rfl rfl (w64e (m := ((k + 1 : Nat) : Int)) (by omega) (by omega) (by omega))) rfl rfl ?_
            refine Rv rfl rfl rfl (U_assign rfl) rfl rfl ?_
            refine Re rfl ?_
            refine thenQ_n ?_
            first | rw [enK_T hne hnx hu hv_] | rw [enK_F hnx]
            exact againTo (T' := [(1, .rop [i64 ((n : Nat) : Int), .ros (ks.flatMap lkN) ks.length c] 0), (4, .ros ((bfL n ks).map n64) n none), (6, .slice 0 0 (1 <<< n) (1 <<< n)), (7, .slice 1 0 (1 <<< n) (1 <<< n)), (10, i64 ((m : Nat) : Int)), (11, i64 (((k + 1) : Nat) : Int))]) (H' := [(0, some (.cells ((upK n (nxQ n ks) (1 <<< n) 0).map n64) 2)), (1, some (.cells ((enK n (nxQ n ks) m (k + 1)).map n64) 2))]) (n := 2) (n - (k + 1)) ⟨k + 1, (by omega), rfl, rfl⟩ (by omega) id ⟨eD rfl rfl, eD rfl rfl, e_ rfl rfl, e_ rfl rfl, eD rfl rfl, eD rfl rfl, trivial⟩ ⟨rD (mapD (fun _ => rfl) _) rfl rfl, rD (mapD (fun _ => rfl) _) rfl rfl, trivial⟩ rfl rfl rfl rfl (fun _ _ => rfl)
          · have hnx : nxQ n ks m k = false := by show nxR (bfN n ks) m k = false; unfold nxR; rw [hbk, decide_eq_true hcg1, decide_eq_false hc5]; rfl
            refine W_skip rfl ?_
            refine blkQ_n ?_
            refine thenQ_n ?_
            refine W_reg rfl ?_
            refine Rv rfl rfl rfl (U_move rfl) rfl rfl ?_
            refine Rv rfl rfl rfl (U_add rfl rfl (w64e (m := ((k + 1 : Nat) : Int)) (by omega) (by omega) (by omega))) rfl rfl ?_
            refine Rv rfl rfl rfl (U_assign rfl) rfl rfl ?_
            refine Re rfl ?_
            refine thenQ_n ?_
            first | rw [enK_T hne hnx hu hv_] | rw [enK_F hnx]
            exact againTo (T' := [(1, .rop [i64 ((n : Nat) : Int), .ros (ks.flatMap lkN) ks.length c] 0), (4, .ros ((bfL n ks).map n64) n none), (6, .slice 0 0 (1 <<< n) (1 <<< n)), (7, .slice 1 0 (1 <<< n) (1 <<< n)), (10, i64 ((m : Nat) : Int)), (11, i64 (((k + 1) : Nat) : Int))]) (H' := [(0, some (.cells ((upK n (nxQ n ks) (1 <<< n) 0).map n64) 2)), (1, some (.cells ((enK n (nxQ n ks) m (k + 1)).map n64) 2))]) (n := 2) (n - (k + 1)) ⟨k + 1, (by omega), rfl, rfl⟩ (by omega) id ⟨eD rfl rfl, eD rfl rfl, e_ rfl rfl, e_ rfl rfl, eD rfl rfl, eD rfl rfl, trivial⟩ ⟨rD (mapD (fun _ => rfl) _) rfl rfl, rD (mapD (fun _ => rfl) _) rfl rfl, trivial⟩ rfl rfl rfl rfl (fun _ _ => rfl)
        · rw [hg7]
          have hg7' : ¬ ((((m >>> k) &&& 1 : Nat) : Int) = 0) := of_decide_eq_false hg7
          have hnx : nxQ n ks m k = false := by show nxR (bfN n ks) m k = false; unfold nxR; rw [decide_eq_false hg7']; rfl
          refine Ds rfl rfl rfl rfl rfl ?_
          refine Ds rfl rfl rfl rfl rfl ?_
          refine Ds rfl rfl rfl rfl rfl ?_
          refine Ds rfl rfl rfl rfl rfl ?_
          refine Ds rfl rfl rfl rfl rfl ?_
          refine Ds rfl rfl rfl rfl rfl ?_
          refine Ds rfl rfl rfl rfl rfl ?_
          refine Ds rfl rfl rfl rfl rfl ?_
          refine Ds rfl rfl rfl rfl rfl ?_
          refine Ds rfl rfl rfl rfl rfl ?_
          refine Ds rfl rfl rfl rfl rfl ?_
          refine Dv rfl rfl rfl (U_pick_f rfl rfl) rfl rfl ?_
          refine Dr.nil rfl ?_
          refine thenQ_n ?_
          refine Wcond rfl rfl (fun h => nomatch h) (fun _ => ?_)
          refine W_skip rfl ?_
          refine blkQ_n ?_
          refine thenQ_n ?_
          refine W_reg rfl ?_
          refine Rv rfl rfl rfl (U_move rfl) rfl rfl ?_
          refine Rv rfl rfl rfl (U_add rfl rfl (w64e (m := ((k + 1 : Nat) : Int)) (by omega) (by omega) (by omega))) rfl rfl ?_
          refine Rv rfl rfl rfl (U_assign rfl) rfl rfl ?_
          refine Re rfl ?_
          refine thenQ_n ?_
          first | rw [enK_T hne hnx hu hv_] | rw [enK_F hnx]
          exact againTo (T' := [(1, .rop [i64 ((n : Nat) : Int), .ros (ks.flatMap lkN) ks.length c] 0), (4, .ros ((bfL n ks).map n64) n none), (6, .slice 0 0 (1 <<< n) (1 <<< n)), (7, .slice 1 0 (1 <<< n) (1 <<< n)), (10, i64 ((m : Nat) : Int)), (11, i64 (((k + 1) : Nat) : Int))]) (H' := [(0, some (.cells ((upK n (nxQ n ks) (1 <<< n) 0).map n64) 2)), (1, some (.cells ((enK n (nxQ n ks) m (k + 1)).map n64) 2))]) (n := 2) (n - (k + 1)) ⟨k + 1, (by omega), rfl, rfl⟩ (by omega) id ⟨eD rfl rfl, eD rfl rfl, e_ rfl rfl, e_ rfl rfl, eD rfl rfl, eD rfl rfl, trivial⟩ ⟨rD (mapD (fun _ => rfl) _) rfl rfl, rD (mapD (fun _ => rfl) _) rfl rfl, trivial⟩ rfl rfl rfl rfl (fun _ _ => rfl)
      · obtain rfl : n = k := by omega
        rw [enK_all hx hm]
        refine W_exit rfl ?_
        refine thenQ_x ?_
        refine thenQ_x ?_
        refine blkQ_x rfl ?_
        refine blkQ_n ?_
        refine thenQ_n ?_
        refine W_reg rfl ?_
        refine Rv rfl rfl rfl (U_move rfl) rfl rfl ?_
        refine Rv rfl rfl rfl (U_sub rfl rfl (w64 (by omega) (by omega))) rfl rfl ?_
        refine Rv rfl rfl rfl (U_assign rfl) rfl rfl ?_
        refine Re rfl ?_
        refine thenQ_n ?_
        exact againTo (T' := [(1, .rop [i64 ((n : Nat) : Int), .ros (ks.flatMap lkN) ks.length c] 0), (4, .ros ((bfL n ks).map n64) n none), (6, .slice 0 0 (1 <<< n) (1 <<< n)), (7, .slice 1 0 (1 <<< n) (1 <<< n)), (10, i64 (((m : Nat) : Int) - 1))]) (H' := [(0, some (.cells ((upK n (nxQ n ks) (1 <<< n) 0).map n64) 2)), (1, some (.cells ((enV n (nxQ n ks) (min m (full n))).map n64) 2))]) (n := 2) (0 + m) ⟨m, (by omega), rfl, rfl⟩ (by omega) id ⟨eD rfl rfl, eD rfl rfl, e_ rfl rfl, e_ rfl rfl, eD rfl rfl, trivial⟩ ⟨rD (mapD (fun _ => rfl) _) rfl rfl, rD (mapD (fun _ => rfl) _) rfl rfl, trivial⟩ rfl rfl rfl rfl (fun _ _ => rfl)
    · obtain rfl : s = 0 := by omega
      rw [Nat.zero_min]
      refine W_exit rfl ?_
      refine thenQ_x ?_
      refine thenQ_x ?_
      refine blkQ_x rfl ?_
      refine thenQ_n ?_
      refine W_seq rfl ?_
      refine W_reg rfl ?_
      refine Rv rfl rfl rfl (U_move rfl) rfl rfl ?_
      refine Rv rfl rfl rfl (U_move rfl) rfl rfl ?_
      refine Rv rfl rfl rfl (U_assign rfl) rfl rfl ?_
      refine Rv rfl rfl rfl (U_assign rfl) rfl rfl ?_
      refine Re rfl ?_
      refine thenQ_n ?_
      refine WfrN 0 rfl (mapD (fun _ => rfl) _) (T' := [(2, .ros ((upK n (nxQ n ks) (1 <<< n) 0).map n64) (1 <<< n) (some (1 <<< n))), (3, .slice 1 0 (1 <<< n) (1 <<< n))]) (H' := [(1, some (.cells ((enV n (nxQ n ks) 0).map n64) 2))]) ⟨⟨_, rfl, fr_sl (Nat.le_refl _)⟩, ⟨_, rfl, rfl⟩, trivial⟩ ⟨⟨rfl, rFD (mapD (fun _ => rfl) _) rfl⟩, trivial⟩ ?_
      refine WfrN 1 rfl (mapD (fun _ => rfl) _) (T' := [(2, .ros ((upK n (nxQ n ks) (1 <<< n) 0).map n64) (1 <<< n) (some (1 <<< n))), (3, .ros ((enV n (nxQ n ks) 0).map n64) (1 <<< n) (some (1 <<< n)))]) (H' := []) ⟨⟨_, rfl, rfl⟩, ⟨_, rfl, fr_sl (Nat.le_refl _)⟩, trivial⟩ trivial ?_
      refine WweakT (j := 2) rfl le_cap ?_
      refine WweakT (j := 3) rfl le_cap ?_
      refine W_ret rfl ?_
      exact retL (rlT rfl (rlT rfl rl0)) rfl rfl
end Go.Proofs.Ythmibifghihdaaa
end

section
namespace Go.Proofs.Ythmibifghihdaaa
set_option maxRecDepth 20000
open Go.AE
theorem countOf_p (n : Nat) (ks : List (Nat × Nat)) (c : Option Nat) (hv : VB n ks) : Pure Try.prog 70 [bknA n ks c] (i64 ((cntQ n ks : Nat) : Int)) := by
  have hv' := hv
  obtain ⟨hn1, hn, hkl, hk⟩ := hv'
  have h1024 := shl_le hn
  have h2n := shl_ge hn1
  refine pure_of_body Try.func70 (c := body Try.f70) rfl (by simp [Try.ntmps70]) fun w0 Φ0 => ?_
  refine W_seq rfl ?_
  refine W_reg rfl ?_
  refine Rv rfl rfl rfl (U_boxF rfl rfl rfl) rfl rfl ?_
  refine Rv rfl rfl rfl (U_assign rfl) rfl rfl ?_
  refine Re rfl ?_
  refine thenQ_n ?_
  refine W_seq rfl ?_
  refine W_reg rfl ?_
  refine Rv rfl rfl rfl (U_load2 rfl rfl rfl rfl) rfl rfl ?_
  refine Rv rfl rfl rfl (U_call rfl rfl (ways_p n ks c hv) rfl) rfl rfl ?_
  refine Rv rfl rfl rfl (U_move rfl) rfl rfl ?_
  refine Rv rfl rfl rfl (U_extract rfl rfl) rfl rfl ?_
  refine Rv rfl rfl rfl (U_extract rfl rfl) rfl rfl ?_
  refine Rv rfl rfl rfl (U_assign rfl) rfl rfl ?_
  refine Rv rfl rfl rfl (U_assign rfl) rfl rfl ?_
  refine Re rfl ?_
  refine thenQ_n ?_
  refine W_seq rfl ?_
  refine W_reg rfl ?_
  refine Rv rfl rfl rfl (U_move rfl) rfl rfl ?_
  refine Rv rfl rfl rfl (U_move rfl) rfl rfl ?_
  refine Rv rfl rfl rfl (U_lenOf rfl len_ros) rfl rfl ?_
  refine Rv rfl rfl rfl (U_sub rfl rfl (w64e (m := ((1 <<< n - 1 : Nat) : Int)) (by omega) (by omega) (by omega))) rfl rfl ?_
  have hul : (upK n (nxQ n ks) (1 <<< n) 0).length = 1 <<< n := upK_len
  have hx1 : (1 <<< n - 1) < (upK n (nxQ n ks) (1 <<< n) 0).length := by omega
  refine Rv rfl rfl rfl (U_indexR (j := (1 <<< n - 1)) rfl rfl rfl (by omega)) rfl rfl ?_
  refine Rv rfl rfl rfl (U_load1 rfl rfl (getM hx1)) rfl rfl ?_
  refine Rv rfl rfl rfl (U_assign rfl) rfl rfl ?_
  refine Re rfl ?_
  refine thenQ_n ?_
  refine W_ret rfl ?_
  exact retL (rlT rfl rl0) (by first | rfl | (simp only [packA]; rw [upK_end (show 1 <<< n - 1 < 2 ^ n by rw [← one_shl (n := n)]; omega), ← cnt_R hv, full_shl]; first | done | rfl)) rfl
theorem ruledR_e (b : Bk) (c : Option Nat) (hl : b.ls.length ≤ 1000000) (hE : chkB b ≠ 0) (l : List Int) (d : Option Nat) (hll : l.length ≤ 1000000) : Pure Try.prog 65 [bookA b c, intsA l d] (i64 (chkB b)) := by
  refine pure_of_body Try.func65 (c := body Try.f65) rfl (by simp [Try.ntmps65]) fun w0 Φ0 => ?_
  refine W_seq rfl ?_
  refine W_reg rfl ?_
  refine Rv rfl rfl rfl (U_boxF rfl rfl rfl) rfl rfl ?_
  refine Rv rfl rfl rfl (U_assign rfl) rfl rfl ?_
  refine Re rfl ?_
  refine thenQ_n ?_
  refine W_seq rfl ?_
  refine W_seq rfl ?_
  refine W_reg rfl ?_
  refine Rv rfl rfl rfl (U_load2 rfl rfl rfl rfl) rfl rfl ?_
  refine Rv rfl rfl rfl (U_call rfl rfl (chkBR_p b c hl) rfl) rfl rfl ?_
  refine Rv rfl rfl rfl (U_neq rfl rfl) rfl rfl ?_
  refine Re rfl ?_
  refine thenQ_n ?_
  refine WcondP rfl rfl (fun hc0 => ?_) (fun hc0 => absurd (hE) hc0)
  refine W_seq rfl ?_
  refine W_reg rfl ?_
  refine Rv rfl rfl rfl (U_load2 rfl rfl rfl rfl) rfl rfl ?_
  refine Rv rfl rfl rfl (U_call rfl rfl (chkBR_p b c hl) rfl) rfl rfl ?_
  refine Rv rfl rfl rfl (U_assign rfl) rfl rfl ?_
  refine Re rfl ?_
  refine thenQ_n ?_
  refine W_ret rfl ?_
  refine thenQ_r ?_
  exact retL (rlT rfl rl0) rfl rfl
theorem ruledR_A (n : Nat) (ks : List (Nat × Nat)) (c : Option Nat) (hv : VB n ks) (h40 : ks.length ≤ 40) (l : List Int) (d : Option Nat) (hll : l.length ≤ 1000000) (hin : inL 0 (((n : Nat) : Int) - 1) l = false) : Pure Try.prog 65 [bknA n ks c, intsA l d] (i64 2) := by
  have hv' := hv
  obtain ⟨hn1, hn, hkl, hk⟩ := hv'
  have hk2 := vb_lt hv
  refine pure_of_body Try.func65 (c := body Try.f65) rfl (by simp [Try.ntmps65]) fun w0 Φ0 => ?_
  refine W_seq rfl ?_
  refine W_reg rfl ?_
  refine Rv rfl rfl rfl (U_boxF rfl rfl rfl) rfl rfl ?_
  refine Rv rfl rfl rfl (U_assign rfl) rfl rfl ?_
  refine Re rfl ?_
  refine thenQ_n ?_
  refine W_seq rfl ?_
  refine W_seq rfl ?_
  refine W_reg rfl ?_
  refine Rv rfl rfl rfl (U_load2 rfl rfl rfl rfl) rfl rfl ?_
  refine Rv rfl rfl rfl (U_call rfl rfl (chkBRG_p n ks c hv h40) rfl) rfl rfl ?_
  refine Rv rfl rfl rfl (U_neq rfl rfl) rfl rfl ?_
  refine Re rfl ?_
  refine thenQ_n ?_
  refine WcondP rfl rfl (fun h => absurd h (by decide)) (fun _ => ?_)
  refine W_skip rfl ?_
  refine thenQ_n ?_
  refine W_seq rfl ?_
  refine W_seq rfl ?_
  refine W_reg rfl ?_
  refine Rv rfl rfl rfl (U_assign rfl) rfl rfl ?_
  refine Re rfl ?_
  refine thenQ_n ?_
  refine W_block rfl ?_
  refine LoopTo (T' := [(1, .ros (l.map i64) l.length d), (2, .rop [i64 ((n : Nat) : Int), .ros (ks.flatMap lkN) ks.length c] 0), (5, i64 ((0 : Nat) : Int))]) (H' := []) (n := 0) rfl (fun mz_ qz_ => ∃ (k : Nat), k ≤ l.length ∧ (∀ j (hj : j < l.length), j < k → staB (n : Nat) l[j] = true) ∧ mz_ = l.length - k ∧ qz_ = ⟨[(1, .ros (l.map i64) l.length d), (2, .rop [i64 ((n : Nat) : Int), .ros (ks.flatMap lkN) ks.length c] 0), (5, i64 ((k : Nat) : Int))], [], 0, []⟩) ⟨0, (by omega), (fun j hj h => absurd h (Nat.not_lt_zero _)), rfl, rfl⟩ id ⟨eD rfl rfl, eD rfl rfl, eD rfl rfl, trivial⟩ trivial rfl rfl rfl rfl (fun _ _ => rfl) ?_
  rintro _ _ ⟨k, hi0_0, hi0_1, rfl, rfl⟩
  refine W_seq rfl ?_
  refine W_seq rfl ?_
  refine W_reg rfl ?_
  refine Rv rfl rfl rfl (U_move rfl) rfl rfl ?_
  refine Rv rfl rfl rfl (U_move rfl) rfl rfl ?_
  refine Rv rfl rfl rfl (U_lenOf rfl len_ros) rfl rfl ?_
  refine Rv rfl rfl rfl (U_lss rfl rfl) rfl rfl ?_
  refine Re rfl ?_
  refine thenQ_n ?_
  refine WcondP rfl rfl (fun hc1 => ?_) (fun hc1 => ?_)
  · have hck : k < l.length := by omega
    refine W_skip rfl ?_
    refine thenQ_n ?_
    refine W_seq rfl ?_
    refine W_block rfl ?_
    refine W_seq rfl ?_
    refine Wdraw rfl (by kernel_rfl) (by kernel_rfl) ?_
    refine Dv rfl rfl rfl (U_load2 rfl rfl rfl rfl) rfl rfl ?_
    refine Dv rfl rfl rfl (U_move rfl) rfl rfl ?_
    refine Dv rfl rfl rfl (U_move rfl) rfl rfl ?_
    have hx1 : k < l.length := by omega
    refine Dv rfl rfl rfl (U_indexR (j := k) rfl rfl rfl hx1) rfl rfl ?_
    refine Dv rfl rfl rfl (U_load1 rfl rfl (getM hx1)) rfl rfl ?_
    refine Dv rfl rfl rfl (U_call rfl rfl (isStarG_p n ks c l[k]) rfl) rfl rfl ?_
    refine Dv rfl rfl rfl (U_not rfl) rfl rfl ?_
    refine Dr.nil rfl ?_
    refine thenQ_n ?_
    refine Wcond rfl rfl (fun hc2 => ?_) (fun hc2 => ?_)
    · refine W_seq rfl ?_
      refine W_reg rfl ?_
      refine Rv rfl rfl rfl (U_assign rfl) rfl rfl ?_
      refine Re rfl ?_
      refine thenQ_n ?_
      refine W_ret rfl ?_
      refine blkQ_r ?_
      refine thenQ_r ?_
      refine thenQ_r ?_
      refine blkQ_r ?_
      refine thenQ_r ?_
      exact retL (rlT rfl rl0) rfl rfl
    · have hc2' := Bool.eq_false_iff.1 hc2
      refine W_skip rfl ?_
      refine blkQ_n ?_
      refine thenQ_n ?_
      refine W_reg rfl ?_
      refine Rv rfl rfl rfl (U_move rfl) rfl rfl ?_
      refine Rv rfl rfl rfl (U_add rfl rfl (w64e (m := ((k + 1 : Nat) : Int)) (by omega) (by omega) (by omega))) rfl rfl ?_
      refine Rv rfl rfl rfl (U_assign rfl) rfl rfl ?_
      refine Re rfl ?_
      refine thenQ_n ?_
      exact againTo (T' := [(1, .ros (l.map i64) l.length d), (2, .rop [i64 ((n : Nat) : Int), .ros (ks.flatMap lkN) ks.length c] 0), (5, i64 (((k + 1) : Nat) : Int))]) (H' := []) (n := 0) (l.length - (k + 1)) ⟨k + 1, (by omega), (by intro j hj h; rcases Nat.lt_succ_iff_lt_or_eq.1 h with h | rfl; exact hi0_1 j hj h; simpa using hc2), rfl, rfl⟩ (by omega) id ⟨eD rfl rfl, eD rfl rfl, eD rfl rfl, trivial⟩ trivial rfl rfl rfl rfl (fun _ _ => rfl)
  · exact absurd (inL_of fun j hj => hi0_1 j hj (by omega)) (by rw [hin]; simp)
theorem inL_at {n : Nat} {l : List Int} (h : inL 0 (((n : Nat) : Int) - 1) l = true) {j : Nat} (hj : j < l.length) : staB (n : Nat) l[j] = true := by
  rw [inL, List.all_eq_true] at h
  have := h _ (List.getElem_mem hj)
  simp at this; simp [staB]; omega
theorem ruledR_DG (n : Nat) (ks : List (Nat × Nat)) (c : Option Nat) (hv : VB n ks) (h40 : ks.length ≤ 40) (l : List Int) (d : Option Nat) (hll : l.length ≤ 1000000) (hin : inL 0 (((n : Nat) : Int) - 1) l = true) (h2 : l.length = 2) (hne : ¬ l[0] = l[1]) (ha : Acy n ks) : Pure Try.prog 65 [bknA n ks c, intsA l d] (i64 0) := by
  have hv' := hv
  obtain ⟨hn1, hn, hkl, hk⟩ := hv'
  have hk2 := vb_lt hv
  refine pure_of_body Try.func65 (c := body Try.f65) rfl (by simp [Try.ntmps65]) fun w0 Φ0 => ?_
  refine W_seq rfl ?_
  refine W_reg rfl ?_
  refine Rv rfl rfl rfl (U_boxF rfl rfl rfl) rfl rfl ?_
  refine Rv rfl rfl rfl (U_assign rfl) rfl rfl ?_
  refine Re rfl ?_
  refine thenQ_n ?_
  refine W_seq rfl ?_
  refine W_seq rfl ?_
  refine W_reg rfl ?_
  refine Rv rfl rfl rfl (U_load2 rfl rfl rfl rfl) rfl rfl ?_
  refine Rv rfl rfl rfl (U_call rfl rfl (chkBRG_p n ks c hv h40) rfl) rfl rfl ?_
  refine Rv rfl rfl rfl (U_neq rfl rfl) rfl rfl ?_
  refine Re rfl ?_
  refine thenQ_n ?_
  refine WcondP rfl rfl (fun h => absurd h (by decide)) (fun _ => ?_)
  refine W_skip rfl ?_
  refine thenQ_n ?_
  refine W_seq rfl ?_
  refine W_seq rfl ?_
  refine W_reg rfl ?_
  refine Rv rfl rfl rfl (U_assign rfl) rfl rfl ?_
  refine Re rfl ?_
  refine thenQ_n ?_
  refine W_block rfl ?_
  refine LoopTo (T' := [(1, .ros (l.map i64) l.length d), (2, .rop [i64 ((n : Nat) : Int), .ros (ks.flatMap lkN) ks.length c] 0), (5, i64 ((0 : Nat) : Int))]) (H' := []) (n := 0) rfl (fun mz_ qz_ => ∃ (k : Nat), k ≤ l.length ∧ mz_ = l.length - k ∧ qz_ = ⟨[(1, .ros (l.map i64) l.length d), (2, .rop [i64 ((n : Nat) : Int), .ros (ks.flatMap lkN) ks.length c] 0), (5, i64 ((k : Nat) : Int))], [], 0, []⟩) ⟨0, (by omega), rfl, rfl⟩ id ⟨eD rfl rfl, eD rfl rfl, eD rfl rfl, trivial⟩ trivial rfl rfl rfl rfl (fun _ _ => rfl) ?_
  rintro _ _ ⟨k, hi0_0, rfl, rfl⟩
  refine W_seq rfl ?_
  refine W_seq rfl ?_
  refine W_reg rfl ?_
  refine Rv rfl rfl rfl (U_move rfl) rfl rfl ?_
  refine Rv rfl rfl rfl (U_move rfl) rfl rfl ?_
  refine Rv rfl rfl rfl (U_lenOf rfl len_ros) rfl rfl ?_
  refine Rv rfl rfl rfl (U_lss rfl rfl) rfl rfl ?_
  refine Re rfl ?_
  refine thenQ_n ?_
  refine WcondP rfl rfl (fun hc1 => ?_) (fun hc1 => ?_)
  · have hck : k < l.length := by omega
    refine W_skip rfl ?_
    refine thenQ_n ?_
    refine W_seq rfl ?_
    refine W_block rfl ?_
    refine W_seq rfl ?_
    refine Wdraw rfl (by kernel_rfl) (by kernel_rfl) ?_
    refine Dv rfl rfl rfl (U_load2 rfl rfl rfl rfl) rfl rfl ?_
    refine Dv rfl rfl rfl (U_move rfl) rfl rfl ?_
    refine Dv rfl rfl rfl (U_move rfl) rfl rfl ?_
    have hx1 : k < l.length := by omega
    refine Dv rfl rfl rfl (U_indexR (j := k) rfl rfl rfl hx1) rfl rfl ?_
    refine Dv rfl rfl rfl (U_load1 rfl rfl (getM hx1)) rfl rfl ?_
    refine Dv rfl rfl rfl (U_call rfl rfl (isStarG_p n ks c l[k]) rfl) rfl rfl ?_
    refine Dv rfl rfl rfl (U_not rfl) rfl rfl ?_
    refine Dr.nil rfl ?_
    refine thenQ_n ?_
    refine Wcond rfl rfl (fun hc2 => absurd hc2 (by rw [inL_at hin hck]; simp)) (fun hc2 => ?_)
    refine W_skip rfl ?_
    refine blkQ_n ?_
    refine thenQ_n ?_
    refine W_reg rfl ?_
    refine Rv rfl rfl rfl (U_move rfl) rfl rfl ?_
    refine Rv rfl rfl rfl (U_add rfl rfl (w64e (m := ((k + 1 : Nat) : Int)) (by omega) (by omega) (by omega))) rfl rfl ?_
    refine Rv rfl rfl rfl (U_assign rfl) rfl rfl ?_
    refine Re rfl ?_
    refine thenQ_n ?_
    exact againTo (T' := [(1, .ros (l.map i64) l.length d), (2, .rop [i64 ((n : Nat) : Int), .ros (ks.flatMap lkN) ks.length c] 0), (5, i64 (((k + 1) : Nat) : Int))]) (H' := []) (n := 0) (l.length - (k + 1)) ⟨k + 1, (by omega), rfl, rfl⟩ (by omega) id ⟨eD rfl rfl, eD rfl rfl, eD rfl rfl, trivial⟩ trivial rfl rfl rfl rfl (fun _ _ => rfl)
  · refine W_exit rfl ?_
    refine thenQ_x ?_
    refine thenQ_x ?_
    refine blkQ_x rfl ?_
    refine thenQ_n ?_
    refine W_seq rfl ?_
    refine W_seq rfl ?_
    refine Wdraw rfl (by kernel_rfl) (by kernel_rfl) ?_
    refine Dv rfl rfl rfl (U_move rfl) rfl rfl ?_
    refine Dv rfl rfl rfl (U_lenOf rfl len_ros) rfl rfl ?_
    refine Dv rfl rfl rfl (OpU.toB (U_eql rfl rfl) (decide_eq_true (by omega))) rfl rfl ?_
    refine Dv rfl rfl rfl (U_move rfl) rfl rfl ?_
    refine Dv rfl rfl rfl (U_move rfl) rfl rfl ?_
    have hx2 : 0 < l.length := by omega
    refine Dv rfl rfl rfl (U_indexR (j := 0) rfl rfl rfl hx2) rfl rfl ?_
    refine Dv rfl rfl rfl (U_load1 rfl rfl (getM hx2)) rfl rfl ?_
    refine Dv rfl rfl rfl (U_move rfl) rfl rfl ?_
    have hx3 : 1 < l.length := by omega
    refine Dv rfl rfl rfl (U_indexR (j := 1) rfl rfl rfl hx3) rfl rfl ?_
    refine Dv rfl rfl rfl (U_load1 rfl rfl (getM hx3)) rfl rfl ?_
    refine Dv rfl rfl rfl (OpU.toB (U_eql rfl rfl) (decide_eq_false hne)) rfl rfl ?_
    refine Dv rfl rfl rfl (U_pick_t rfl rfl) rfl rfl ?_
    refine Dr.nil rfl ?_
    refine thenQ_n ?_
    refine Wcond rfl rfl (fun h => nomatch h) (fun _ => ?_)
    refine W_skip rfl ?_
    refine thenQ_n ?_
    refine W_seq rfl ?_
    refine W_seq rfl ?_
    refine W_reg rfl ?_
    refine Rv rfl rfl rfl (U_load2 rfl rfl rfl rfl) rfl rfl ?_
    refine Rv rfl rfl rfl (U_call rfl rfl (countOf_p n ks c (by assumption)) rfl) rfl rfl ?_
    refine Rv rfl rfl rfl (U_eql rfl rfl) rfl rfl ?_
    refine Re rfl ?_
    refine thenQ_n ?_
    refine WcondP rfl rfl (fun hc4 => absurd hc4 (by have := cnt_acy hv ha; omega)) (fun hc4 => ?_)
    refine W_skip rfl ?_
    refine thenQ_n ?_
    refine W_seq rfl ?_
    refine W_reg rfl ?_
    refine Rv rfl rfl rfl (U_assign rfl) rfl rfl ?_
    refine Re rfl ?_
    refine thenQ_n ?_
    refine W_ret rfl ?_
    exact retL (rlT rfl rl0) rfl rfl
theorem ruledR_DY (n : Nat) (ks : List (Nat × Nat)) (c : Option Nat) (hv : VB n ks) (h40 : ks.length ≤ 40) (l : List Int) (d : Option Nat) (hll : l.length ≤ 1000000) (hin : inL 0 (((n : Nat) : Int) - 1) l = true) (h2 : l.length = 2) (hne : ¬ l[0] = l[1]) (g : Nat) (hg : Cyc n ks g) : Pure Try.prog 65 [bknA n ks c, intsA l d] (i64 16) := by
  have hv' := hv
  obtain ⟨hn1, hn, hkl, hk⟩ := hv'
  have hk2 := vb_lt hv
  refine pure_of_body Try.func65 (c := body Try.f65) rfl (by simp [Try.ntmps65]) fun w0 Φ0 => ?_
  refine W_seq rfl ?_
  refine W_reg rfl ?_
  refine Rv rfl rfl rfl (U_boxF rfl rfl rfl) rfl rfl ?_
  refine Rv rfl rfl rfl (U_assign rfl) rfl rfl ?_
  refine Re rfl ?_
  refine thenQ_n ?_
  refine W_seq rfl ?_
  refine W_seq rfl ?_
  refine W_reg rfl ?_
  refine Rv rfl rfl rfl (U_load2 rfl rfl rfl rfl) rfl rfl ?_
  refine Rv rfl rfl rfl (U_call rfl rfl (chkBRG_p n ks c hv h40) rfl) rfl rfl ?_
  refine Rv rfl rfl rfl (U_neq rfl rfl) rfl rfl ?_
  refine Re rfl ?_
  refine thenQ_n ?_
  refine WcondP rfl rfl (fun h => absurd h (by decide)) (fun _ => ?_)
  refine W_skip rfl ?_
  refine thenQ_n ?_
  refine W_seq rfl ?_
  refine W_seq rfl ?_
  refine W_reg rfl ?_
  refine Rv rfl rfl rfl (U_assign rfl) rfl rfl ?_
  refine Re rfl ?_
  refine thenQ_n ?_
  refine W_block rfl ?_
  refine LoopTo (T' := [(1, .ros (l.map i64) l.length d), (2, .rop [i64 ((n : Nat) : Int), .ros (ks.flatMap lkN) ks.length c] 0), (5, i64 ((0 : Nat) : Int))]) (H' := []) (n := 0) rfl (fun mz_ qz_ => ∃ (k : Nat), k ≤ l.length ∧ mz_ = l.length - k ∧ qz_ = ⟨[(1, .ros (l.map i64) l.length d), (2, .rop [i64 ((n : Nat) : Int), .ros (ks.flatMap lkN) ks.length c] 0), (5, i64 ((k : Nat) : Int))], [], 0, []⟩) ⟨0, (by omega), rfl, rfl⟩ id ⟨eD rfl rfl, eD rfl rfl, eD rfl rfl, trivial⟩ trivial rfl rfl rfl rfl (fun _ _ => rfl) ?_
  rintro _ _ ⟨k, hi0_0, rfl, rfl⟩
  refine W_seq rfl ?_
  refine W_seq rfl ?_
  refine W_reg rfl ?_
  refine Rv rfl rfl rfl (U_move rfl) rfl rfl ?_
  refine Rv rfl rfl rfl (U_move rfl) rfl rfl ?_
  refine Rv rfl rfl rfl (U_lenOf rfl len_ros) rfl rfl ?_
  refine Rv rfl rfl rfl (U_lss rfl rfl) rfl rfl ?_
  refine Re rfl ?_
  refine thenQ_n ?_
  refine WcondP rfl rfl (fun hc1 => ?_) (fun hc1 => ?_)
  · have hck : k < l.length := by omega
    refine W_skip rfl ?_
    refine thenQ_n ?_
    refine W_seq rfl ?_
    refine W_block rfl ?_
    refine W_seq rfl ?_
    refine Wdraw rfl (by kernel_rfl) (by kernel_rfl) ?_
    refine Dv rfl rfl rfl (U_load2 rfl rfl rfl rfl) rfl rfl ?_
    refine Dv rfl rfl rfl (U_move rfl) rfl rfl ?_
    refine Dv rfl rfl rfl (U_move rfl) rfl rfl ?_
    have hx1 : k < l.length := by omega
    refine Dv rfl rfl rfl (U_indexR (j := k) rfl rfl rfl hx1) rfl rfl ?_
    refine Dv rfl rfl rfl (U_load1 rfl rfl (getM hx1)) rfl rfl ?_
    refine Dv rfl rfl rfl (U_call rfl rfl (isStarG_p n ks c l[k]) rfl) rfl rfl ?_
    refine Dv rfl rfl rfl (U_not rfl) rfl rfl ?_
    refine Dr.nil rfl ?_
    refine thenQ_n ?_
    refine Wcond rfl rfl (fun hc2 => absurd hc2 (by rw [inL_at hin hck]; simp)) (fun hc2 => ?_)
    refine W_skip rfl ?_
    refine blkQ_n ?_
    refine thenQ_n ?_
    refine W_reg rfl ?_
    refine Rv rfl rfl rfl (U_move rfl) rfl rfl ?_
    refine Rv rfl rfl rfl (U_add rfl rfl (w64e (m := ((k + 1 : Nat) : Int)) (by omega) (by omega) (by omega))) rfl rfl ?_
    refine Rv rfl rfl rfl (U_assign rfl) rfl rfl ?_
    refine Re rfl ?_
    refine thenQ_n ?_
    exact againTo (T' := [(1, .ros (l.map i64) l.length d), (2, .rop [i64 ((n : Nat) : Int), .ros (ks.flatMap lkN) ks.length c] 0), (5, i64 (((k + 1) : Nat) : Int))]) (H' := []) (n := 0) (l.length - (k + 1)) ⟨k + 1, (by omega), rfl, rfl⟩ (by omega) id ⟨eD rfl rfl, eD rfl rfl, eD rfl rfl, trivial⟩ trivial rfl rfl rfl rfl (fun _ _ => rfl)
  · refine W_exit rfl ?_
    refine thenQ_x ?_
    refine thenQ_x ?_
    refine blkQ_x rfl ?_
    refine thenQ_n ?_
    refine W_seq rfl ?_
    refine W_seq rfl ?_
    refine Wdraw rfl (by kernel_rfl) (by kernel_rfl) ?_
    refine Dv rfl rfl rfl (U_move rfl) rfl rfl ?_
    refine Dv rfl rfl rfl (U_lenOf rfl len_ros) rfl rfl ?_
    refine Dv rfl rfl rfl (OpU.toB (U_eql rfl rfl) (decide_eq_true (by omega))) rfl rfl ?_
    refine Dv rfl rfl rfl (U_move rfl) rfl rfl ?_
    refine Dv rfl rfl rfl (U_move rfl) rfl rfl ?_
    have hx2 : 0 < l.length := by omega
    refine Dv rfl rfl rfl (U_indexR (j := 0) rfl rfl rfl hx2) rfl rfl ?_
    refine Dv rfl rfl rfl (U_load1 rfl rfl (getM hx2)) rfl rfl ?_
    refine Dv rfl rfl rfl (U_move rfl) rfl rfl ?_
    have hx3 : 1 < l.length := by omega
    refine Dv rfl rfl rfl (U_indexR (j := 1) rfl rfl rfl hx3) rfl rfl ?_
    refine Dv rfl rfl rfl (U_load1 rfl rfl (getM hx3)) rfl rfl ?_
    refine Dv rfl rfl rfl (OpU.toB (U_eql rfl rfl) (decide_eq_false hne)) rfl rfl ?_
    refine Dv rfl rfl rfl (U_pick_t rfl rfl) rfl rfl ?_
    refine Dr.nil rfl ?_
    refine thenQ_n ?_
    refine Wcond rfl rfl (fun h => nomatch h) (fun _ => ?_)
    refine W_skip rfl ?_
    refine thenQ_n ?_
    refine W_seq rfl ?_
    refine W_seq rfl ?_
    refine W_reg rfl ?_
    refine Rv rfl rfl rfl (U_load2 rfl rfl rfl rfl) rfl rfl ?_
    refine Rv rfl rfl rfl (U_call rfl rfl (countOf_p n ks c (by assumption)) rfl) rfl rfl ?_
    refine Rv rfl rfl rfl (U_eql rfl rfl) rfl rfl ?_
    refine Re rfl ?_
    refine thenQ_n ?_
    refine WcondP rfl rfl (fun hc4 => ?_) (fun hc4 => absurd (by rw [cnt_cyc hv hg]; rfl) hc4)
    refine W_seq rfl ?_
    refine W_reg rfl ?_
    refine Rv rfl rfl rfl (U_assign rfl) rfl rfl ?_
    refine Re rfl ?_
    refine thenQ_n ?_
    refine W_ret rfl ?_
    refine thenQ_r ?_
    exact retL (rlT rfl rl0) rfl rfl
theorem ruledR_B (n : Nat) (ks : List (Nat × Nat)) (c : Option Nat) (hv : VB n ks) (h40 : ks.length ≤ 40) (l : List Int) (d : Option Nat) (hll : l.length ≤ 1000000) (hin : inL 0 (((n : Nat) : Int) - 1) l = true) (h2 : l.length = 2) (hne : l[0] = l[1]) : Pure Try.prog 65 [bknA n ks c, intsA l d] (i64 2) := by
  have hv' := hv
  obtain ⟨hn1, hn, hkl, hk⟩ := hv'
  have hk2 := vb_lt hv
  refine pure_of_body Try.func65 (c := body Try.f65) rfl (by simp [Try.ntmps65]) fun w0 Φ0 => ?_
  refine W_seq rfl ?_
  refine W_reg rfl ?_
  refine Rv rfl rfl rfl (U_boxF rfl rfl rfl) rfl rfl ?_
  refine Rv rfl rfl rfl (U_assign rfl) rfl rfl ?_
  refine Re rfl ?_
  refine thenQ_n ?_
  refine W_seq rfl ?_
  refine W_seq rfl ?_
  refine W_reg rfl ?_
  refine Rv rfl rfl rfl (U_load2 rfl rfl rfl rfl) rfl rfl ?_
  refine Rv rfl rfl rfl (U_call rfl rfl (chkBRG_p n ks c hv h40) rfl) rfl rfl ?_
  refine Rv rfl rfl rfl (U_neq rfl rfl) rfl rfl ?_
  refine Re rfl ?_
  refine thenQ_n ?_
  refine WcondP rfl rfl (fun h => absurd h (by decide)) (fun _ => ?_)
  refine W_skip rfl ?_
  refine thenQ_n ?_
  refine W_seq rfl ?_
  refine W_seq rfl ?_
  refine W_reg rfl ?_
  refine Rv rfl rfl rfl (U_assign rfl) rfl rfl ?_
  refine Re rfl ?_
  refine thenQ_n ?_
  refine W_block rfl ?_
  refine LoopTo (T' := [(1, .ros (l.map i64) l.length d), (2, .rop [i64 ((n : Nat) : Int), .ros (ks.flatMap lkN) ks.length c] 0), (5, i64 ((0 : Nat) : Int))]) (H' := []) (n := 0) rfl (fun mz_ qz_ => ∃ (k : Nat), k ≤ l.length ∧ mz_ = l.length - k ∧ qz_ = ⟨[(1, .ros (l.map i64) l.length d), (2, .rop [i64 ((n : Nat) : Int), .ros (ks.flatMap lkN) ks.length c] 0), (5, i64 ((k : Nat) : Int))], [], 0, []⟩) ⟨0, (by omega), rfl, rfl⟩ id ⟨eD rfl rfl, eD rfl rfl, eD rfl rfl, trivial⟩ trivial rfl rfl rfl rfl (fun _ _ => rfl) ?_
  rintro _ _ ⟨k, hi0_0, rfl, rfl⟩
  refine W_seq rfl ?_
  refine W_seq rfl ?_
  refine W_reg rfl ?_
  refine Rv rfl rfl rfl (U_move rfl) rfl rfl ?_
  refine Rv rfl rfl rfl (U_move rfl) rfl rfl ?_
  refine Rv rfl rfl rfl (U_lenOf rfl len_ros) rfl rfl ?_
  refine Rv rfl rfl rfl (U_lss rfl rfl) rfl rfl ?_
  refine Re rfl ?_
  refine thenQ_n ?_
  refine WcondP rfl rfl (fun hc1 => ?_) (fun hc1 => ?_)
  · have hck : k < l.length := by omega
    refine W_skip rfl ?_
    refine thenQ_n ?_
    refine W_seq rfl ?_
    refine W_block rfl ?_
    refine W_seq rfl ?_
    refine Wdraw rfl (by kernel_rfl) (by kernel_rfl) ?_
    refine Dv rfl rfl rfl (U_load2 rfl rfl rfl rfl) rfl rfl ?_
    refine Dv rfl rfl rfl (U_move rfl) rfl rfl ?_
    refine Dv rfl rfl rfl (U_move rfl) rfl rfl ?_
    have hx1 : k < l.length := by omega
    refine Dv rfl rfl rfl (U_indexR (j := k) rfl rfl rfl hx1) rfl rfl ?_
    refine Dv rfl rfl rfl (U_load1 rfl rfl (getM hx1)) rfl rfl ?_
    refine Dv rfl rfl rfl (U_call rfl rfl (isStarG_p n ks c l[k]) rfl) rfl rfl ?_
    refine Dv rfl rfl rfl (U_not rfl) rfl rfl ?_
    refine Dr.nil rfl ?_
    refine thenQ_n ?_
    refine Wcond rfl rfl (fun hc2 => absurd hc2 (by rw [inL_at hin hck]; simp)) (fun hc2 => ?_)
    refine W_skip rfl ?_
    refine blkQ_n ?_
    refine thenQ_n ?_
    refine W_reg rfl ?_
    refine Rv rfl rfl rfl (U_move rfl) rfl rfl ?_
    refine Rv rfl rfl rfl (U_add rfl rfl (w64e (m := ((k + 1 : Nat) : Int)) (by omega) (by omega) (by omega))) rfl rfl ?_
    refine Rv rfl rfl rfl (U_assign rfl) rfl rfl ?_
    refine Re rfl ?_
    refine thenQ_n ?_
    exact againTo (T' := [(1, .ros (l.map i64) l.length d), (2, .rop [i64 ((n : Nat) : Int), .ros (ks.flatMap lkN) ks.length c] 0), (5, i64 (((k + 1) : Nat) : Int))]) (H' := []) (n := 0) (l.length - (k + 1)) ⟨k + 1, (by omega), rfl, rfl⟩ (by omega) id ⟨eD rfl rfl, eD rfl rfl, eD rfl rfl, trivial⟩ trivial rfl rfl rfl rfl (fun _ _ => rfl)
  · refine W_exit rfl ?_
    refine thenQ_x ?_
    refine thenQ_x ?_
    refine blkQ_x rfl ?_
    refine thenQ_n ?_
    refine W_seq rfl ?_
    refine W_seq rfl ?_
    refine Wdraw rfl (by kernel_rfl) (by kernel_rfl) ?_
    refine Dv rfl rfl rfl (U_move rfl) rfl rfl ?_
    refine Dv rfl rfl rfl (U_lenOf rfl len_ros) rfl rfl ?_
    refine Dv rfl rfl rfl (OpU.toB (U_eql rfl rfl) (decide_eq_true (by omega))) rfl rfl ?_
    refine Dv rfl rfl rfl (U_move rfl) rfl rfl ?_
    refine Dv rfl rfl rfl (U_move rfl) rfl rfl ?_
    have hx2 : 0 < l.length := by omega
    refine Dv rfl rfl rfl (U_indexR (j := 0) rfl rfl rfl hx2) rfl rfl ?_
    refine Dv rfl rfl rfl (U_load1 rfl rfl (getM hx2)) rfl rfl ?_
    refine Dv rfl rfl rfl (U_move rfl) rfl rfl ?_
    have hx3 : 1 < l.length := by omega
    refine Dv rfl rfl rfl (U_indexR (j := 1) rfl rfl rfl hx3) rfl rfl ?_
    refine Dv rfl rfl rfl (U_load1 rfl rfl (getM hx3)) rfl rfl ?_
    refine Dv rfl rfl rfl (OpU.toB (U_eql rfl rfl) (decide_eq_true hne)) rfl rfl ?_
    refine Dv rfl rfl rfl (U_pick_t rfl rfl) rfl rfl ?_
    refine Dr.nil rfl ?_
    refine thenQ_n ?_
    refine Wcond rfl rfl (fun _ => ?_) (fun h => nomatch h)
    refine W_seq rfl ?_
    refine W_reg rfl ?_
    refine Rv rfl rfl rfl (U_assign rfl) rfl rfl ?_
    refine Re rfl ?_
    refine thenQ_n ?_
    refine W_ret rfl ?_
    refine thenQ_r ?_
    exact retL (rlT rfl rl0) rfl rfl
theorem frac_p (a b : Nat) (ha : a ≤ 3628800) (hb : b ≤ 3628800) (hpos : 0 < b) : Pure Try.prog 72 [i64 (a : Nat), i64 (b : Nat)] (.agg [i64 ((frN a b : Nat) : Int), i64 ((frD a b : Nat) : Int)]) := by
  refine pure_of_body Try.func72 (c := body Try.f72) rfl (by simp [Try.ntmps72]) fun w0 Φ0 => ?_
  refine W_seq rfl ?_
  refine W_reg rfl ?_
  refine Ra rfl rfl rfl (U_alloc) rfl rfl rfl ?_
  refine Re rfl ?_
  refine thenQ_n ?_
  refine W_seq rfl ?_
  refine W_reg rfl ?_
  refine Rv rfl rfl rfl (U_move rfl) rfl rfl ?_
  refine Rv rfl rfl rfl (U_move rfl) rfl rfl ?_
  refine Rv rfl rfl rfl (U_assign rfl) rfl rfl ?_
  refine Rv rfl rfl rfl (U_assign rfl) rfl rfl ?_
  refine Re rfl ?_
  refine thenQ_n ?_
  refine W_seq rfl ?_
  refine W_block rfl ?_
  refine LoopTo (T' := [(0, i64 ((a : Nat) : Int)), (1, i64 ((b : Nat) : Int)), (4, .ptr 0 0), (5, i64 ((a : Nat) : Int)), (6, i64 ((b : Nat) : Int))]) (H' := [(0, some (.cells [i64 0, i64 0] 40))]) (n := 1) rfl (fun mz_ qz_ => ∃ (x : Nat) (y : Nat), Nat.gcd x y = Nat.gcd a b ∧ x ≤ 3628800 ∧ y ≤ 3628800 ∧ (0 < x ∨ 0 < y) ∧ mz_ = 0 + y ∧ qz_ = ⟨[(0, i64 ((a : Nat) : Int)), (1, i64 ((b : Nat) : Int)), (4, .ptr 0 0), (5, i64 ((x : Nat) : Int)), (6, i64 ((y : Nat) : Int))], [(0, some (.cells [i64 0, i64 0] 40))], 1, []⟩) ⟨a, b, rfl, (by omega), (by omega), (by omega), rfl, rfl⟩ id ⟨eD rfl rfl, eD rfl rfl, e_ rfl rfl, eD rfl rfl, eD rfl rfl, trivial⟩ ⟨rD rfl rfl rfl, trivial⟩ rfl rfl rfl rfl (fun _ _ => rfl) ?_
  rintro _ _ ⟨x, y, hi0_0, hi0_1, hi0_2, hi0_3, rfl, rfl⟩
  refine W_seq rfl ?_
  refine W_seq rfl ?_
  refine W_reg rfl ?_
  refine Rv rfl rfl rfl (U_move rfl) rfl rfl ?_
  refine Rv rfl rfl rfl (U_neq rfl rfl) rfl rfl ?_
  refine Re rfl ?_
  refine thenQ_n ?_
  refine WcondP rfl rfl (fun hc0 => ?_) (fun hc0 => ?_)
  · refine W_skip rfl ?_
    refine thenQ_n ?_
    refine W_block rfl ?_
    refine Wdraw rfl (by kernel_rfl) (by kernel_rfl) ?_
    refine Dv rfl rfl rfl (U_move rfl) rfl rfl ?_
    refine Dv rfl rfl rfl (U_move rfl) rfl rfl ?_
    refine Dv rfl rfl rfl (U_move rfl) rfl rfl ?_
    refine Dv rfl rfl rfl (U_rem (c := ((x % y : Nat) : Int)) rfl rfl (by omega) (tmodN _ _)) rfl rfl ?_
    refine Dv rfl rfl rfl (U_assign rfl) rfl rfl ?_
    refine Dv rfl rfl rfl (U_assign rfl) rfl rfl ?_
    refine Dr.nil rfl ?_
    refine blkQ_n ?_
    refine thenQ_n ?_
    exact againTo (T' := [(0, i64 ((a : Nat) : Int)), (1, i64 ((b : Nat) : Int)), (4, .ptr 0 0), (5, i64 ((y : Nat) : Int)), (6, i64 (((x % y) : Nat) : Int))]) (H' := [(0, some (.cells [i64 0, i64 0] 40))]) (n := 1) (0 + (x % y)) ⟨y, x % y, (by rw [gcd_step]; exact hi0_0), (by omega), (by have := Nat.mod_lt x (show y > 0 by omega); omega), (by omega), rfl, rfl⟩ (by have := Nat.mod_lt x (show y > 0 by omega); omega) id ⟨eD rfl rfl, eD rfl rfl, e_ rfl rfl, eD rfl rfl, eD rfl rfl, trivial⟩ ⟨rD rfl rfl rfl, trivial⟩ rfl rfl rfl rfl (fun _ _ => rfl)
  · rw [Decidable.not_not] at hc0
    have hy : y = 0 := by omega
    subst hy
    rw [Nat.gcd_zero_right] at hi0_0
    refine W_exit rfl ?_
    refine thenQ_x ?_
    refine thenQ_x ?_
    refine blkQ_x rfl ?_
    refine thenQ_n ?_
    refine W_seq rfl ?_
    refine Wdraw rfl (by kernel_rfl) (by kernel_rfl) ?_
    refine Dv rfl rfl rfl (U_move rfl) rfl rfl ?_
    refine Dv rfl rfl rfl (U_move rfl) rfl rfl ?_
    refine Dv rfl rfl rfl (U_quo (c := ((a / x : Nat) : Int)) rfl rfl (by omega) (wquoN (by omega))) rfl rfl ?_
    refine Dv rfl rfl rfl (U_move rfl) rfl rfl ?_
    refine Dv rfl rfl rfl (U_move rfl) rfl rfl ?_
    refine Dv rfl rfl rfl (U_quo (c := ((b / x : Nat) : Int)) rfl rfl (by omega) (wquoN (by omega))) rfl rfl ?_
    refine Dv rfl rfl rfl (U_build rfl rfl) rfl rfl ?_
    refine Dn_ rfl rfl rfl (U_storeAll rfl rfl rfl rfl rfl rfl) rfl rfl ?_
    refine Dr.nil rfl ?_
    refine thenQ_n ?_
    refine W_ret rfl ?_
    exact retL (rlA rfl rfl rfl rl0) (by first | rfl | (simp only [packA]; rw [frN, frD, ← hi0_0]; first | done | rfl)) rfl
end Go.Proofs.Ythmibifghihdaaa
end

section
namespace Go.Proofs.Ythmibifghihdaaa
set_option maxRecDepth 20000
open Go.AE
theorem withR_0 (n : Nat) (c : Option Nat) (a b : Nat) : Pure Try.prog 51 [bknA n [] c, i64 (a : Nat), i64 (b : Nat)] (bknA n [(a, b)] none) := by
  refine pure_of_body Try.func51 (c := body Try.f51) rfl (by simp [Try.ntmps51]) fun w0 Φ0 => ?_
  refine W_seq rfl ?_
  refine W_reg rfl ?_
  refine Rv rfl rfl rfl (U_boxF rfl rfl rfl) rfl rfl ?_
  refine Ra rfl rfl rfl (U_alloc) rfl rfl rfl ?_
  refine Re rfl ?_
  refine thenQ_n ?_
  refine W_seq rfl ?_
  refine WdrawL [8, 11] rfl (by kernel_rfl) (by kernel_rfl) ?_
  refine Dv rfl rfl rfl (U_fieldAddrR rfl) rfl rfl ?_
  refine Dv rfl rfl rfl (U_load1 rfl rfl rfl) rfl rfl ?_
  refine Dv rfl rfl rfl (U_buildSliceF (by rfl) (by decide) rfl rfl rfl) rfl rfl ?_
  refine Dv rfl rfl rfl (U_fieldAddrR rfl) rfl rfl ?_
  refine Dv rfl rfl rfl (U_load1 rfl rfl rfl) rfl rfl ?_
  refine Dv rfl rfl rfl (U_app0G rfl rfl lenk_ros (len0_ros rfl)) rfl rfl ?_
  refine Dv rfl rfl rfl (U_move rfl) rfl rfl ?_
  refine Dv rfl rfl rfl (U_move rfl) rfl rfl ?_
  refine Dv rfl rfl rfl (U_build rfl rfl) rfl rfl ?_
  refine Dv rfl rfl rfl (U_buildSliceF (by rfl) (by decide) rfl rfl rfl) rfl rfl ?_
  refine Da rfl rfl rfl (U_appL (news := [(a, b)].flatMap lkN) (n' := [(a, b)].length) rfl rfl rfl rfl rfl (by simp) (by simp) rfl) rfl rfl rfl rfl ?_
  refine Dv rfl rfl rfl (U_build rfl rfl) rfl rfl ?_
  refine Dn_ rfl rfl rfl (U_storeAll rfl rfl rfl rfl rfl rfl) rfl rfl ?_
  refine Dr.nil rfl ?_
  refine thenQ_n ?_
  refine WfrO 1 ([(a, b)].flatMap lkN) rfl (flatD (fun _ => rfl) _) (T' := [(6, .ptr 0 0)]) (H' := [(0, some (.cells [i64 ((n : Nat) : Int), .ros ([(a, b)].flatMap lkN) ([(a, b)].length) none] 24))]) ⟨fS rfl rfl, trivial⟩ ⟨⟨rfl, .cells (.cons (.same rfl) (.cons .out .nil))⟩, trivial⟩ ?_
  refine W_ret rfl ?_
  exact retL (rlA rfl rfl rfl rl0) rfl rfl
theorem withR_1 (n : Nat) (ks : List (Nat × Nat)) (c : Option Nat) (hl : ks.length ≤ 1000) (hp : 0 < ks.length) (a b : Nat) : Pure Try.prog 51 [bknA n ks c, i64 (a : Nat), i64 (b : Nat)] (bknA n (ks ++ [(a, b)]) none) := by
  refine pure_of_body Try.func51 (c := body Try.f51) rfl (by simp [Try.ntmps51]) fun w0 Φ0 => ?_
  refine W_seq rfl ?_
  refine W_reg rfl ?_
  refine Rv rfl rfl rfl (U_boxF rfl rfl rfl) rfl rfl ?_
  refine Ra rfl rfl rfl (U_alloc) rfl rfl rfl ?_
  refine Re rfl ?_
  refine thenQ_n ?_
  refine W_seq rfl ?_
  refine WdrawL [8, 11] rfl (by kernel_rfl) (by kernel_rfl) ?_
  refine Dv rfl rfl rfl (U_fieldAddrR rfl) rfl rfl ?_
  refine Dv rfl rfl rfl (U_load1 rfl rfl rfl) rfl rfl ?_
  refine Dv rfl rfl rfl (U_buildSliceF (by rfl) (by decide) rfl rfl rfl) rfl rfl ?_
  refine Dv rfl rfl rfl (U_fieldAddrR rfl) rfl rfl ?_
  refine Dv rfl rfl rfl (U_load1 rfl rfl rfl) rfl rfl ?_
  refine Da rfl rfl rfl (U_appL (n' := ks.length) rfl rfl rfl rfl (srcR (flat_len (z := 2) (fun _ => rfl) _)) (by omega) (by omega) rfl) rfl rfl rfl rfl ?_
  refine Dv rfl rfl rfl (U_move rfl) rfl rfl ?_
  refine Dv rfl rfl rfl (U_move rfl) rfl rfl ?_
  refine Dv rfl rfl rfl (U_build rfl rfl) rfl rfl ?_
  refine Dv rfl rfl rfl (U_buildSliceF (by rfl) (by decide) rfl rfl rfl) rfl rfl ?_
  refine Da rfl rfl rfl (U_appO (b := 1) (cs := ks.flatMap lkN) (m := 0) (cs' := (ks ++ [(a, b)]).flatMap lkN) (n' := (ks ++ [(a, b)]).length) rfl rfl (by simp) rfl (flat_len (z := 2) (fun _ => rfl) _) rfl rfl (by omega) (lkApp _ _ _) (len1 _ _)) rfl rfl rfl (upsO rfl hp) ?_
  refine Dv rfl rfl rfl (U_build rfl rfl) rfl rfl ?_
  refine Dn_ rfl rfl rfl (U_storeAll rfl rfl rfl rfl rfl rfl) rfl rfl ?_
  refine Dr.nil rfl ?_
  refine thenQ_n ?_
  refine WfrO 2 ((ks ++ [(a, b)]).flatMap lkN) rfl (flatD (fun _ => rfl) _) (T' := [(6, .ptr 0 0)]) (H' := [(0, some (.cells [i64 ((n : Nat) : Int), .ros ((ks ++ [(a, b)]).flatMap lkN) ((ks ++ [(a, b)]).length) none] 24))]) ⟨fS rfl rfl, trivial⟩ ⟨⟨rfl, .cells (.cons (.same rfl) (.cons .out .nil))⟩, trivial⟩ ?_
  refine W_ret rfl ?_
  exact retL (rlA rfl rfl rfl rl0) rfl rfl
theorem withR_p (n : Nat) (ks : List (Nat × Nat)) (c : Option Nat) (hl : ks.length ≤ 1000) (a b : Nat) : Pure Try.prog 51 [bknA n ks c, i64 (a : Nat), i64 (b : Nat)] (bknA n (ks ++ [(a, b)]) none) := by
  rcases Nat.eq_zero_or_pos ks.length with h | h
  · obtain rfl := List.eq_nil_of_length_eq_zero h
    exact withR_0 n c a b
  · exact withR_1 n ks c hl h a b
end Go.Proofs.Ythmibifghihdaaa
end

section
namespace Go.Proofs.Ythmibifghihdaaa
set_option maxRecDepth 20000
open Go.AE
def kndR (n : Nat) (ks : List (Nat × Nat)) (a b : Nat) : Int := if cntQ n (ks ++ [(a, b)]) = cntQ n ks then 2 else min ((cntQ n (ks ++ [(a, b)]) : Nat) : Int) 1
theorem kindR_e (b : Bk) (c : Option Nat) (hl : b.ls.length ≤ 1000000) (x y : Int) (e : Int) (he : e ≠ 0) (hr : Pure Try.prog 65 [bookA b c, intsA [x, y] (some 2)] (i64 e)) : Pure Try.prog 34 [bookA b c, i64 x, i64 y] (.tup [i64 0, i64 e]) := by
  refine pure_of_body Try.func34 (c := body Try.f34) rfl (by simp [Try.ntmps34]) fun w0 Φ0 => ?_
  refine W_seq rfl ?_
  refine W_reg rfl ?_
  refine Rv rfl rfl rfl (U_boxF rfl rfl rfl) rfl rfl ?_
  refine Rv rfl rfl rfl (U_assign rfl) rfl rfl ?_
  refine Rv rfl rfl rfl (U_assign rfl) rfl rfl ?_
  refine Re rfl ?_
  refine thenQ_n ?_
  refine W_seq rfl ?_
  refine W_seq rfl ?_
  refine W_reg rfl ?_
  refine Rv rfl rfl rfl (U_load2 rfl rfl rfl rfl) rfl rfl ?_
  refine Rv rfl rfl rfl (U_move rfl) rfl rfl ?_
  refine Rv rfl rfl rfl (U_move rfl) rfl rfl ?_
  refine Rv rfl rfl rfl (U_buildSliceF (by rfl) (by decide) rfl rfl rfl) rfl rfl ?_
  refine Rv rfl rfl rfl (U_call rfl rfl (hr) rfl) rfl rfl ?_
  refine Rv rfl rfl rfl (U_neq rfl rfl) rfl rfl ?_
  refine Re rfl ?_
  refine thenQ_n ?_
  refine WcondP rfl rfl (fun hc0 => ?_) (fun hc0 => absurd (he) hc0)
  refine W_seq rfl ?_
  refine W_reg rfl ?_
  refine Rv rfl rfl rfl (U_load2 rfl rfl rfl rfl) rfl rfl ?_
  refine Rv rfl rfl rfl (U_move rfl) rfl rfl ?_
  refine Rv rfl rfl rfl (U_move rfl) rfl rfl ?_
  refine Rv rfl rfl rfl (U_buildSliceF (by rfl) (by decide) rfl rfl rfl) rfl rfl ?_
  refine Rv rfl rfl rfl (U_call rfl rfl (hr) rfl) rfl rfl ?_
  refine Rv rfl rfl rfl (U_assign rfl) rfl rfl ?_
  refine Rv rfl rfl rfl (U_assign rfl) rfl rfl ?_
  refine Re rfl ?_
  refine thenQ_n ?_
  refine W_ret rfl ?_
  refine thenQ_r ?_
  exact retL (rlT rfl (rlT rfl rl0)) rfl rfl
theorem chanceR_e (b : Bk) (c : Option Nat) (hl : b.ls.length ≤ 1000000) (x y : Int) (e : Int) (he : e ≠ 0) (hr : Pure Try.prog 65 [bookA b c, intsA [x, y] (some 2)] (i64 e)) : Pure Try.prog 36 [bookA b c, i64 x, i64 y] (.tup [.agg [i64 0, i64 0], i64 e]) := by
  refine pure_of_body Try.func36 (c := body Try.f36) rfl (by simp [Try.ntmps36]) fun w0 Φ0 => ?_
  refine W_seq rfl ?_
  refine W_reg rfl ?_
  refine Rv rfl rfl rfl (U_boxF rfl rfl rfl) rfl rfl ?_
  refine Ra rfl rfl rfl (U_alloc) rfl rfl rfl ?_
  refine Rv rfl rfl rfl (U_assign rfl) rfl rfl ?_
  refine Re rfl ?_
  refine thenQ_n ?_
  refine W_seq rfl ?_
  refine W_seq rfl ?_
  refine W_reg rfl ?_
  refine Rv rfl rfl rfl (U_load2 rfl rfl rfl rfl) rfl rfl ?_
  refine Rv rfl rfl rfl (U_move rfl) rfl rfl ?_
  refine Rv rfl rfl rfl (U_move rfl) rfl rfl ?_
  refine Rv rfl rfl rfl (U_buildSliceF (by rfl) (by decide) rfl rfl rfl) rfl rfl ?_
  refine Rv rfl rfl rfl (U_call rfl rfl (hr) rfl) rfl rfl ?_
  refine Rv rfl rfl rfl (U_neq rfl rfl) rfl rfl ?_
  refine Re rfl ?_
  refine thenQ_n ?_
  refine WcondP rfl rfl (fun hc0 => ?_) (fun hc0 => absurd (he) hc0)
  refine W_seq rfl ?_
  refine W_reg rfl ?_
  refine Rv rfl rfl rfl (U_build rfl rfl) rfl rfl ?_
  refine Rv rfl rfl rfl (U_load2 rfl rfl rfl rfl) rfl rfl ?_
  refine Rv rfl rfl rfl (U_move rfl) rfl rfl ?_
  refine Rv rfl rfl rfl (U_move rfl) rfl rfl ?_
  refine Rv rfl rfl rfl (U_buildSliceF (by rfl) (by decide) rfl rfl rfl) rfl rfl ?_
  refine Rv rfl rfl rfl (U_call rfl rfl (hr) rfl) rfl rfl ?_
  refine Rn rfl rfl rfl (U_storeAll rfl rfl rfl rfl rfl rfl) rfl ?_
  refine Rv rfl rfl rfl (U_assign rfl) rfl rfl ?_
  refine Re rfl ?_
  refine thenQ_n ?_
  refine W_ret rfl ?_
  refine thenQ_r ?_
  exact retL (rlA rfl rfl rfl (rlT rfl rl0)) rfl rfl
theorem kindR_g (n : Nat) (ks : List (Nat × Nat)) (c : Option Nat) (hv : VB n ks) (h40 : ks.length ≤ 40) (ha : Acy n ks) (a b : Nat) (ha2 : a < n) (hb2 : b < n) (hab : a ≠ b) : Pure Try.prog 34 [bknA n ks c, i64 (a : Nat), i64 (b : Nat)] (.tup [i64 (kndR n ks a b), i64 0]) := by
  have hv' := hv
  obtain ⟨hn1, hn, hkl, hk⟩ := hv'
  have hk2 := vb_lt hv
  have hin := in2 ha2 hb2
  have hne : ¬ ([(a : Int), (b : Int)] : List Int)[0] = ([(a : Int), (b : Int)] : List Int)[1] := by simp; omega
  have hv2 := vb_snoc hv (by omega) ha2 hb2 hab
  have hle := cntQ_le hv
  have hle2 := cntQ_le hv2
  have hcp := cnt_acy hv ha
  refine pure_of_body Try.func34 (c := body Try.f34) rfl (by simp [Try.ntmps34]) fun w0 Φ0 => ?_
  refine W_seq rfl ?_
  refine W_reg rfl ?_
  refine Rv rfl rfl rfl (U_boxF rfl rfl rfl) rfl rfl ?_
  refine Rv rfl rfl rfl (U_assign rfl) rfl rfl ?_
  refine Rv rfl rfl rfl (U_assign rfl) rfl rfl ?_
  refine Re rfl ?_
  refine thenQ_n ?_
  refine W_seq rfl ?_
  refine W_seq rfl ?_
  refine W_reg rfl ?_
  refine Rv rfl rfl rfl (U_load2 rfl rfl rfl rfl) rfl rfl ?_
  refine Rv rfl rfl rfl (U_move rfl) rfl rfl ?_
  refine Rv rfl rfl rfl (U_move rfl) rfl rfl ?_
  refine Rv rfl rfl rfl (U_buildSliceF (by rfl) (by decide) rfl rfl rfl) rfl rfl ?_
  refine Rv rfl rfl rfl (U_call rfl rfl (ruledR_DG n ks c hv h40 [(a : Int), (b : Int)] (some 2) (by simp) hin rfl hne ha) rfl) rfl rfl ?_
  refine Rv rfl rfl rfl (U_neq rfl rfl) rfl rfl ?_
  refine Re rfl ?_
  refine thenQ_n ?_
  refine WcondP rfl rfl (fun h => absurd h (by decide)) (fun _ => ?_)
  refine W_skip rfl ?_
  refine thenQ_n ?_
  refine W_seq rfl ?_
  refine W_reg rfl ?_
  refine Rv rfl rfl rfl (U_load2 rfl rfl rfl rfl) rfl rfl ?_
  refine Rv rfl rfl rfl (U_move rfl) rfl rfl ?_
  refine Rv rfl rfl rfl (U_move rfl) rfl rfl ?_
  refine Rv rfl rfl rfl (U_call rfl rfl (withR_p n ks c (by omega) a b) rfl) rfl rfl ?_
  refine Rv rfl rfl rfl (U_call rfl rfl (countOf_p n (ks ++ [(a, b)]) none (by assumption)) rfl) rfl rfl ?_
  refine Rv rfl rfl rfl (U_assign rfl) rfl rfl ?_
  refine Re rfl ?_
  refine thenQ_n ?_
  refine W_seq rfl ?_
  refine W_seq rfl ?_
  refine W_reg rfl ?_
  refine Rv rfl rfl rfl (U_move rfl) rfl rfl ?_
  refine Rv rfl rfl rfl (U_load2 rfl rfl rfl rfl) rfl rfl ?_
  refine Rv rfl rfl rfl (U_call rfl rfl (countOf_p n ks c (by assumption)) rfl) rfl rfl ?_
  refine Rv rfl rfl rfl (U_eql rfl rfl) rfl rfl ?_
  refine Re rfl ?_
  refine thenQ_n ?_
  refine WcondP rfl rfl (fun hc1 => ?_) (fun hc1 => ?_)
  · refine W_seq rfl ?_
    refine W_reg rfl ?_
    refine Rv rfl rfl rfl (U_assign rfl) rfl rfl ?_
    refine Rv rfl rfl rfl (U_assign rfl) rfl rfl ?_
    refine Re rfl ?_
    refine thenQ_n ?_
    refine W_ret rfl ?_
    refine thenQ_r ?_
    exact retL (rlT rfl (rlT rfl rl0)) (by first | rfl | (simp only [packA]; rw [kndR, if_pos (by omega)]; first | done | rfl) | (simp only [packA]; rw [kndR, if_neg (by omega)]; first | done | rfl)) rfl
  · refine W_skip rfl ?_
    refine thenQ_n ?_
    refine W_seq rfl ?_
    refine W_reg rfl ?_
    refine Rv rfl rfl rfl (U_move rfl) rfl rfl ?_
    refine Rv rfl rfl rfl (U_min rfl rfl rfl) rfl rfl ?_
    refine Rv rfl rfl rfl (U_assign rfl) rfl rfl ?_
    refine Rv rfl rfl rfl (U_assign rfl) rfl rfl ?_
    refine Re rfl ?_
    refine thenQ_n ?_
    refine W_ret rfl ?_
    exact retL (rlT rfl (rlT rfl rl0)) (by first | rfl | (simp only [packA]; rw [kndR, if_pos (by omega)]; first | done | rfl) | (simp only [packA]; rw [kndR, if_neg (by omega)]; first | done | rfl)) rfl
theorem chanceR_g (n : Nat) (ks : List (Nat × Nat)) (c : Option Nat) (hv : VB n ks) (h40 : ks.length ≤ 40) (ha : Acy n ks) (a b : Nat) (ha2 : a < n) (hb2 : b < n) (hab : a ≠ b) : Pure Try.prog 36 [bknA n ks c, i64 (a : Nat), i64 (b : Nat)] (.tup [.agg [i64 ((frN (cntQ n (ks ++ [(a, b)])) (cntQ n ks) : Nat) : Int), i64 ((frD (cntQ n (ks ++ [(a, b)])) (cntQ n ks) : Nat) : Int)], i64 0]) := by
  have hv' := hv
  obtain ⟨hn1, hn, hkl, hk⟩ := hv'
  have hk2 := vb_lt hv
  have hin := in2 ha2 hb2
  have hne : ¬ ([(a : Int), (b : Int)] : List Int)[0] = ([(a : Int), (b : Int)] : List Int)[1] := by simp; omega
  have hv2 := vb_snoc hv (by omega) ha2 hb2 hab
  have hle := cntQ_le hv
  have hle2 := cntQ_le hv2
  have hcp := cnt_acy hv ha
  refine pure_of_body Try.func36 (c := body Try.f36) rfl (by simp [Try.ntmps36]) fun w0 Φ0 => ?_
  refine W_seq rfl ?_
  refine W_reg rfl ?_
  refine Rv rfl rfl rfl (U_boxF rfl rfl rfl) rfl rfl ?_
  refine Ra rfl rfl rfl (U_alloc) rfl rfl rfl ?_
  refine Rv rfl rfl rfl (U_assign rfl) rfl rfl ?_
  refine Re rfl ?_
  refine thenQ_n ?_
  refine W_seq rfl ?_
  refine W_seq rfl ?_
  refine W_reg rfl ?_
  refine Rv rfl rfl rfl (U_load2 rfl rfl rfl rfl) rfl rfl ?_
  refine Rv rfl rfl rfl (U_move rfl) rfl rfl ?_
  refine Rv rfl rfl rfl (U_move rfl) rfl rfl ?_
  refine Rv rfl rfl rfl (U_buildSliceF (by rfl) (by decide) rfl rfl rfl) rfl rfl ?_
  refine Rv rfl rfl rfl (U_call rfl rfl (ruledR_DG n ks c hv h40 [(a : Int), (b : Int)] (some 2) (by simp) hin rfl hne ha) rfl) rfl rfl ?_
  refine Rv rfl rfl rfl (U_neq rfl rfl) rfl rfl ?_
  refine Re rfl ?_
  refine thenQ_n ?_
  refine WcondP rfl rfl (fun h => absurd h (by decide)) (fun _ => ?_)
  refine W_skip rfl ?_
  refine thenQ_n ?_
  refine W_seq rfl ?_
  refine Wdraw rfl (by kernel_rfl) (by kernel_rfl) ?_
  refine Dv rfl rfl rfl (U_load2 rfl rfl rfl rfl) rfl rfl ?_
  refine Dv rfl rfl rfl (U_move rfl) rfl rfl ?_
  refine Dv rfl rfl rfl (U_move rfl) rfl rfl ?_
  refine Dv rfl rfl rfl (U_call rfl rfl (withR_p n ks c (by omega) a b) rfl) rfl rfl ?_
  refine Dv rfl rfl rfl (U_call rfl rfl (countOf_p n (ks ++ [(a, b)]) none (by assumption)) rfl) rfl rfl ?_
  refine Dv rfl rfl rfl (U_load2 rfl rfl rfl rfl) rfl rfl ?_
  refine Dv rfl rfl rfl (U_call rfl rfl (countOf_p n ks c (by assumption)) rfl) rfl rfl ?_
  refine Dv rfl rfl rfl (U_call rfl rfl (frac_p (cntQ n (ks ++ [(a, b)])) (cntQ n ks) (by omega) (by omega) (by omega)) rfl) rfl rfl ?_
  refine Dn_ rfl rfl rfl (U_storeAll rfl rfl rfl rfl rfl rfl) rfl rfl ?_
  refine Dv rfl rfl rfl (U_assign rfl) rfl rfl ?_
  refine Dr.nil rfl ?_
  refine thenQ_n ?_
  refine W_ret rfl ?_
  exact retL (rlA rfl rfl rfl (rlT rfl rl0)) rfl rfl
end Go.Proofs.Ythmibifghihdaaa
end

section
namespace Go.Proofs.Ythmibifghihdaaa
set_option maxRecDepth 20000
open Go.AE
def grt (b : Bk) : Bool := decide ((50 : Int) < b.ls.length)
theorem great_p (b : Bk) (c : Option Nat) : Pure Try.prog 18 [bookA b c] (.bool (grt b)) := by
  refine pure_of_body Try.func18 (c := body Try.f18) rfl (by simp [Try.ntmps18]) fun w0 Φ0 => ?_
  refine W_seq rfl ?_
  refine W_reg rfl ?_
  refine Rv rfl rfl rfl (U_boxF rfl rfl rfl) rfl rfl ?_
  refine Rv rfl rfl rfl (U_assign rfl) rfl rfl ?_
  refine Re rfl ?_
  refine thenQ_n ?_
  refine W_seq rfl ?_
  refine W_reg rfl ?_
  refine Rv rfl rfl rfl (U_fieldAddrR rfl) rfl rfl ?_
  refine Rv rfl rfl rfl (U_load1 rfl rfl rfl) rfl rfl ?_
  refine Rv rfl rfl rfl (U_lenOf rfl len_ros) rfl rfl ?_
  refine Rv rfl rfl rfl (U_gtr rfl rfl) rfl rfl ?_
  refine Rv rfl rfl rfl (U_assign rfl) rfl rfl ?_
  refine Re rfl ?_
  refine thenQ_n ?_
  refine W_ret rfl ?_
  exact retL (rlT rfl rl0) (by first | rfl | (simp only [packA]; rfl; first | done | rfl)) rfl
end Go.Proofs.Ythmibifghihdaaa
end

section
namespace Go.Proofs.Ythmibifghihdaaa
set_option maxRecDepth 20000
open Go.AE
section
variable {n : Nat} {ks : List (Nat × Nat)}
theorem oll_isP (hv : VB n ks) : ∀ o ∈ oll n ks, IsP n o := fun o ho => by
  have := (oll_mem hv).1 ho; exact ⟨this.1, this.2.1, this.2.2.1⟩
theorem prt_oll (hv : VB n ks) {x y : Nat} (hv2 : VB n (ks ++ [(x, y)])) : (prt (oll n ks) x y).length = cntQ n (ks ++ [(x, y)]) := by
  rw [← oll_len hv2]
  refine (nodup_permL (List.Pairwise.filter _ oll_nodup) oll_nodup fun o => ?_).length_eq
  rw [List.mem_filter, oll_mem hv, oll_mem hv2]
  simp only [prtB, decide_eq_true_eq]
  constructor
  · rintro ⟨⟨h1, h2, h3, h4⟩, h5⟩
    refine ⟨h1, h2, h3, fun p hp => ?_⟩
    rcases List.mem_append.1 hp with h | h
    · exact h4 p h
    · simp at h; subst h; exact h5
  · rintro ⟨h1, h2, h3, h4⟩
    exact ⟨⟨h1, h2, h3, fun p hp => h4 p (List.mem_append_left _ hp)⟩, h4 (x, y) (by simp)⟩
theorem cnt_split (hv : VB n ks) {x y : Nat} (hv1 : VB n (ks ++ [(x, y)])) (hv2 : VB n (ks ++ [(y, x)])) : cntQ n (ks ++ [(x, y)]) + cntQ n (ks ++ [(y, x)]) = cntQ n ks := by
  have h := hv1.2.2.2 (x, y) (by simp)
  rw [← prt_oll hv hv1, ← prt_oll hv hv2, ← oll_len hv]
  exact prt_sum (oll_isP hv) h.1 h.2.2
theorem faQ_bt (hv : VB n ks) {a b : Nat} : bt ((faQ n ks).g a) b = true ↔ Pth ks a b := by rw [bt_eq]; exact faQ_tb hv
theorem knd_same (hv : VB n ks) (h40 : ks.length ≤ 40) (ha : Acy n ks) {a b : Nat} (ha2 : a < n) (hb2 : b < n) (hab : a ≠ b) : kndQ (faQ n ks) a b = kndR n ks a b := by
  have hv1 := vb_snoc hv (by omega) ha2 hb2 hab
  have hv2 := vb_snoc hv (by omega) hb2 ha2 (Ne.symm hab)
  have hs := cnt_split hv hv1 hv2
  have hp := cnt_acy hv ha
  have i1 := cnt_pos_iff hv1
  have i2 := cnt_pos_iff hv2
  rw [acy_add hv ha hv1] at i1
  rw [acy_add hv ha hv2] at i2
  unfold kndQ kndR
  by_cases h1 : Pth ks a b
  · rw [if_pos ((faQ_bt hv).2 h1), if_pos]
    have : ¬ 0 < cntQ n (ks ++ [(b, a)]) := fun h => i2.1 h h1
    omega
  · rw [if_neg fun h => h1 ((faQ_bt hv).1 h)]
    have h3 := i2.2 h1
    rw [if_neg (show ¬ cntQ n (ks ++ [(a, b)]) = cntQ n ks by omega)]
    by_cases h2 : Pth ks b a
    · rw [if_pos ((faQ_bt hv).2 h2)]
      have : ¬ 0 < cntQ n (ks ++ [(a, b)]) := fun h => i1.1 h h2
      omega
    · rw [if_neg fun h => h2 ((faQ_bt hv).1 h)]
      have := i1.2 h2
      omega
end
theorem rul2 (b : Bk) (c : Option Nat) (hl : b.ls.length ≤ 1000000) (x y : Int) : (∃ e : Int, e ≠ 0 ∧ Pure Try.prog 63 [bookA b c, intsA [x, y] (some 2)] (.tup [.nilp, i64 e]) ∧ Pure Try.prog 65 [bookA b c, intsA [x, y] (some 2)] (i64 e)) ∨ ∃ (n : Nat) (ks : List (Nat × Nat)), b = ⟨n, ks.map cP⟩ ∧ VB n ks ∧ ks.length ≤ 40 ∧ Acy n ks ∧ ∃ a d : Nat, x = a ∧ y = d ∧ a < n ∧ d < n ∧ a ≠ d := by
  by_cases hE : chkB b = 0
  · obtain ⟨n, ks, rfl, hv, h40⟩ := chkB_ok hE
    cases hin : inL 0 (((n : Nat) : Int) - 1) [x, y] with
    | false =>
      refine .inl ⟨2, by decide, ?_, ?_⟩
      · rw [bk_eq]; exact ruledA_p n ks c hv h40 [x, y] (some 2) (by simp) hin
      · rw [bk_eq]; exact ruledR_A n ks c hv h40 [x, y] (some 2) (by simp) hin
    | true =>
      by_cases hxy : x = y
      · refine .inl ⟨2, by decide, ?_, ?_⟩
        · rw [bk_eq]; exact ruledB_p n ks c hv h40 x y (some 2) hin hxy
        · rw [bk_eq]; exact ruledR_B n ks c hv h40 [x, y] (some 2) (by simp) hin rfl hxy
      · rcases acy_or n ks with ha | ⟨g, hg⟩
        · have h1 : (0 ≤ x ∧ x ≤ n - 1) ∧ (0 ≤ y ∧ y ≤ n - 1) := by simpa [inL] using hin
          exact .inr ⟨n, ks, rfl, hv, h40, ha, x.toNat, y.toNat, by omega, by omega, by omega, by omega, by omega⟩
        · refine .inl ⟨16, by decide, ?_, ?_⟩
          · rw [bk_eq]; exact ruledDY_p n ks c hv h40 x y (some 2) hin hxy g hg
          · rw [bk_eq]; exact ruledR_DY n ks c hv h40 [x, y] (some 2) (by simp) hin rfl hxy g hg
  · exact .inl ⟨chkB b, hE, ruledE_p b c hl hE [x, y] (some 2), ruledR_e b c hl hE [x, y] (some 2) (by simp)⟩
theorem t_kind (b : Bk) (c : Option Nat) (hl : b.ls.length ≤ 1000000) (x y : Int) : ∃ (k e : Int), Pure Try.prog 33 [bookA b c, i64 x, i64 y] (.tup [i64 k, i64 e]) ∧ Pure Try.prog 34 [bookA b c, i64 x, i64 y] (.tup [i64 k, i64 e]) := by
  rcases rul2 b c hl x y with ⟨e, he, h1, h2⟩ | ⟨n, ks, rfl, hv, h40, ha, a, d, rfl, rfl, ha2, hd2, had⟩
  · exact ⟨0, e, kind_e b c hl x y e he h1, kindR_e b c hl x y e he h2⟩
  · refine ⟨kndR n ks a d, 0, ?_, ?_⟩
    · rw [bk_eq, ← knd_same hv h40 ha ha2 hd2 had]; exact kind_g n ks c hv h40 ha a d ha2 hd2 had
    · rw [bk_eq]; exact kindR_g n ks c hv h40 ha a d ha2 hd2 had
theorem t_chance (b : Bk) (c : Option Nat) (hl : b.ls.length ≤ 1000000) (x y : Int) : ∃ (p q e : Int), Pure Try.prog 35 [bookA b c, i64 x, i64 y] (.tup [.agg [i64 p, i64 q], i64 e]) ∧ Pure Try.prog 36 [bookA b c, i64 x, i64 y] (.tup [.agg [i64 p, i64 q], i64 e]) := by
  rcases rul2 b c hl x y with ⟨e, he, h1, h2⟩ | ⟨n, ks, rfl, hv, h40, ha, a, d, rfl, rfl, ha2, hd2, had⟩
  · exact ⟨0, 0, e, chance_e b c hl x y e he h1, chanceR_e b c hl x y e he h2⟩
  · have hv1 := vb_snoc hv (by omega) ha2 hd2 had
    refine ⟨(frN (cntQ n (ks ++ [(a, d)])) (cntQ n ks) : Nat), (frD (cntQ n (ks ++ [(a, d)])) (cntQ n ks) : Nat), 0, ?_, ?_⟩
    · rw [bk_eq]
      rcases acy_or n (ks ++ [(a, d)]) with h | ⟨g, hg⟩
      · exact chance_gA n ks c hv h40 ha a d ha2 hd2 had (cnt_acy hv ha) h
      · rw [cnt_cyc hv1 hg]; exact chance_gY n ks c hv h40 ha a d ha2 hd2 had (cnt_acy hv ha) g hg
    · rw [bk_eq]; exact chanceR_g n ks c hv h40 ha a d ha2 hd2 had
end Go.Proofs.Ythmibifghihdaaa
end

section
namespace Go.Proofs.Ythmibifghihdaaa
set_option maxRecDepth 20000
open Go.AE
theorem great_T (b : Bk) (c : Option Nat) (h : grt b = true) : Pure Try.prog 18 [bookA b c] (.bool true) := by have := great_p b c; rwa [h] at this
theorem great_F (b : Bk) (c : Option Nat) (h : grt b = false) : Pure Try.prog 18 [bookA b c] (.bool false) := by have := great_p b c; rwa [h] at this
theorem grt_l {b : Bk} (h : grt b = false) : b.ls.length ≤ 1000000 := by simp [grt] at h; omega
theorem kinds_a (b : Bk) (c : Option Nat) (hg : grt b = true) (x y : Int) : Pure Try.prog 5 [bookA b c, i64 x, i64 y] (.bool true) := by
  refine pure_of_body Try.func5 (c := body Try.f5) rfl (by simp [Try.ntmps5]) fun w0 Φ0 => ?_
  refine W_seq rfl ?_
  refine W_reg rfl ?_
  refine Rv rfl rfl rfl (U_boxF rfl rfl rfl) rfl rfl ?_
  refine Rv rfl rfl rfl (U_assign rfl) rfl rfl ?_
  refine Re rfl ?_
  refine thenQ_n ?_
  refine W_seq rfl ?_
  refine W_seq rfl ?_
  refine W_reg rfl ?_
  refine Rv rfl rfl rfl (U_load2 rfl rfl rfl rfl) rfl rfl ?_
  refine Rv rfl rfl rfl (U_call rfl rfl (great_T b c hg) rfl) rfl rfl ?_
  refine Re rfl ?_
  refine thenQ_n ?_
  refine Wcond rfl rfl (fun _ => ?_) (fun h => nomatch h)
  refine W_seq rfl ?_
  refine W_reg rfl ?_
  refine Rv rfl rfl rfl (U_call rfl rfl (works_p) rfl) rfl rfl ?_
  refine Rv rfl rfl rfl (U_assign rfl) rfl rfl ?_
  refine Re rfl ?_
  refine thenQ_n ?_
  refine W_ret rfl ?_
  refine thenQ_r ?_
  exact retL (rlT rfl rl0) rfl rfl
theorem kinds_b (b : Bk) (c : Option Nat) (hg : grt b = false) (hl : b.ls.length ≤ 1000000) (x y : Int) (k e p q e2 : Int) (h33 : Pure Try.prog 33 [bookA b c, i64 x, i64 y] (.tup [i64 k, i64 e])) (h34 : Pure Try.prog 34 [bookA b c, i64 x, i64 y] (.tup [i64 k, i64 e])) (h35 : Pure Try.prog 35 [bookA b c, i64 x, i64 y] (.tup [.agg [i64 p, i64 q], i64 e2])) (h36 : Pure Try.prog 36 [bookA b c, i64 x, i64 y] (.tup [.agg [i64 p, i64 q], i64 e2])) : Pure Try.prog 5 [bookA b c, i64 x, i64 y] (.bool true) := by
  refine pure_of_body Try.func5 (c := body Try.f5) rfl (by simp [Try.ntmps5]) fun w0 Φ0 => ?_
  refine W_seq rfl ?_
  refine W_reg rfl ?_
  refine Rv rfl rfl rfl (U_boxF rfl rfl rfl) rfl rfl ?_
  refine Rv rfl rfl rfl (U_assign rfl) rfl rfl ?_
  refine Re rfl ?_
  refine thenQ_n ?_
  refine W_seq rfl ?_
  refine W_seq rfl ?_
  refine W_reg rfl ?_
  refine Rv rfl rfl rfl (U_load2 rfl rfl rfl rfl) rfl rfl ?_
  refine Rv rfl rfl rfl (U_call rfl rfl (great_F b c hg) rfl) rfl rfl ?_
  refine Re rfl ?_
  refine thenQ_n ?_
  refine Wcond rfl rfl (fun h => nomatch h) (fun _ => ?_)
  refine W_skip rfl ?_
  refine thenQ_n ?_
  refine W_seq rfl ?_
  refine W_reg rfl ?_
  refine Rv rfl rfl rfl (U_load2 rfl rfl rfl rfl) rfl rfl ?_
  refine Rv rfl rfl rfl (U_move rfl) rfl rfl ?_
  refine Rv rfl rfl rfl (U_move rfl) rfl rfl ?_
  refine Rv rfl rfl rfl (U_call rfl rfl (h33) rfl) rfl rfl ?_
  refine Rv rfl rfl rfl (U_move rfl) rfl rfl ?_
  refine Rv rfl rfl rfl (U_extract rfl rfl) rfl rfl ?_
  refine Rv rfl rfl rfl (U_extract rfl rfl) rfl rfl ?_
  refine Rv rfl rfl rfl (U_assign rfl) rfl rfl ?_
  refine Rv rfl rfl rfl (U_assign rfl) rfl rfl ?_
  refine Re rfl ?_
  refine thenQ_n ?_
  refine W_seq rfl ?_
  refine W_reg rfl ?_
  refine Rv rfl rfl rfl (U_load2 rfl rfl rfl rfl) rfl rfl ?_
  refine Rv rfl rfl rfl (U_move rfl) rfl rfl ?_
  refine Rv rfl rfl rfl (U_move rfl) rfl rfl ?_
  refine Rv rfl rfl rfl (U_call rfl rfl (h34) rfl) rfl rfl ?_
  refine Rv rfl rfl rfl (U_move rfl) rfl rfl ?_
  refine Rv rfl rfl rfl (U_extract rfl rfl) rfl rfl ?_
  refine Rv rfl rfl rfl (U_extract rfl rfl) rfl rfl ?_
  refine Rv rfl rfl rfl (U_assign rfl) rfl rfl ?_
  refine Rv rfl rfl rfl (U_assign rfl) rfl rfl ?_
  refine Re rfl ?_
  refine thenQ_n ?_
  refine W_seq rfl ?_
  refine W_reg rfl ?_
  refine Rv rfl rfl rfl (U_load2 rfl rfl rfl rfl) rfl rfl ?_
  refine Rv rfl rfl rfl (U_move rfl) rfl rfl ?_
  refine Rv rfl rfl rfl (U_move rfl) rfl rfl ?_
  refine Rv rfl rfl rfl (U_call rfl rfl (h35) rfl) rfl rfl ?_
  refine Rv rfl rfl rfl (U_move rfl) rfl rfl ?_
  refine Rv rfl rfl rfl (U_extract rfl rfl) rfl rfl ?_
  refine Rv rfl rfl rfl (U_extract rfl rfl) rfl rfl ?_
  refine Ra rfl rfl rfl (U_alloc) rfl rfl rfl ?_
  refine Rn rfl rfl rfl (U_storeAll rfl rfl rfl rfl rfl rfl) rfl ?_
  refine Rv rfl rfl rfl (U_assign rfl) rfl rfl ?_
  refine Re rfl ?_
  refine thenQ_n ?_
  refine WfrN 0 rfl rfl (T' := [(1, i64 x), (2, i64 y), (3, .rop [i64 b.n, .ros (b.ls.flatMap lkC) b.ls.length c] 0), (7, i64 k), (8, i64 e), (9, i64 k), (10, i64 e), (11, .rop [i64 p, i64 q] 0), (12, i64 e2)]) (H' := []) ⟨⟨_, rfl, rfl⟩, ⟨_, rfl, rfl⟩, ⟨_, rfl, rfl⟩, ⟨_, rfl, rfl⟩, ⟨_, rfl, rfl⟩, ⟨_, rfl, rfl⟩, ⟨_, rfl, rfl⟩, ⟨_, rfl, rfl⟩, ⟨_, rfl, rfl⟩, trivial⟩ trivial ?_
  refine W_seq rfl ?_
  refine W_reg rfl ?_
  refine Rv rfl rfl rfl (U_load2 rfl rfl rfl rfl) rfl rfl ?_
  refine Rv rfl rfl rfl (U_move rfl) rfl rfl ?_
  refine Rv rfl rfl rfl (U_move rfl) rfl rfl ?_
  refine Rv rfl rfl rfl (U_call rfl rfl (h36) rfl) rfl rfl ?_
  refine Rv rfl rfl rfl (U_move rfl) rfl rfl ?_
  refine Rv rfl rfl rfl (U_extract rfl rfl) rfl rfl ?_
  refine Rv rfl rfl rfl (U_extract rfl rfl) rfl rfl ?_
  refine Ra rfl rfl rfl (U_alloc) rfl rfl rfl ?_
  refine Rn rfl rfl rfl (U_storeAll rfl rfl rfl rfl rfl rfl) rfl ?_
  refine Rv rfl rfl rfl (U_assign rfl) rfl rfl ?_
  refine Re rfl ?_
  refine thenQ_n ?_
  refine WfrN 1 rfl rfl (T' := [(7, i64 k), (8, i64 e), (9, i64 k), (10, i64 e), (11, .rop [i64 p, i64 q] 0), (12, i64 e2), (13, .rop [i64 p, i64 q] 0), (14, i64 e2)]) (H' := []) ⟨⟨_, rfl, rfl⟩, ⟨_, rfl, rfl⟩, ⟨_, rfl, rfl⟩, ⟨_, rfl, rfl⟩, ⟨_, rfl, rfl⟩, ⟨_, rfl, rfl⟩, ⟨_, rfl, rfl⟩, ⟨_, rfl, rfl⟩, trivial⟩ trivial ?_
  refine W_seq rfl ?_
  refine W_reg rfl ?_
  refine Rv rfl rfl rfl (U_move rfl) rfl rfl ?_
  refine Rv rfl rfl rfl (U_move rfl) rfl rfl ?_
  refine Rv rfl rfl rfl (U_eqlS rfl rfl) rfl rfl ?_
  refine Rv rfl rfl rfl (U_move rfl) rfl rfl ?_
  refine Rv rfl rfl rfl (U_move rfl) rfl rfl ?_
  refine Rv rfl rfl rfl (U_move rfl) rfl rfl ?_
  refine Rv rfl rfl rfl (U_eqlS rfl rfl) rfl rfl ?_
  refine Rv rfl rfl rfl (U_pick_t rfl rfl) rfl rfl ?_
  refine Rv rfl rfl rfl (U_move rfl) rfl rfl ?_
  refine Rv rfl rfl rfl (U_load2 rfl rfl rfl rfl) rfl rfl ?_
  refine Rv rfl rfl rfl (U_load2 rfl rfl rfl rfl) rfl rfl ?_
  refine Rv rfl rfl rfl (U_eqlAS rfl rfl rfl rfl) rfl rfl ?_
  refine Rv rfl rfl rfl (U_pick_t rfl rfl) rfl rfl ?_
  refine Rv rfl rfl rfl (U_move rfl) rfl rfl ?_
  refine Rv rfl rfl rfl (U_move rfl) rfl rfl ?_
  refine Rv rfl rfl rfl (U_move rfl) rfl rfl ?_
  refine Rv rfl rfl rfl (U_eqlS rfl rfl) rfl rfl ?_
  refine Rv rfl rfl rfl (U_pick_t rfl rfl) rfl rfl ?_
  refine Rv rfl rfl rfl (U_move rfl) rfl rfl ?_
  refine Rv rfl rfl rfl (U_call rfl rfl (works_p) rfl) rfl rfl ?_
  refine Rv rfl rfl rfl (U_pick_t rfl rfl) rfl rfl ?_
  refine Rv rfl rfl rfl (U_assign rfl) rfl rfl ?_
  refine Re rfl ?_
  refine thenQ_n ?_
  refine W_ret rfl ?_
  exact retL (rlT rfl rl0) rfl rfl
theorem rankKinds_p (b : Bk) (c : Option Nat) (x y : Int) : Pure Try.prog 5 [bookA b c, i64 x, i64 y] (.bool true) := by
  cases hg : grt b with
  | true => exact kinds_a b c hg x y
  | false =>
    have hl := grt_l hg
    obtain ⟨k, e, h1, h2⟩ := t_kind b c hl x y
    obtain ⟨p, q, e2, h3, h4⟩ := t_chance b c hl x y
    exact kinds_b b c hg hl x y k e p q e2 h1 h2 h3 h4
end Go.Proofs.Ythmibifghihdaaa
end
