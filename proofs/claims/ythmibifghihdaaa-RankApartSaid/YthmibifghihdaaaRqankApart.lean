import Derived.IntWalk
import Derived.Test.YthmibifghihdaaaM5
set_option linter.all false
section
namespace Go.AE
open Go.RowKit
section
variable {ρ : Env} {Φ : Fz} {w : World}
end
section
variable {C : Ctx} {o : Oper} {T : AT} {H : AH} {nx nx' : Nat} {v : AV} {ups : AH}
end
section ops
variable {C : Ctx} {T : AT} {H : AH} {nx : Nat} {d : Option Tmp} {ty : TypeId} {pos : String} {after : Array Edge} {g : Option (Nat × Bool)}
section num
variable {x y : Operand} {k : IntKind} {a b c : Int} {t t' : TypeId}
theorem U_leq (hx : ev T x = some (.int k a)) (hy : ev T y = some (.int k b)) : OpU C ⟨d, .binOp .leq t x y t', ty, pos, after, g⟩ T H nx (.bool (decide (a ≤ b))) [] nx :=
  binInt hx hy rfl (by simp) fun w => ⟨.bool (decide (a ≤ b)), by simp [binOp, Op.intCmp], fun _ _ => mk_bool⟩
end num
end ops
end Go.AE
end

section
namespace Go.AE
open Go.RowKit
section ops
variable {C : Ctx} {T : AT} {H : AH} {nx : Nat} {d : Option Tmp} {ty : TypeId} {pos : String} {after : Array Edge} {g : Option (Nat × Bool)}
end ops
section steps
variable {C : Ctx} {T : AT} {H : AH} {nx : Nat} {df : List Nat} {ops : Array Oper} {i : Nat} {K : St → Prop} {o : Oper} {v : AV} {ups : AH} {nx' t : Nat} {c : Bool}
end steps
section dsteps
variable {al : Nat × ABlk} {C : Ctx} {kl : Oper → Nat} {ops : List Oper} {ms : List Nat} {H0 : AH} {K : AT → AH → Nat → Prop} {i : Nat} {T : AT} {D : List (Nat × AH)} {nx nx' t : Nat} {o : Oper} {v : AV} {ups : AH} {c : Bool}
end dsteps
section codes
variable {C : Ctx} {c : Code} {Q : Exit → St → Prop} {T : AT} {H : AH} {nx : Nat} {df : List Nat}
theorem WdrawL (l : List Nat) (h : c.tag = 2) (hm : C.P.follows .mixedOrders = true) (hck : chk (light l) c.ops.toList (masks c.ops.toList) = true)
    (k : Dr (al := al0) C (light l) c.ops.toList (masks c.ops.toList) H (fun T H nx => Q .normal ⟨T, H, nx, df⟩) 0 T [] nx) : WpA C c Q ⟨T, H, nx, df⟩ := W_draw h hm hck k
end codes
section ops
variable {C : Ctx} {T : AT} {H : AH} {nx : Nat} {d : Option Tmp} {ty : TypeId} {pos : String} {after : Array Edge} {g : Option (Nat × Bool)}
end ops
end Go.AE
end

section
namespace Go.AE
open Go.RowKit
mutual
def AV.plain : AV → Bool
  | .bool _ | .int _ _ | .str _ | .nilp | .nils | .nilm | .nilf | .nili => true
  | .agg cs | .tup cs => plainL cs
  | _ => false
def plainL : List AV → Bool
  | [] => true
  | v :: vs => v.plain && plainL vs
end
mutual
theorem Con.plain {ρ ρ' : Env} {Φ Φ' : Fz} {w w' : World} : ∀ (v : AV) {x : Value}, v.plain = true → Con ρ Φ w v x → Con ρ' Φ' w' v x
  | .bool _, _, _, h | .int _ _, _, _, h | .str _, _, _, h | .nilp, _, _, h | .nils, _, _, h | .nilm, _, _, h | .nilf, _, _, h | .nili, _, _, h => by simpa only [Con] using h
  | .ptr _ _, _, d, _ | .slice _ _ _ _, _, d, _ | .sliceo _ _ _ _, _, d, _ | .out _ _ _, _, d, _ | .mapl _, _, d, _ | .yld _, _, d, _ | .rop _ _, _, d, _ | .ros _ _ _, _, d, _ | .rom _, _, d, _ | .fn _ _ _, _, d, _ => by simp [AV.plain] at d
  | .agg cs, _, d, h => by
    have d' : plainL cs = true := by simpa [AV.plain] using d
    simp only [Con] at h ⊢; obtain ⟨xs, h1, h2⟩ := h; exact ⟨xs, ConL.plain cs d' h1, h2⟩
  | .tup cs, _, d, h => by
    have d' : plainL cs = true := by simpa [AV.plain] using d
    simp only [Con] at h ⊢; obtain ⟨xs, h1, h2⟩ := h; exact ⟨xs, ConL.plain cs d' h1, h2⟩
theorem ConL.plain {ρ ρ' : Env} {Φ Φ' : Fz} {w w' : World} : ∀ (vs : List AV) {xs : List Value}, plainL vs = true → ConL ρ Φ w vs xs → ConL ρ' Φ' w' vs xs
  | [], _, _, h => by simpa only [ConL] using h
  | v :: vs, _, d, h => by
    have d' : v.plain = true ∧ plainL vs = true := by simpa [plainL] using d
    obtain ⟨y, ys, rfl, h1, h2⟩ := conL_inv h; exact conL_cons (Con.plain v d'.1 h1) (ConL.plain vs d'.2 h2)
end
section ops
variable {C : Ctx} {T : AT} {H : AH} {nx : Nat} {d : Option Tmp} {ty : TypeId} {pos : String} {after : Array Edge} {g : Option (Nat × Bool)}
theorem U_callB {x : Operand} {args : Array Operand} {ts : Array TypeId} {f : FuncId} {fi ca vs : List AV} {res : AV} {T' : AT} {H' : AH} [hf : FnOk C.P f] (hz : Frz C T H T' H') (hx : ev T' x = some (.fn f fi ca)) (hv : evL T' args.toList = some vs) (hP : Pure C.P f (fi ++ vs ++ ca) res) (hd : dataL (fi ++ vs ++ ca)) (hr : res.plain = true) :
    OpU C ⟨d, .call ⟨.value x, args, ts⟩, ty, pos, after, g⟩ T H nx res [] nx := fun ρ Φ a w h1 h2 h3 K Q k => by
  obtain ⟨Φ2, q1, q2, q3, _⟩ := hz ρ Φ a.tmps w h2 h3
  have hc := ev_con q2 hx
  simp only [Con] at hc
  obtain ⟨xs, ys, e1, e2, e3⟩ := hc
  have e4 := evL_con q2 hv
  have hargs : ConL ρ Φ2 w (fi ++ vs ++ ca) (xs ++ args.toList.map a.eval ++ ys) := conL_append (conL_append e1 e4) e2
  have hcall := hP Φ2 w _ q3.frz (ConL.data _ hd hargs)
  have hrun : (execOp a.eval ⟨d, .call ⟨.value x, args, ts⟩, ty, pos, after, g⟩).run C.P w = .ok (.enter f (xs ++ args.toList.map a.eval ++ ys).toArray) w := by
    simp only [execOp, resolve, e3, Deferred.ofValue, Sem.run_bind, Sem.run_pure, Result.andThen_ok, invoke]
    rw [hf.run]
    simp [← Array.toList_map]
  refine ⟨fun _ _ => trivial, ?_⟩
  rw [Oper.semAt_eq _ _ _ (by intro c; simp), hrun]
  refine ⟨fun _ => by simp_all [Ctx.F, Fence.wide], (callsIn_of 0 hcall).mono ?_⟩
  rintro e w' ⟨y, Φ', rfl, h4, h5, h6, h7, h8⟩
  exact k ρ Φ y w' (Post.later h3 nx h5 Φ.le_refl (fun _ h => .inl h) fun r hr => Nat.lt_of_lt_of_le (h3.frz r hr) h5.size) (Con.plain _ hr h4)
end ops
section
variable {C : Ctx} {c : Code} {Q : Exit → St → Prop} {T T' : AT} {H H' : AH} {nx n : Nat} {df : List Nat}
end
section
variable {C : Ctx} {c : Code} {Q : Exit → St → Prop} {T T' : AT} {H H' : AH} {nx : Nat} {df : List Nat} {b n z : Nat} {cs : List AV} {t : TypeId}
end
end Go.AE
end

section
namespace Go.Proofs.Ythmibifghihdaaa
set_option maxRecDepth 20000
open Go.AE
theorem chkB_ok {b : Bk} (h : chkB b = 0) : ∃ (n : Nat) (ks : List (Nat × Nat)), b = ⟨n, ks.map cP⟩ ∧ VB n ks ∧ ks.length ≤ 40 := by
  unfold chkB at h
  split at h
  · omega
  · rename_i h1
    split at h
    · omega
    · rename_i h2
      have h1' : (1 ≤ b.n ∧ b.n ≤ 10) ∧ b.ls.length ≤ 40 := by simp [inL1] at h1; omega
      have h2' : ∀ p ∈ b.ls, (0 ≤ p.1 ∧ p.1 < b.n) ∧ (0 ≤ p.2 ∧ p.2 < b.n) ∧ p.1 ≠ p.2 := by
        intro p hp
        have : strB b.n p = false := by
          cases e : strB b.n p with
          | false => rfl
          | true => exact absurd (List.any_eq_true.2 ⟨p, hp, e⟩) h2
        rw [strB_eq] at this; simp [staB] at this; omega
      refine ⟨b.n.toNat, b.ls.map fun p => (p.1.toNat, p.2.toNat), ?_, ⟨by omega, by omega, by simp; omega, fun p hp => ?_⟩, by simp; omega⟩
      · obtain ⟨n, ls⟩ := b
        simp only at h1' h2'
        have e1 : ((n.toNat : Nat) : Int) = n := by omega
        have e2 : (ls.map fun p => (p.1.toNat, p.2.toNat)).map cP = ls := by
          rw [List.map_map]
          refine (List.map_congr_left fun p hp => ?_).trans (List.map_id _)
          have := h2' p hp
          refine Prod.ext ?_ ?_ <;> simp [cP] <;> omega
        rw [e1, e2]
      · obtain ⟨q, hq, rfl⟩ := List.mem_map.1 hp
        have := h2' q hq
        refine ⟨?_, ?_, ?_⟩ <;> simp only <;> omega
end Go.Proofs.Ythmibifghihdaaa
end

section
namespace Go.Proofs.Ythmibifghihdaaa
set_option maxRecDepth 20000
open Go.AE
theorem countP_y (n : Nat) (ks : List (Nat × Nat)) (c : Option Nat) (hv : VB n ks) (h40 : ks.length ≤ 40) (g : Nat) (hg : Cyc n ks g) : Pure Try.prog 28 [bknA n ks c] (.tup [i64 0, i64 0]) := by
  have hv' := hv
  obtain ⟨hn1, hn, hkl, hk⟩ := hv'
  have hk2 := vb_lt hv
  refine pure_of_body Try.func28 (c := body Try.f28) rfl (by simp [Try.ntmps28]) fun w0 Φ0 => ?_
  refine W_seq rfl ?_
  refine W_reg rfl ?_
  refine Rv rfl rfl rfl (U_boxF rfl rfl rfl) rfl rfl ?_
  refine Rv rfl rfl rfl (U_assign rfl) rfl rfl ?_
  refine Rv rfl rfl rfl (U_assign rfl) rfl rfl ?_
  refine Re rfl ?_
  refine thenQ_n ?_
  refine W_seq rfl ?_
  refine W_reg rfl ?_
  refine Rv rfl rfl rfl (U_load2 rfl rfl rfl rfl) rfl rfl ?_
  refine Rv rfl rfl rfl (U_call rfl rfl (openG_p n ks c hv h40) rfl) rfl rfl ?_
  refine Rv rfl rfl rfl (U_move rfl) rfl rfl ?_
  refine Rv rfl rfl rfl (U_extract rfl rfl) rfl rfl ?_
  refine Rv rfl rfl rfl (U_extract rfl rfl) rfl rfl ?_
  refine Rv rfl rfl rfl (U_assign rfl) rfl rfl ?_
  refine Rv rfl rfl rfl (U_assign rfl) rfl rfl ?_
  refine Re rfl ?_
  refine thenQ_n ?_
  refine W_seq rfl ?_
  refine W_block rfl ?_
  refine W_seq rfl ?_
  refine W_reg rfl ?_
  refine Rv rfl rfl rfl (U_move rfl) rfl rfl ?_
  refine Rv rfl rfl rfl (U_neq rfl rfl) rfl rfl ?_
  refine Rv rfl rfl rfl (U_assign rfl) rfl rfl ?_
  refine Re rfl ?_
  refine thenQ_n ?_
  refine WcondP rfl rfl (fun h => absurd h (by decide)) (fun _ => ?_)
  refine W_seq rfl ?_
  refine W_reg rfl ?_
  refine Rv rfl rfl rfl (U_move rfl) rfl rfl ?_
  refine Rv rfl rfl rfl (U_call rfl rfl (circleY_p n ks c hv g hg) rfl) rfl rfl ?_
  refine Rv rfl rfl rfl (U_neRos (by simp) rfl rfl) rfl rfl ?_
  refine Rv rfl rfl rfl (U_assign rfl) rfl rfl ?_
  refine Re rfl ?_
  refine thenQ_n ?_
  refine Wcond rfl rfl (fun _ => ?_) (fun h => nomatch h)
  refine W_seq rfl ?_
  refine W_reg rfl ?_
  refine Rv rfl rfl rfl (U_assign rfl) rfl rfl ?_
  refine Rv rfl rfl rfl (U_assign rfl) rfl rfl ?_
  refine Re rfl ?_
  refine thenQ_n ?_
  refine W_ret rfl ?_
  refine blkQ_r ?_
  refine thenQ_r ?_
  exact retL (rlT rfl (rlT rfl rl0)) rfl rfl
end Go.Proofs.Ythmibifghihdaaa
end

section
namespace Go.Proofs.Ythmibifghihdaaa
set_option maxRecDepth 20000
open Go.AE
def grt (b : Bk) : Bool := decide ((50 : Int) < b.ls.length)
theorem great_p (b : Bk) (c : Option Nat) : Pure Try.prog 18 [bookA b c] (.bool (grt b)) := by
  refine pure_of_body Try.func18 (c := body Try.f18) rfl (by simp [Try.ntmps18]) fun w0 Φ0 => ?_
  refine W_seq rfl ?_
  refine W_reg rfl ?_
  refine Rv rfl rfl rfl (U_boxF rfl rfl rfl) rfl rfl ?_
  refine Rv rfl rfl rfl (U_assign rfl) rfl rfl ?_
  refine Re rfl ?_
  refine thenQ_n ?_
  refine W_seq rfl ?_
  refine W_reg rfl ?_
  refine Rv rfl rfl rfl (U_fieldAddrR rfl) rfl rfl ?_
  refine Rv rfl rfl rfl (U_load1 rfl rfl rfl) rfl rfl ?_
  refine Rv rfl rfl rfl (U_lenOf rfl len_ros) rfl rfl ?_
  refine Rv rfl rfl rfl (U_gtr rfl rfl) rfl rfl ?_
  refine Rv rfl rfl rfl (U_assign rfl) rfl rfl ?_
  refine Re rfl ?_
  refine thenQ_n ?_
  refine W_ret rfl ?_
  exact retL (rlT rfl rl0) (by first | rfl | (simp only [packA]; rfl; first | done | rfl)) rfl
end Go.Proofs.Ythmibifghihdaaa
end

section
namespace Go.Proofs.Ythmibifghihdaaa
set_option maxRecDepth 20000
open Go.AE
theorem grt_l {b : Bk} (h : grt b = false) : b.ls.length ≤ 1000000 := by simp [grt] at h; omega
end Go.Proofs.Ythmibifghihdaaa
end

section
namespace Go.Proofs.Ythmibifghihdaaa
set_option maxRecDepth 20000
open Go.AE
def fneB (b : Bk) : Bool := !grt b && decide (chkB b = 0)
theorem fine_p (b : Bk) (c : Option Nat) : Pure Try.prog 46 [bookA b c] (.bool (fneB b)) := by
  refine pure_of_body Try.func46 (c := body Try.f46) rfl (by simp [Try.ntmps46]) fun w0 Φ0 => ?_
  refine W_seq rfl ?_
  refine W_reg rfl ?_
  refine Rv rfl rfl rfl (U_boxF rfl rfl rfl) rfl rfl ?_
  refine Rv rfl rfl rfl (U_assign rfl) rfl rfl ?_
  refine Re rfl ?_
  refine thenQ_n ?_
  refine W_seq rfl ?_
  refine Wjoin ⟨[(2, .bool ((!(grt b)) && (decide ((chkB b) = 0))))], [], 0, []⟩ ?_ ?_
  · refine W_reg rfl ?_
    refine Rv rfl rfl rfl (U_load2 rfl rfl rfl rfl) rfl rfl ?_
    refine Rv rfl rfl rfl (U_call rfl rfl (great_p b c) rfl) rfl rfl ?_
    refine Rv rfl rfl rfl (U_not rfl) rfl rfl ?_
    refine Rv rfl rfl rfl (U_move rfl) rfl rfl ?_
    refine Rsplit (t := 6) rfl (fun hg1 => ?_) (fun hg1 => ?_)
    · rw [hg1]
      have hgr : grt b = false := by simpa using hg1
      have hl := grt_l hgr
      refine Rv rfl rfl rfl (U_load2 rfl rfl rfl rfl) rfl rfl ?_
      refine Rv rfl rfl rfl (U_call rfl rfl (chkBR_p b c hl) rfl) rfl rfl ?_
      refine Rv rfl rfl rfl (U_eql rfl rfl) rfl rfl ?_
      refine Rv rfl rfl rfl (U_pick_t rfl rfl) rfl rfl ?_
      refine Rv rfl rfl rfl (U_assign rfl) rfl rfl ?_
      refine Re rfl ?_
      exact joinTo id ⟨eD rfl rfl, trivial⟩ trivial rfl rfl rfl rfl (fun _ _ => rfl)
    · rw [hg1]
      refine Rs rfl rfl rfl rfl rfl ?_
      refine Rs rfl rfl rfl rfl rfl ?_
      refine Rs rfl rfl rfl rfl rfl ?_
      refine Rv rfl rfl rfl (U_pick_f rfl rfl) rfl rfl ?_
      refine Rv rfl rfl rfl (U_assign rfl) rfl rfl ?_
      refine Re rfl ?_
      exact joinTo id ⟨eD rfl rfl, trivial⟩ trivial rfl rfl rfl rfl (fun _ _ => rfl)
  refine thenQ_n ?_
  refine W_ret rfl ?_
  exact retL (rlT rfl rl0) (by first | rfl | (simp only [packA]; rfl; first | done | rfl)) rfl
theorem fine_F (b : Bk) (c : Option Nat) (h : fneB b = false) : Pure Try.prog 46 [bookA b c] (.bool false) := by have := fine_p b c; rwa [h] at this
theorem fine_T (b : Bk) (c : Option Nat) (h : fneB b = true) : Pure Try.prog 46 [bookA b c] (.bool true) := by have := fine_p b c; rwa [h] at this
theorem fne_ok {b : Bk} (h : fneB b = true) : chkB b = 0 := by
  unfold fneB at h
  rw [Bool.and_eq_true, decide_eq_true_eq] at h
  exact h.2
end Go.Proofs.Ythmibifghihdaaa
end

section
namespace Go.Proofs.Ythmibifghihdaaa
set_option maxRecDepth 20000
open Go.AE
def chs : Nat → Nat → Nat
  | _, 0 => 1
  | 0, _ + 1 => 0
  | n + 1, k + 1 => chs n k + chs n (k + 1)
theorem chs_0 (n : Nat) : chs n 0 = 1 := by cases n <;> rfl
theorem chs_gt : ∀ {n k : Nat}, n < k → chs n k = 0
  | 0, k + 1, _ => rfl
  | n + 1, k + 1, h => by rw [chs, chs_gt (by omega), chs_gt (by omega)]
theorem chs_self : ∀ n, chs n n = 1
  | 0 => rfl
  | n + 1 => by rw [chs, chs_self n, chs_gt (by omega)]
theorem chs_fac : ∀ (a b : Nat), chs (a + b) a * (fac a * fac b) = fac (a + b)
  | 0, b => by rw [chs_0, Nat.zero_add]; simp [fac]
  | a + 1, 0 => by rw [Nat.add_zero, chs_self]; simp [fac]
  | a + 1, b + 1 => by
    have h1 := chs_fac a (b + 1)
    have h2 := chs_fac (a + 1) b
    have e1 : a + 1 + (b + 1) = (a + b + 1) + 1 := by omega
    rw [e1, chs]
    have e2 : a + (b + 1) = a + b + 1 := by omega
    have e3 : a + 1 + b = a + b + 1 := by omega
    rw [e2] at h1
    rw [e3] at h2
    have f1 : fac (a + 1) = (a + 1) * fac a := rfl
    have f2 : fac (b + 1) = (b + 1) * fac b := rfl
    have f3 : fac (a + b + 1 + 1) = (a + b + 1 + 1) * fac (a + b + 1) := rfl
    rw [Nat.add_mul, f3]
    have g1 : chs (a + b + 1) a * (fac (a + 1) * fac (b + 1)) = (a + 1) * fac (a + b + 1) := by
      rw [f1, ← h1]; simp only [Nat.mul_assoc, Nat.mul_comm, Nat.mul_left_comm]
    have g2 : chs (a + b + 1) (a + 1) * (fac (a + 1) * fac (b + 1)) = (b + 1) * fac (a + b + 1) := by
      rw [f2, ← h2]; simp only [Nat.mul_assoc, Nat.mul_comm, Nat.mul_left_comm]
    rw [g1, g2, ← Nat.add_mul, show a + 1 + (b + 1) = a + b + 1 + 1 by omega]
theorem chs_step (c i : Nat) : chs (c + i) i * (c + (i + 1)) / (i + 1) = chs (c + (i + 1)) (i + 1) := by
  have h1 := chs_fac i c
  have h2 := chs_fac (i + 1) c
  rw [Nat.add_comm i c] at h1
  rw [Nat.add_comm (i + 1) c] at h2
  have f1 : fac (i + 1) = (i + 1) * fac i := rfl
  have f3 : fac (c + (i + 1)) = (c + (i + 1)) * fac (c + i) := rfl
  have hp : 0 < fac i * fac c := Nat.mul_pos (fac_pos i) (fac_pos c)
  have h3 : chs (c + i) i * (c + (i + 1)) = chs (c + (i + 1)) (i + 1) * (i + 1) := by
    apply Nat.eq_of_mul_eq_mul_right hp
    rw [f1, f3, ← h1] at h2
    calc chs (c + i) i * (c + (i + 1)) * (fac i * fac c) = (c + (i + 1)) * (chs (c + i) i * (fac i * fac c)) := by simp only [Nat.mul_assoc, Nat.mul_comm, Nat.mul_left_comm]
      _ = chs (c + (i + 1)) (i + 1) * ((i + 1) * fac i * fac c) := h2.symm
      _ = chs (c + (i + 1)) (i + 1) * (i + 1) * (fac i * fac c) := by simp only [Nat.mul_assoc, Nat.mul_comm, Nat.mul_left_comm]
  rw [h3, Nat.mul_div_cancel _ (by omega)]
end Go.Proofs.Ythmibifghihdaaa
end

section
namespace Go.Proofs.Ythmibifghihdaaa
set_option maxRecDepth 20000
open Go.AE
section
variable {n1 n2 : Nat} {k1 k2 : List (Nat × Nat)}
def jn (n1 m1 m2 : Nat) : Nat := m1 ||| (m2 <<< n1)
theorem jn_tb {m1 m2 b : Nat} (h : m1 < 2 ^ n1) : (jn n1 m1 m2).testBit b = if b < n1 then m1.testBit b else m2.testBit (b - n1) := by
  unfold jn
  rw [Nat.testBit_or, Nat.testBit_shiftLeft]
  split
  · rename_i hb; simp; intro h2; omega
  · rename_i hb
    have : m1.testBit b = false := by
      cases e : m1.testBit b with
      | false => rfl
      | true => exact absurd (tb_in h e) hb
    rw [this]; simp; intro; omega
theorem jn_rm1 {m1 m2 a : Nat} (h : m1 < 2 ^ n1) (ha : a < n1) (hb : m1.testBit a = true) : rm (jn n1 m1 m2) a = jn n1 (rm m1 a) m2 := by
  apply Nat.eq_of_testBit_eq; intro b
  rw [rm_tb, jn_tb h, jn_tb (Nat.lt_trans (rm_lt hb) h)]
  split
  · rw [rm_tb]
  · rename_i h2; rw [decide_eq_false (by omega)]; simp
theorem jn_rm2 {m1 m2 a : Nat} (h : m1 < 2 ^ n1) : rm (jn n1 m1 m2) (n1 + a) = jn n1 m1 (rm m2 a) := by
  apply Nat.eq_of_testBit_eq; intro b
  rw [rm_tb, jn_tb h, jn_tb h]
  split
  · rw [decide_eq_false (by omega)]; simp
  · rename_i h2
    rw [rm_tb]
    congr 1
    rw [Bool.eq_iff_iff]; simp; omega
def shL (n1 : Nat) (k2 : List (Nat × Nat)) : List (Nat × Nat) := k2.map fun p => (p.1 + n1, p.2 + n1)
theorem sh_mem {x a : Nat} : (x, a) ∈ shL n1 k2 ↔ n1 ≤ x ∧ n1 ≤ a ∧ (x - n1, a - n1) ∈ k2 := by
  unfold shL
  rw [List.mem_map]
  constructor
  · rintro ⟨p, hp, e⟩
    simp only [Prod.mk.injEq] at e
    refine ⟨by omega, by omega, ?_⟩
    rw [show x - n1 = p.1 by omega, show a - n1 = p.2 by omega]; exact hp
  · rintro ⟨h1, h2, h3⟩
    exact ⟨_, h3, by simp only [Prod.mk.injEq]; omega⟩
theorem vb_apart (h1 : VB n1 k1) (h2 : VB n2 k2) (hn : n1 + n2 ≤ 10) (hl : k1.length + k2.length ≤ 1000) : VB (n1 + n2) (k1 ++ shL n1 k2) := by
  refine ⟨by have := h1.1; omega, hn, by simp [shL]; omega, fun p hp => ?_⟩
  rcases List.mem_append.1 hp with h | h
  · have := h1.2.2.2 p h; omega
  · have h3 := (sh_mem (x := p.1) (a := p.2)).1 h
    have := h2.2.2.2 _ h3.2.2
    simp only at this; omega
theorem nx_ap1 (h1 : VB n1 k1) (h2 : VB n2 k2) (hv : VB (n1 + n2) (k1 ++ shL n1 k2)) {m1 m2 a : Nat} (hm : m1 < 2 ^ n1) (ha : a < n1) : nxQ (n1 + n2) (k1 ++ shL n1 k2) (jn n1 m1 m2) a = nxQ n1 k1 m1 a := by
  rw [Bool.eq_iff_iff, nxR_iff (bfN_tb hv), nxR_iff (bfN_tb h1), jn_tb hm, if_pos ha]
  refine and_congr Iff.rfl ⟨fun h x hx => ?_, fun h x hx => ?_⟩
  · have := h x (List.mem_append_left _ hx)
    rwa [jn_tb hm, if_pos (h1.2.2.2 _ hx).1] at this
  · rcases List.mem_append.1 hx with h3 | h3
    · rw [jn_tb hm, if_pos (h1.2.2.2 _ h3).1]; exact h x h3
    · have := (sh_mem.1 h3).2.1; omega
theorem nx_ap2 (h1 : VB n1 k1) (h2 : VB n2 k2) (hv : VB (n1 + n2) (k1 ++ shL n1 k2)) {m1 m2 a : Nat} (hm : m1 < 2 ^ n1) : nxQ (n1 + n2) (k1 ++ shL n1 k2) (jn n1 m1 m2) (n1 + a) = nxQ n2 k2 m2 a := by
  rw [Bool.eq_iff_iff, nxR_iff (bfN_tb hv), nxR_iff (bfN_tb h2), jn_tb hm, if_neg (by omega), show n1 + a - n1 = a by omega]
  refine and_congr Iff.rfl ⟨fun h x hx => ?_, fun h x hx => ?_⟩
  · have := h (n1 + x) (List.mem_append_right _ (sh_mem.2 ⟨by omega, by omega, by rw [show n1 + x - n1 = x by omega, show n1 + a - n1 = a by omega]; exact hx⟩))
    rwa [jn_tb hm, if_neg (by omega), show n1 + x - n1 = x by omega] at this
  · rcases List.mem_append.1 hx with h3 | h3
    · have := (h1.2.2.2 _ h3).2.1; simp only at this; omega
    · obtain ⟨h4, h5, h6⟩ := sh_mem.1 h3
      rw [show n1 + a - n1 = a by omega] at h6
      rw [jn_tb hm, if_neg (by omega)]; exact h _ h6
theorem sum_mulR {p : Nat → Bool} {f : Nat → Nat} {c : Nat} : ∀ (l : List Nat), (l.map fun a => if p a = true then f a * c else 0).sum = (l.map fun a => if p a = true then f a else 0).sum * c
  | [] => by simp
  | x :: l => by
    rw [List.map_cons, List.sum_cons, List.map_cons, List.sum_cons, sum_mulR l, Nat.add_mul]
    split <;> simp
theorem sum_zero {p : Nat → Bool} {f : Nat → Nat} {l : List Nat} (h : ∀ a ∈ l, p a = false) : (l.map fun a => if p a = true then f a else 0).sum = 0 := by
  have : (l.map fun a => if p a = true then f a else 0) = l.map fun _ => 0 := List.map_congr_left fun a ha => by rw [h a ha]; rfl
  rw [this]
  have e : ∀ l : List Nat, (l.map fun _ => 0).sum = 0 := fun l => by
    induction l with
    | nil => rfl
    | cons x l ih => simpa using ih
  exact e l
theorem up_apart (h1 : VB n1 k1) (h2 : VB n2 k2) (hv : VB (n1 + n2) (k1 ++ shL n1 k2)) : ∀ (k m1 m2 : Nat), cntN n1 m1 + cntN n2 m2 = k → m1 < 2 ^ n1 → m2 < 2 ^ n2 → up (n1 + n2) (nxQ (n1 + n2) (k1 ++ shL n1 k2)) (jn n1 m1 m2) = up n1 (nxQ n1 k1) m1 * up n2 (nxQ n2 k2) m2 * chs (cntN n1 m1 + cntN n2 m2) (cntN n1 m1) := by
  intro k
  induction k with
  | zero =>
    intro m1 m2 hc hm1 hm2
    have e1 : m1 = 0 := Classical.byContradiction fun h => by have := cnt_pos hm1 h; omega
    have e2 : m2 = 0 := Classical.byContradiction fun h => by have := cnt_pos hm2 h; omega
    subst e1; subst e2
    have e3 : jn n1 0 0 = 0 := by simp [jn]
    have e4 : cntN n1 0 = 0 := by omega
    rw [e3, up_0, up_0, up_0, e4, chs_0]
  | succ k ih =>
    intro m1 m2 hc hm1 hm2
    have hj : jn n1 m1 m2 < 2 ^ (n1 + n2) := by
      refine Nat.lt_of_not_le fun h => ?_
      obtain ⟨i, hi, hb⟩ := Nat.exists_ge_and_testBit_of_ge_two_pow h
      rw [jn_tb hm1, if_neg (by omega)] at hb
      have := tb_in hm2 hb; omega
    have hne : jn n1 m1 m2 ≠ 0 := fun e => by
      have z1 : m1 = 0 := by
        apply Nat.eq_of_testBit_eq; intro b
        by_cases hb : b < n1
        · have := jn_tb (m2 := m2) (b := b) hm1
          rw [e, if_pos hb] at this; rw [← this]
        · cases e2 : m1.testBit b with
          | false => simp
          | true => exact absurd (tb_in hm1 e2) hb
      have z2 : m2 = 0 := by
        apply Nat.eq_of_testBit_eq; intro b
        have := jn_tb (m2 := m2) (b := n1 + b) hm1
        rw [e, if_neg (by omega), show n1 + b - n1 = b by omega] at this; rw [← this]; simp
      subst z1; subst z2
      have e0 : ∀ q, cntN q 0 = 0 := fun q => by simp [cntN]
      rw [e0, e0] at hc; omega
    rw [up_eq hj hne, List.range_add, List.map_append, List.sum_append, List.map_map]
    have s1 : ((List.range n1).map fun a => if upN (n1 + n2) (nxQ (n1 + n2) (k1 ++ shL n1 k2)) (jn n1 m1 m2) a = true then up (n1 + n2) (nxQ (n1 + n2) (k1 ++ shL n1 k2)) (rm (jn n1 m1 m2) a) else 0).sum = ((List.range n1).map fun a => if upN n1 (nxQ n1 k1) m1 a = true then up n1 (nxQ n1 k1) (rm m1 a) * (up n2 (nxQ n2 k2) m2 * chs k (cntN n1 m1 - 1)) else 0).sum := by
      refine sum_congr fun a ha => ?_
      have ha := List.mem_range.1 ha
      unfold upN
      rw [jn_tb hm1, if_pos ha]
      by_cases hb : m1.testBit a = true
      · rw [jn_rm1 hm1 ha hb, hb, nx_ap1 h1 h2 hv (Nat.lt_trans (rm_lt hb) hm1) ha]
        have hcr := cnt_rm ha hb
        rw [ih (rm m1 a) m2 (by omega) (Nat.lt_trans (rm_lt hb) hm1) hm2, show cntN n1 (rm m1 a) + cntN n2 m2 = k by omega, show cntN n1 (rm m1 a) = cntN n1 m1 - 1 by omega, Nat.mul_assoc]
      · rw [if_neg (by simp [hb]), if_neg (by simp [hb])]
    have s2 : ((List.range n2).map ((fun a => if upN (n1 + n2) (nxQ (n1 + n2) (k1 ++ shL n1 k2)) (jn n1 m1 m2) a = true then up (n1 + n2) (nxQ (n1 + n2) (k1 ++ shL n1 k2)) (rm (jn n1 m1 m2) a) else 0) ∘ fun x => n1 + x)).sum = ((List.range n2).map fun a => if upN n2 (nxQ n2 k2) m2 a = true then up n2 (nxQ n2 k2) (rm m2 a) * (up n1 (nxQ n1 k1) m1 * chs k (cntN n1 m1)) else 0).sum := by
      refine sum_congr fun a ha => ?_
      have ha := List.mem_range.1 ha
      simp only [Function.comp]
      unfold upN
      have et : (jn n1 m1 m2).testBit (n1 + a) = m2.testBit a := by rw [jn_tb hm1, if_neg (by omega), show n1 + a - n1 = a by omega]
      rw [et, jn_rm2 hm1]
      by_cases hb : m2.testBit a = true
      · rw [hb, nx_ap2 h1 h2 hv hm1]
        have hcr := cnt_rm ha hb
        rw [ih m1 (rm m2 a) (by omega) hm1 (Nat.lt_trans (rm_lt hb) hm2), show cntN n1 m1 + cntN n2 (rm m2 a) = k by omega]
        congr 1
        simp only [Nat.mul_assoc, Nat.mul_comm, Nat.mul_left_comm]
      · rw [if_neg (by simp [hb]), if_neg (by simp [hb])]
    rw [s1, s2, sum_mulR, sum_mulR, hc]
    have r1 : ((List.range n1).map fun a => if upN n1 (nxQ n1 k1) m1 a = true then up n1 (nxQ n1 k1) (rm m1 a) else 0).sum = if m1 = 0 then 0 else up n1 (nxQ n1 k1) m1 := by
      split
      · rename_i e; subst e; exact sum_zero fun a _ => by simp [upN]
      · rename_i e; rw [up_eq hm1 e]
    have r2 : ((List.range n2).map fun a => if upN n2 (nxQ n2 k2) m2 a = true then up n2 (nxQ n2 k2) (rm m2 a) else 0).sum = if m2 = 0 then 0 else up n2 (nxQ n2 k2) m2 := by
      split
      · rename_i e; subst e; exact sum_zero fun a _ => by simp [upN]
      · rename_i e; rw [up_eq hm2 e]
    rw [r1, r2]
    have e0 : ∀ q, cntN q 0 = 0 := fun q => by simp [cntN]
    by_cases z1 : m1 = 0
    · subst z1
      rw [if_pos rfl, e0, chs_0, chs_0]
      by_cases z2 : m2 = 0
      · subst z2; rw [e0, e0] at hc; omega
      · rw [if_neg z2, up_0]; simp only [Nat.zero_mul, Nat.zero_add, Nat.mul_one, Nat.one_mul]
    · rw [if_neg z1]
      have hp1 := cnt_pos hm1 z1
      obtain ⟨c1, hc1⟩ : ∃ c1, cntN n1 m1 = c1 + 1 := ⟨cntN n1 m1 - 1, by omega⟩
      rw [hc1, Nat.add_sub_cancel, chs]
      by_cases z2 : m2 = 0
      · subst z2
        rw [if_pos rfl]
        have : chs k (c1 + 1) = 0 := chs_gt (by rw [e0] at hc; omega)
        rw [this]
        simp only [Nat.zero_mul, Nat.add_zero, Nat.mul_assoc]
      · rw [if_neg z2, Nat.mul_add]
        simp only [Nat.mul_assoc, Nat.mul_comm, Nat.mul_left_comm]
theorem cnt_apart (h1 : VB n1 k1) (h2 : VB n2 k2) (hv : VB (n1 + n2) (k1 ++ shL n1 k2)) : cntQ (n1 + n2) (k1 ++ shL n1 k2) = cntQ n1 k1 * cntQ n2 k2 * chs (n1 + n2) n1 := by
  rw [← cnt_R hv, ← cnt_R h1, ← cnt_R h2]
  have e : full (n1 + n2) = jn n1 (full n1) (full n2) := by
    apply Nat.eq_of_testBit_eq; intro b
    rw [jn_tb full_lt, full_tb, full_tb, full_tb]
    split
    · rename_i h; rw [decide_eq_true h, decide_eq_true (by omega)]
    · rename_i h; rw [Bool.eq_iff_iff, decide_eq_true_eq, decide_eq_true_eq]; omega
  rw [e, up_apart h1 h2 hv _ _ _ rfl full_lt full_lt, full_cnt, full_cnt]
end
end Go.Proofs.Ythmibifghihdaaa
end

section
namespace Go.Proofs.Ythmibifghihdaaa
set_option maxRecDepth 20000
open Go.AE
theorem apart_a (b e : Bk) (c d : Option Nat) (hf : fneB b = false) : Pure Try.prog 15 [bookA b c, bookA e d] (.bool true) := by
  refine pure_of_body Try.func15 (c := body Try.f15) rfl (by simp [Try.ntmps15]) fun w0 Φ0 => ?_
  refine W_seq rfl ?_
  refine W_reg rfl ?_
  refine Rv rfl rfl rfl (U_boxF rfl rfl rfl) rfl rfl ?_
  refine Rv rfl rfl rfl (U_boxF rfl rfl rfl) rfl rfl ?_
  refine Rv rfl rfl rfl (U_assign rfl) rfl rfl ?_
  refine Re rfl ?_
  refine thenQ_n ?_
  refine W_seq rfl ?_
  refine W_seq rfl ?_
  refine W_reg rfl ?_
  refine Rv rfl rfl rfl (U_load2 rfl rfl rfl rfl) rfl rfl ?_
  refine Rv rfl rfl rfl (U_call rfl rfl (fine_F b c hf) rfl) rfl rfl ?_
  refine Rv rfl rfl rfl (U_not rfl) rfl rfl ?_
  refine Rv rfl rfl rfl (U_move rfl) rfl rfl ?_
  refine Rs rfl rfl rfl rfl rfl ?_
  refine Rs rfl rfl rfl rfl rfl ?_
  refine Rs rfl rfl rfl rfl rfl ?_
  refine Rv rfl rfl rfl (U_pick_t rfl rfl) rfl rfl ?_
  refine Rv rfl rfl rfl (U_move rfl) rfl rfl ?_
  refine Rs rfl rfl rfl rfl rfl ?_
  refine Rs rfl rfl rfl rfl rfl ?_
  refine Rs rfl rfl rfl rfl rfl ?_
  refine Rs rfl rfl rfl rfl rfl ?_
  refine Rs rfl rfl rfl rfl rfl ?_
  refine Rs rfl rfl rfl rfl rfl ?_
  refine Rv rfl rfl rfl (U_pick_t rfl rfl) rfl rfl ?_
  refine Rv rfl rfl rfl (U_move rfl) rfl rfl ?_
  refine Rs rfl rfl rfl rfl rfl ?_
  refine Rs rfl rfl rfl rfl rfl ?_
  refine Rs rfl rfl rfl rfl rfl ?_
  refine Rs rfl rfl rfl rfl rfl ?_
  refine Rs rfl rfl rfl rfl rfl ?_
  refine Rs rfl rfl rfl rfl rfl ?_
  refine Rs rfl rfl rfl rfl rfl ?_
  refine Rs rfl rfl rfl rfl rfl ?_
  refine Rv rfl rfl rfl (U_pick_t rfl rfl) rfl rfl ?_
  refine Re rfl ?_
  refine thenQ_n ?_
  refine Wcond rfl rfl (fun _ => ?_) (fun h => nomatch h)
  refine W_seq rfl ?_
  refine W_reg rfl ?_
  refine Rv rfl rfl rfl (U_call rfl rfl (works_p) rfl) rfl rfl ?_
  refine Rv rfl rfl rfl (U_assign rfl) rfl rfl ?_
  refine Re rfl ?_
  refine thenQ_n ?_
  refine W_ret rfl ?_
  refine thenQ_r ?_
  exact retL (rlT rfl rl0) rfl rfl
theorem apart_b (b e : Bk) (c d : Option Nat) (hf : fneB b = true) (hg : fneB e = false) : Pure Try.prog 15 [bookA b c, bookA e d] (.bool true) := by
  refine pure_of_body Try.func15 (c := body Try.f15) rfl (by simp [Try.ntmps15]) fun w0 Φ0 => ?_
  refine W_seq rfl ?_
  refine W_reg rfl ?_
  refine Rv rfl rfl rfl (U_boxF rfl rfl rfl) rfl rfl ?_
  refine Rv rfl rfl rfl (U_boxF rfl rfl rfl) rfl rfl ?_
  refine Rv rfl rfl rfl (U_assign rfl) rfl rfl ?_
  refine Re rfl ?_
  refine thenQ_n ?_
  refine W_seq rfl ?_
  refine W_seq rfl ?_
  refine W_reg rfl ?_
  refine Rv rfl rfl rfl (U_load2 rfl rfl rfl rfl) rfl rfl ?_
  refine Rv rfl rfl rfl (U_call rfl rfl (fine_T b c hf) rfl) rfl rfl ?_
  refine Rv rfl rfl rfl (U_not rfl) rfl rfl ?_
  refine Rv rfl rfl rfl (U_move rfl) rfl rfl ?_
  refine Rv rfl rfl rfl (U_load2 rfl rfl rfl rfl) rfl rfl ?_
  refine Rv rfl rfl rfl (U_call rfl rfl (fine_F e d hg) rfl) rfl rfl ?_
  refine Rv rfl rfl rfl (U_not rfl) rfl rfl ?_
  refine Rv rfl rfl rfl (U_pick_f rfl rfl) rfl rfl ?_
  refine Rv rfl rfl rfl (U_move rfl) rfl rfl ?_
  refine Rs rfl rfl rfl rfl rfl ?_
  refine Rs rfl rfl rfl rfl rfl ?_
  refine Rs rfl rfl rfl rfl rfl ?_
  refine Rs rfl rfl rfl rfl rfl ?_
  refine Rs rfl rfl rfl rfl rfl ?_
  refine Rs rfl rfl rfl rfl rfl ?_
  refine Rv rfl rfl rfl (U_pick_t rfl rfl) rfl rfl ?_
  refine Rv rfl rfl rfl (U_move rfl) rfl rfl ?_
  refine Rs rfl rfl rfl rfl rfl ?_
  refine Rs rfl rfl rfl rfl rfl ?_
  refine Rs rfl rfl rfl rfl rfl ?_
  refine Rs rfl rfl rfl rfl rfl ?_
  refine Rs rfl rfl rfl rfl rfl ?_
  refine Rs rfl rfl rfl rfl rfl ?_
  refine Rs rfl rfl rfl rfl rfl ?_
  refine Rs rfl rfl rfl rfl rfl ?_
  refine Rv rfl rfl rfl (U_pick_t rfl rfl) rfl rfl ?_
  refine Re rfl ?_
  refine thenQ_n ?_
  refine Wcond rfl rfl (fun _ => ?_) (fun h => nomatch h)
  refine W_seq rfl ?_
  refine W_reg rfl ?_
  refine Rv rfl rfl rfl (U_call rfl rfl (works_p) rfl) rfl rfl ?_
  refine Rv rfl rfl rfl (U_assign rfl) rfl rfl ?_
  refine Re rfl ?_
  refine thenQ_n ?_
  refine W_ret rfl ?_
  refine thenQ_r ?_
  exact retL (rlT rfl rl0) rfl rfl
theorem apart_c (n1 n2 : Nat) (k1 k2 : List (Nat × Nat)) (c d : Option Nat) (hf : Pure Try.prog 46 [bknA n1 k1 c] (.bool true)) (hg : Pure Try.prog 46 [bknA n2 k2 d] (.bool true)) (hv1 : VB n1 k1) (hv2 : VB n2 k2) (h41 : k1.length ≤ 40) (h42 : k2.length ≤ 40) (hs : ¬ n1 + n2 ≤ 10) : Pure Try.prog 15 [bknA n1 k1 c, bknA n2 k2 d] (.bool true) := by
  have hn1 := hv1.2.1
  have hn2 := hv2.2.1
  have hn1p := hv1.1
  have hn2p := hv2.1
  refine pure_of_body Try.func15 (c := body Try.f15) rfl (by simp [Try.ntmps15]) fun w0 Φ0 => ?_
  refine W_seq rfl ?_
  refine W_reg rfl ?_
  refine Rv rfl rfl rfl (U_boxF rfl rfl rfl) rfl rfl ?_
  refine Rv rfl rfl rfl (U_boxF rfl rfl rfl) rfl rfl ?_
  refine Rv rfl rfl rfl (U_assign rfl) rfl rfl ?_
  refine Re rfl ?_
  refine thenQ_n ?_
  refine W_seq rfl ?_
  refine W_seq rfl ?_
  refine W_reg rfl ?_
  refine Rv rfl rfl rfl (U_load2 rfl rfl rfl rfl) rfl rfl ?_
  refine Rv rfl rfl rfl (U_call rfl rfl (hf) rfl) rfl rfl ?_
  refine Rv rfl rfl rfl (U_not rfl) rfl rfl ?_
  refine Rv rfl rfl rfl (U_move rfl) rfl rfl ?_
  refine Rv rfl rfl rfl (U_load2 rfl rfl rfl rfl) rfl rfl ?_
  refine Rv rfl rfl rfl (U_call rfl rfl (hg) rfl) rfl rfl ?_
  refine Rv rfl rfl rfl (U_not rfl) rfl rfl ?_
  refine Rv rfl rfl rfl (U_pick_f rfl rfl) rfl rfl ?_
  refine Rv rfl rfl rfl (U_move rfl) rfl rfl ?_
  refine Rv rfl rfl rfl (U_fieldAddrR rfl) rfl rfl ?_
  refine Rv rfl rfl rfl (U_load1 rfl rfl rfl) rfl rfl ?_
  refine Rv rfl rfl rfl (U_fieldAddrR rfl) rfl rfl ?_
  refine Rv rfl rfl rfl (U_load1 rfl rfl rfl) rfl rfl ?_
  refine Rv rfl rfl rfl (U_add rfl rfl (w64e (m := ((n1 + n2 : Nat) : Int)) (by omega) (by omega) (by omega))) rfl rfl ?_
  refine Rv rfl rfl rfl (OpU.toB (U_gtr rfl rfl) (decide_eq_true (by omega))) rfl rfl ?_
  refine Rv rfl rfl rfl (U_pick_f rfl rfl) rfl rfl ?_
  refine Rv rfl rfl rfl (U_move rfl) rfl rfl ?_
  refine Rs rfl rfl rfl rfl rfl ?_
  refine Rs rfl rfl rfl rfl rfl ?_
  refine Rs rfl rfl rfl rfl rfl ?_
  refine Rs rfl rfl rfl rfl rfl ?_
  refine Rs rfl rfl rfl rfl rfl ?_
  refine Rs rfl rfl rfl rfl rfl ?_
  refine Rs rfl rfl rfl rfl rfl ?_
  refine Rs rfl rfl rfl rfl rfl ?_
  refine Rv rfl rfl rfl (U_pick_t rfl rfl) rfl rfl ?_
  refine Re rfl ?_
  refine thenQ_n ?_
  refine Wcond rfl rfl (fun _ => ?_) (fun h => nomatch h)
  refine W_seq rfl ?_
  refine W_reg rfl ?_
  refine Rv rfl rfl rfl (U_call rfl rfl (works_p) rfl) rfl rfl ?_
  refine Rv rfl rfl rfl (U_assign rfl) rfl rfl ?_
  refine Re rfl ?_
  refine thenQ_n ?_
  refine W_ret rfl ?_
  refine thenQ_r ?_
  exact retL (rlT rfl rl0) rfl rfl
theorem apart_d (n1 n2 : Nat) (k1 k2 : List (Nat × Nat)) (c d : Option Nat) (hf : Pure Try.prog 46 [bknA n1 k1 c] (.bool true)) (hg : Pure Try.prog 46 [bknA n2 k2 d] (.bool true)) (hv1 : VB n1 k1) (hv2 : VB n2 k2) (h41 : k1.length ≤ 40) (h42 : k2.length ≤ 40) (hs : n1 + n2 ≤ 10) (hk : ¬ k1.length + k2.length ≤ 40) : Pure Try.prog 15 [bknA n1 k1 c, bknA n2 k2 d] (.bool true) := by
  have hn1 := hv1.2.1
  have hn2 := hv2.2.1
  have hn1p := hv1.1
  have hn2p := hv2.1
  refine pure_of_body Try.func15 (c := body Try.f15) rfl (by simp [Try.ntmps15]) fun w0 Φ0 => ?_
  refine W_seq rfl ?_
  refine W_reg rfl ?_
  refine Rv rfl rfl rfl (U_boxF rfl rfl rfl) rfl rfl ?_
  refine Rv rfl rfl rfl (U_boxF rfl rfl rfl) rfl rfl ?_
  refine Rv rfl rfl rfl (U_assign rfl) rfl rfl ?_
  refine Re rfl ?_
  refine thenQ_n ?_
  refine W_seq rfl ?_
  refine W_seq rfl ?_
  refine W_reg rfl ?_
  refine Rv rfl rfl rfl (U_load2 rfl rfl rfl rfl) rfl rfl ?_
  refine Rv rfl rfl rfl (U_call rfl rfl (hf) rfl) rfl rfl ?_
  refine Rv rfl rfl rfl (U_not rfl) rfl rfl ?_
  refine Rv rfl rfl rfl (U_move rfl) rfl rfl ?_
  refine Rv rfl rfl rfl (U_load2 rfl rfl rfl rfl) rfl rfl ?_
  refine Rv rfl rfl rfl (U_call rfl rfl (hg) rfl) rfl rfl ?_
  refine Rv rfl rfl rfl (U_not rfl) rfl rfl ?_
  refine Rv rfl rfl rfl (U_pick_f rfl rfl) rfl rfl ?_
  refine Rv rfl rfl rfl (U_move rfl) rfl rfl ?_
  refine Rv rfl rfl rfl (U_fieldAddrR rfl) rfl rfl ?_
  refine Rv rfl rfl rfl (U_load1 rfl rfl rfl) rfl rfl ?_
  refine Rv rfl rfl rfl (U_fieldAddrR rfl) rfl rfl ?_
  refine Rv rfl rfl rfl (U_load1 rfl rfl rfl) rfl rfl ?_
  refine Rv rfl rfl rfl (U_add rfl rfl (w64e (m := ((n1 + n2 : Nat) : Int)) (by omega) (by omega) (by omega))) rfl rfl ?_
  refine Rv rfl rfl rfl (OpU.toB (U_gtr rfl rfl) (decide_eq_false (by omega))) rfl rfl ?_
  refine Rv rfl rfl rfl (U_pick_f rfl rfl) rfl rfl ?_
  refine Rv rfl rfl rfl (U_move rfl) rfl rfl ?_
  refine Rv rfl rfl rfl (U_fieldAddrR rfl) rfl rfl ?_
  refine Rv rfl rfl rfl (U_load1 rfl rfl rfl) rfl rfl ?_
  refine Rv rfl rfl rfl (U_lenOf rfl len_ros) rfl rfl ?_
  refine Rv rfl rfl rfl (U_fieldAddrR rfl) rfl rfl ?_
  refine Rv rfl rfl rfl (U_load1 rfl rfl rfl) rfl rfl ?_
  refine Rv rfl rfl rfl (U_lenOf rfl len_ros) rfl rfl ?_
  refine Rv rfl rfl rfl (U_add rfl rfl (w64e (m := ((k1.length + k2.length : Nat) : Int)) (by omega) (by omega) (by omega))) rfl rfl ?_
  refine Rv rfl rfl rfl (OpU.toB (U_gtr rfl rfl) (decide_eq_true (by omega))) rfl rfl ?_
  refine Rv rfl rfl rfl (U_pick_f rfl rfl) rfl rfl ?_
  refine Re rfl ?_
  refine thenQ_n ?_
  refine Wcond rfl rfl (fun _ => ?_) (fun h => nomatch h)
  refine W_seq rfl ?_
  refine W_reg rfl ?_
  refine Rv rfl rfl rfl (U_call rfl rfl (works_p) rfl) rfl rfl ?_
  refine Rv rfl rfl rfl (U_assign rfl) rfl rfl ?_
  refine Re rfl ?_
  refine thenQ_n ?_
  refine W_ret rfl ?_
  refine thenQ_r ?_
  exact retL (rlT rfl rl0) rfl rfl
theorem lkn_len (L : List (Nat × Nat)) : (L.flatMap lkN).length = L.length * 2 := flat_len (z := 2) (fun _ => rfl) L
theorem lkn_one (L : List (Nat × Nat)) : (L.flatMap lkN).all AV.one = true := by
  induction L with
  | nil => rfl
  | cons p L ih => rw [List.flatMap_cons, List.all_append, ih]; rfl
def shK (n1 : Nat) (k2 : List (Nat × Nat)) (i : Nat) : List (Nat × Nat) := shL n1 (k2.take i)
theorem shK_S {n1 i : Nat} {k2 : List (Nat × Nat)} (h : i < k2.length) : shK n1 k2 (i + 1) = shK n1 k2 i ++ [(k2[i].1 + n1, k2[i].2 + n1)] := by
  unfold shK shL; rw [List.take_succ_eq_append_getElem h, List.map_append]; rfl
theorem shK_len {n1 i : Nat} {k2 : List (Nat × Nat)} (h : i ≤ k2.length) : (shK n1 k2 i).length = i := by simp [shK, shL]; omega
theorem chs_le (c i : Nat) (h : c + i ≤ 10) : chs (c + i) i ≤ 3628800 := by
  have h1 := chs_fac i c
  have h2 : fac (i + c) ≤ 3628800 := fac10 (by omega)
  have h3 : 1 ≤ fac i * fac c := Nat.mul_pos (fac_pos i) (fac_pos c)
  rw [Nat.add_comm i c] at h1 h2
  calc chs (c + i) i ≤ chs (c + i) i * (fac i * fac c) := Nat.le_mul_of_pos_right _ h3
    _ ≤ 3628800 := by omega
theorem apart_e (n1 n2 : Nat) (k1 k2 : List (Nat × Nat)) (c d : Option Nat) (hf : Pure Try.prog 46 [bknA n1 k1 c] (.bool true)) (hg : Pure Try.prog 46 [bknA n2 k2 d] (.bool true)) (hv1 : VB n1 k1) (hv2 : VB n2 k2) (h41 : k1.length ≤ 40) (h42 : k2.length ≤ 40) (hs : n1 + n2 ≤ 10) (hk : k1.length + k2.length ≤ 40) (hq : cntQ n1 k1 * cntQ n2 k2 * chs (n2 + n1) n1 ≤ 3628800) (h28a : Pure Try.prog 28 [bknA n1 k1 c] (.tup [i64 ((cntQ n1 k1 : Nat) : Int), i64 0])) (h28b : Pure Try.prog 28 [bknA n2 k2 d] (.tup [i64 ((cntQ n2 k2 : Nat) : Int), i64 0])) (h28c : Pure Try.prog 28 [bknA (n1 + n2) (k1 ++ shK n1 k2 k2.length) none] (.tup [i64 ((cntQ n1 k1 * cntQ n2 k2 * chs (n2 + n1) n1 : Nat) : Int), i64 0])) : Pure Try.prog 15 [bknA n1 k1 c, bknA n2 k2 d] (.bool true) := by
  have hn1 := hv1.2.1
  have hn2 := hv2.2.1
  have hn1p := hv1.1
  have hn2p := hv2.1
  refine pure_of_body Try.func15 (c := body Try.f15) rfl (by simp [Try.ntmps15]) fun w0 Φ0 => ?_
  refine W_seq rfl ?_
  refine W_reg rfl ?_
  refine Rv rfl rfl rfl (U_boxF rfl rfl rfl) rfl rfl ?_
  refine Rv rfl rfl rfl (U_boxF rfl rfl rfl) rfl rfl ?_
  refine Rv rfl rfl rfl (U_assign rfl) rfl rfl ?_
  refine Re rfl ?_
  refine thenQ_n ?_
  refine W_seq rfl ?_
  refine W_seq rfl ?_
  refine W_reg rfl ?_
  refine Rv rfl rfl rfl (U_load2 rfl rfl rfl rfl) rfl rfl ?_
  refine Rv rfl rfl rfl (U_call rfl rfl (hf) rfl) rfl rfl ?_
  refine Rv rfl rfl rfl (U_not rfl) rfl rfl ?_
  refine Rv rfl rfl rfl (U_move rfl) rfl rfl ?_
  refine Rv rfl rfl rfl (U_load2 rfl rfl rfl rfl) rfl rfl ?_
  refine Rv rfl rfl rfl (U_call rfl rfl (hg) rfl) rfl rfl ?_
  refine Rv rfl rfl rfl (U_not rfl) rfl rfl ?_
  refine Rv rfl rfl rfl (U_pick_f rfl rfl) rfl rfl ?_
  refine Rv rfl rfl rfl (U_move rfl) rfl rfl ?_
  refine Rv rfl rfl rfl (U_fieldAddrR rfl) rfl rfl ?_
  refine Rv rfl rfl rfl (U_load1 rfl rfl rfl) rfl rfl ?_
  refine Rv rfl rfl rfl (U_fieldAddrR rfl) rfl rfl ?_
  refine Rv rfl rfl rfl (U_load1 rfl rfl rfl) rfl rfl ?_
  refine Rv rfl rfl rfl (U_add rfl rfl (w64e (m := ((n1 + n2 : Nat) : Int)) (by omega) (by omega) (by omega))) rfl rfl ?_
  refine Rv rfl rfl rfl (OpU.toB (U_gtr rfl rfl) (decide_eq_false (by omega))) rfl rfl ?_
  refine Rv rfl rfl rfl (U_pick_f rfl rfl) rfl rfl ?_
  refine Rv rfl rfl rfl (U_move rfl) rfl rfl ?_
  refine Rv rfl rfl rfl (U_fieldAddrR rfl) rfl rfl ?_
  refine Rv rfl rfl rfl (U_load1 rfl rfl rfl) rfl rfl ?_
  refine Rv rfl rfl rfl (U_lenOf rfl len_ros) rfl rfl ?_
  refine Rv rfl rfl rfl (U_fieldAddrR rfl) rfl rfl ?_
  refine Rv rfl rfl rfl (U_load1 rfl rfl rfl) rfl rfl ?_
  refine Rv rfl rfl rfl (U_lenOf rfl len_ros) rfl rfl ?_
  refine Rv rfl rfl rfl (U_add rfl rfl (w64e (m := ((k1.length + k2.length : Nat) : Int)) (by omega) (by omega) (by omega))) rfl rfl ?_
  refine Rv rfl rfl rfl (OpU.toB (U_gtr rfl rfl) (decide_eq_false (by omega))) rfl rfl ?_
  refine Rv rfl rfl rfl (U_pick_f rfl rfl) rfl rfl ?_
  refine Re rfl ?_
  refine thenQ_n ?_
  refine Wcond rfl rfl (fun h => nomatch h) (fun _ => ?_)
  refine W_skip rfl ?_
  refine thenQ_n ?_
  refine W_seq rfl ?_
  refine WdrawL [43, 45, 49] rfl (by kernel_rfl) (by kernel_rfl) ?_
  refine Dv rfl rfl rfl (U_fieldAddrR rfl) rfl rfl ?_
  refine Dv rfl rfl rfl (U_load1 rfl rfl rfl) rfl rfl ?_
  refine Dv rfl rfl rfl (U_fieldAddrR rfl) rfl rfl ?_
  refine Dv rfl rfl rfl (U_load1 rfl rfl rfl) rfl rfl ?_
  refine Dv rfl rfl rfl (U_add rfl rfl (w64e (m := ((n1 + n2 : Nat) : Int)) (by omega) (by omega) (by omega))) rfl rfl ?_
  refine Da rfl rfl rfl (U_buildSliceQ (by rfl) (by decide) rfl rfl rfl) rfl rfl rfl rfl ?_
  refine Dv rfl rfl rfl (U_fieldAddrR rfl) rfl rfl ?_
  refine Dv rfl rfl rfl (U_load1 rfl rfl rfl) rfl rfl ?_
  refine Da rfl rfl rfl (U_appQ (n := 0) (m := k1.length) (cs' := k1.flatMap lkN) (n' := k1.length) (Nat.zero_add _) rfl rfl rfl rfl (srcR (lkn_len k1)) (lkn_one k1) (by omega) rfl) rfl rfl rfl rfl ?_
  refine Dv rfl rfl rfl (U_build rfl rfl) rfl rfl ?_
  refine Da rfl rfl rfl (U_alloc) rfl rfl rfl rfl ?_
  refine Dn_ rfl rfl rfl (U_storeAll rfl rfl rfl rfl rfl rfl) rfl rfl ?_
  refine Dr.nil rfl ?_
  refine thenQ_n ?_
  refine W_seq rfl ?_
  refine W_seq rfl ?_
  refine W_reg rfl ?_
  refine Rv rfl rfl rfl (U_assign rfl) rfl rfl ?_
  refine Re rfl ?_
  refine thenQ_n ?_
  refine W_block rfl ?_
  refine LoopTo (T' := [(2, .rop [i64 ((n1 : Nat) : Int), .ros (k1.flatMap lkN) k1.length c] 0), (3, .rop [i64 ((n2 : Nat) : Int), .ros (k2.flatMap lkN) k2.length d] 0), (5, .ptr 2 0), (6, i64 ((0 : Nat) : Int))]) (H' := [(1, some (.cells (k1.flatMap lkN) 65)), (2, some (.cells [i64 ((n1 + n2 : Nat) : Int), .sliceo 1 0 k1.length 2] 24))]) (n := 3) rfl (fun mz_ qz_ => ∃ (i : Nat) (L : List (Nat × Nat)), i ≤ k2.length ∧ L = k1 ++ shK n1 k2 i ∧ mz_ = k2.length - i ∧ qz_ = ⟨[(2, .rop [i64 ((n1 : Nat) : Int), .ros (k1.flatMap lkN) k1.length c] 0), (3, .rop [i64 ((n2 : Nat) : Int), .ros (k2.flatMap lkN) k2.length d] 0), (5, .ptr 2 0), (6, i64 ((i : Nat) : Int))], [(1, some (.cells (L.flatMap lkN) 65)), (2, some (.cells [i64 ((n1 + n2 : Nat) : Int), .sliceo 1 0 L.length 2] 24))], 3, []⟩) ⟨0, k1, (by omega), (by simp [shK, shL]), rfl, rfl⟩ id ⟨eD rfl rfl, eD rfl rfl, e_ rfl rfl, eD rfl rfl, trivial⟩ ⟨rD (flatD (fun _ => rfl) _) rfl rfl, r_ rfl rfl rfl, trivial⟩ rfl rfl rfl rfl (fun _ _ => rfl) ?_
  rintro _ _ ⟨i, L, hi0_0, hi0_1, rfl, rfl⟩
  have hLl : L.length ≤ k1.length + i := by rw [hi0_1, List.length_append, shK_len (by omega)]; omega
  refine W_seq rfl ?_
  refine W_seq rfl ?_
  refine W_reg rfl ?_
  refine Rv rfl rfl rfl (U_move rfl) rfl rfl ?_
  refine Rv rfl rfl rfl (U_fieldAddrR rfl) rfl rfl ?_
  refine Rv rfl rfl rfl (U_load1 rfl rfl rfl) rfl rfl ?_
  refine Rv rfl rfl rfl (U_lenOf rfl len_ros) rfl rfl ?_
  refine Rv rfl rfl rfl (U_lss rfl rfl) rfl rfl ?_
  refine Re rfl ?_
  refine thenQ_n ?_
  refine WcondP rfl rfl (fun hc1 => ?_) (fun hc1 => ?_)
  · have hci : i < k2.length := by omega
    have hk2 := (hv2.2.2.2 _ (List.getElem_mem hci))
    refine W_skip rfl ?_
    refine thenQ_n ?_
    refine W_seq rfl ?_
    refine W_block rfl ?_
    refine Wdraw rfl (by kernel_rfl) (by kernel_rfl) ?_
    refine Dv rfl rfl rfl (U_fieldAddr rfl) rfl rfl ?_
    refine Dv rfl rfl rfl (U_load1 rfl rfl rfl) rfl rfl ?_
    refine Dv rfl rfl rfl (U_fieldAddrR rfl) rfl rfl ?_
    refine Dv rfl rfl rfl (U_load1 rfl rfl rfl) rfl rfl ?_
    refine Dv rfl rfl rfl (U_move rfl) rfl rfl ?_
    have hx1 : i < k2.length := by omega
    refine Dv rfl rfl rfl (U_indexR (j := i) rfl rfl rfl hx1) rfl rfl ?_
    refine Dv rfl rfl rfl (U_indexAR (j := 0) rfl rfl rfl (by decide)) rfl rfl ?_
    refine Dv rfl rfl rfl (U_load1 rfl rfl (lkH0 hx1)) rfl rfl ?_
    refine Dv rfl rfl rfl (U_fieldAddrR rfl) rfl rfl ?_
    refine Dv rfl rfl rfl (U_load1 rfl rfl rfl) rfl rfl ?_
    refine Dv rfl rfl rfl (U_add rfl rfl (w64e (m := ((k2[i].1 + n1 : Nat) : Int)) (by omega) (by omega) (by omega))) rfl rfl ?_
    refine Dv rfl rfl rfl (U_fieldAddrR rfl) rfl rfl ?_
    refine Dv rfl rfl rfl (U_load1 rfl rfl rfl) rfl rfl ?_
    refine Dv rfl rfl rfl (U_move rfl) rfl rfl ?_
    refine Dv rfl rfl rfl (U_indexR (j := i) rfl rfl rfl hx1) rfl rfl ?_
    refine Dv rfl rfl rfl (U_indexAR (j := 1) rfl rfl rfl (by decide)) rfl rfl ?_
    refine Dv rfl rfl rfl (U_load1 rfl rfl (lkH1 hx1)) rfl rfl ?_
    refine Dv rfl rfl rfl (U_fieldAddrR rfl) rfl rfl ?_
    refine Dv rfl rfl rfl (U_load1 rfl rfl rfl) rfl rfl ?_
    refine Dv rfl rfl rfl (U_add rfl rfl (w64e (m := ((k2[i].2 + n1 : Nat) : Int)) (by omega) (by omega) (by omega))) rfl rfl ?_
    refine Dv rfl rfl rfl (U_build rfl rfl) rfl rfl ?_
    refine Dv rfl rfl rfl (U_buildSliceF (by rfl) (by decide) rfl rfl rfl) rfl rfl ?_
    refine Da rfl rfl rfl (U_appQ (b := 1) (m := 1) (cs' := (L ++ [(k2[i].1 + n1, k2[i].2 + n1)]).flatMap lkN) (n' := (L ++ [(k2[i].1 + n1, k2[i].2 + n1)]).length) (by simp) rfl rfl rfl (flat_len (z := 2) (fun _ => rfl) _) rfl rfl (by omega) (lkApp _ _ _)) rfl rfl rfl rfl ?_
    refine Dv rfl rfl rfl (U_fieldAddr rfl) rfl rfl ?_
    refine Dn_ rfl rfl rfl (U_store rfl rfl rfl rfl rfl (Nat.le_of_ble_eq_true rfl) rfl rfl) rfl rfl ?_
    refine Dr.nil rfl ?_
    refine blkQ_n ?_
    refine thenQ_n ?_
    refine W_reg rfl ?_
    refine Rv rfl rfl rfl (U_move rfl) rfl rfl ?_
    refine Rv rfl rfl rfl (U_add rfl rfl (w64e (m := ((i + 1 : Nat) : Int)) (by omega) (by omega) (by omega))) rfl rfl ?_
    refine Rv rfl rfl rfl (U_assign rfl) rfl rfl ?_
    refine Re rfl ?_
    refine thenQ_n ?_
    exact againTo (T' := [(2, .rop [i64 ((n1 : Nat) : Int), .ros (k1.flatMap lkN) k1.length c] 0), (3, .rop [i64 ((n2 : Nat) : Int), .ros (k2.flatMap lkN) k2.length d] 0), (5, .ptr 2 0), (6, i64 (((i + 1) : Nat) : Int))]) (H' := [(1, some (.cells ((L ++ [(k2[i].1 + n1, k2[i].2 + n1)]).flatMap lkN) 65)), (2, some (.cells [i64 ((n1 + n2 : Nat) : Int), .sliceo 1 0 (L ++ [(k2[i].1 + n1, k2[i].2 + n1)]).length 2] 24))]) (n := 3) (k2.length - (i + 1)) ⟨i + 1, L ++ [(k2[i].1 + n1, k2[i].2 + n1)], (by omega), (by rw [shK_S hci, ← List.append_assoc, ← hi0_1]), rfl, rfl⟩ (by omega) (mapN [0, 3, 2]) ⟨eD rfl rfl, eD rfl rfl, e_ rfl rfl, eD rfl rfl, trivial⟩ ⟨rD (flatD (fun _ => rfl) _) rfl rfl, r_ rfl rfl rfl, trivial⟩ rfl rfl rfl rfl (fun _ h => absurd h (Nat.not_lt_zero _))
  · have hLL : L = k1 ++ shK n1 k2 k2.length := by rw [hi0_1, show i = k2.length by omega]
    refine W_exit rfl ?_
    refine thenQ_x ?_
    refine thenQ_x ?_
    refine blkQ_x rfl ?_
    refine thenQ_n ?_
    refine W_seq rfl ?_
    refine W_reg rfl ?_
    refine Rv rfl rfl rfl (U_assign rfl) rfl rfl ?_
    refine Re rfl ?_
    refine thenQ_n ?_
    refine W_seq rfl ?_
    refine W_seq rfl ?_
    refine W_reg rfl ?_
    refine Rv rfl rfl rfl (U_assign rfl) rfl rfl ?_
    refine Re rfl ?_
    refine thenQ_n ?_
    refine W_block rfl ?_
    refine LoopTo (T' := [(2, .rop [i64 ((n1 : Nat) : Int), .ros (k1.flatMap lkN) k1.length c] 0), (3, .rop [i64 ((n2 : Nat) : Int), .ros (k2.flatMap lkN) k2.length d] 0), (5, .ptr 2 0), (7, i64 ((1 : Nat) : Int)), (8, i64 ((0 + 1 : Nat) : Int))]) (H' := [(1, some (.cells (L.flatMap lkN) 65)), (2, some (.cells [i64 ((n1 + n2 : Nat) : Int), .sliceo 1 0 L.length 2] 24))]) (n := 3) rfl (fun mz_ qz_ => ∃ (i : Nat) (w : Nat), i ≤ n1 ∧ w = chs (n2 + i) i ∧ mz_ = n1 - i ∧ qz_ = ⟨[(2, .rop [i64 ((n1 : Nat) : Int), .ros (k1.flatMap lkN) k1.length c] 0), (3, .rop [i64 ((n2 : Nat) : Int), .ros (k2.flatMap lkN) k2.length d] 0), (5, .ptr 2 0), (7, i64 ((w : Nat) : Int)), (8, i64 ((i + 1 : Nat) : Int))], [(1, some (.cells (L.flatMap lkN) 65)), (2, some (.cells [i64 ((n1 + n2 : Nat) : Int), .sliceo 1 0 L.length 2] 24))], 3, []⟩) ⟨0, 1, (by omega), ((chs_0 _).symm), rfl, rfl⟩ id ⟨eD rfl rfl, eD rfl rfl, e_ rfl rfl, eD rfl rfl, eD rfl rfl, trivial⟩ ⟨rD (flatD (fun _ => rfl) _) rfl rfl, r_ rfl rfl rfl, trivial⟩ rfl rfl rfl rfl (fun _ _ => rfl) ?_
    rintro _ _ ⟨i, w, hi1_0, hi1_1, rfl, rfl⟩
    have hw1 : w ≤ 3628800 := by rw [hi1_1]; exact chs_le n2 i (by omega)
    have hw2 : w * (n2 + (i + 1)) ≤ 3628800 * 11 := Nat.mul_le_mul hw1 (by omega)
    refine W_seq rfl ?_
    refine W_seq rfl ?_
    refine W_reg rfl ?_
    refine Rv rfl rfl rfl (U_move rfl) rfl rfl ?_
    refine Rv rfl rfl rfl (U_fieldAddrR rfl) rfl rfl ?_
    refine Rv rfl rfl rfl (U_load1 rfl rfl rfl) rfl rfl ?_
    refine Rv rfl rfl rfl (U_leq rfl rfl) rfl rfl ?_
    refine Re rfl ?_
    refine thenQ_n ?_
    refine WcondP rfl rfl (fun hc2 => ?_) (fun hc2 => ?_)
    · refine W_skip rfl ?_
      refine thenQ_n ?_
      refine W_seq rfl ?_
      refine W_block rfl ?_
      refine W_reg rfl ?_
      refine Rv rfl rfl rfl (U_move rfl) rfl rfl ?_
      refine Rv rfl rfl rfl (U_fieldAddrR rfl) rfl rfl ?_
      refine Rv rfl rfl rfl (U_load1 rfl rfl rfl) rfl rfl ?_
      refine Rv rfl rfl rfl (U_move rfl) rfl rfl ?_
      refine Rv rfl rfl rfl (U_add rfl rfl (w64e (m := ((n2 + (i + 1) : Nat) : Int)) (by omega) (by omega) (by omega))) rfl rfl ?_
      refine Rv rfl rfl rfl (U_mul rfl rfl (w64e (m := ((w * (n2 + (i + 1)) : Nat) : Int)) (by omega) (by omega) (by omega))) rfl rfl ?_
      refine Rv rfl rfl rfl (U_move rfl) rfl rfl ?_
      refine Rv rfl rfl rfl (U_quo (c := (((w * (n2 + (i + 1))) / (i + 1) : Nat) : Int)) rfl rfl (by omega) (wquoN (by omega))) rfl rfl ?_
      refine Rv rfl rfl rfl (U_assign rfl) rfl rfl ?_
      refine Re rfl ?_
      refine blkQ_n ?_
      refine thenQ_n ?_
      refine W_reg rfl ?_
      refine Rv rfl rfl rfl (U_move rfl) rfl rfl ?_
      refine Rv rfl rfl rfl (U_add rfl rfl (w64e (m := ((i + 1 + 1 : Nat) : Int)) (by omega) (by omega) (by omega))) rfl rfl ?_
      refine Rv rfl rfl rfl (U_assign rfl) rfl rfl ?_
      refine Re rfl ?_
      refine thenQ_n ?_
      exact againTo (T' := [(2, .rop [i64 ((n1 : Nat) : Int), .ros (k1.flatMap lkN) k1.length c] 0), (3, .rop [i64 ((n2 : Nat) : Int), .ros (k2.flatMap lkN) k2.length d] 0), (5, .ptr 2 0), (7, i64 ((((w * (n2 + (i + 1))) / (i + 1)) : Nat) : Int)), (8, i64 (((i + 1) + 1 : Nat) : Int))]) (H' := [(1, some (.cells (L.flatMap lkN) 65)), (2, some (.cells [i64 ((n1 + n2 : Nat) : Int), .sliceo 1 0 L.length 2] 24))]) (n := 3) (n1 - (i + 1)) ⟨i + 1, (w * (n2 + (i + 1))) / (i + 1), (by omega), (by rw [hi1_1, chs_step]), rfl, rfl⟩ (by omega) id ⟨eD rfl rfl, eD rfl rfl, e_ rfl rfl, eD rfl rfl, eD rfl rfl, trivial⟩ ⟨rD (flatD (fun _ => rfl) _) rfl rfl, r_ rfl rfl rfl, trivial⟩ rfl rfl rfl rfl (fun _ _ => rfl)
    · have hwe : w = chs (n2 + n1) n1 := by rw [hi1_1, show i = n1 by omega]
      have hq1 := cntQ_le hv1
      have hq2 := cntQ_le hv2
      have hq3 : cntQ n1 k1 * cntQ n2 k2 ≤ 3628800 * 3628800 := Nat.mul_le_mul hq1 hq2
      have hq4 : cntQ n1 k1 * cntQ n2 k2 * w ≤ 3628800 := by rw [hwe]; exact hq
      refine W_exit rfl ?_
      refine thenQ_x ?_
      refine thenQ_x ?_
      refine blkQ_x rfl ?_
      refine thenQ_n ?_
      refine W_seq rfl ?_
      refine W_reg rfl ?_
      refine Rv rfl rfl rfl (U_load2 rfl rfl rfl rfl) rfl rfl ?_
      refine Rv rfl rfl rfl (U_call rfl rfl (h28a) rfl) rfl rfl ?_
      refine Rv rfl rfl rfl (U_move rfl) rfl rfl ?_
      refine Rv rfl rfl rfl (U_extract rfl rfl) rfl rfl ?_
      refine Rv rfl rfl rfl (U_extract rfl rfl) rfl rfl ?_
      refine Rv rfl rfl rfl (U_assign rfl) rfl rfl ?_
      refine Rv rfl rfl rfl (U_assign rfl) rfl rfl ?_
      refine Re rfl ?_
      refine thenQ_n ?_
      refine W_seq rfl ?_
      refine W_reg rfl ?_
      refine Rv rfl rfl rfl (U_load2 rfl rfl rfl rfl) rfl rfl ?_
      refine Rv rfl rfl rfl (U_call rfl rfl (h28b) rfl) rfl rfl ?_
      refine Rv rfl rfl rfl (U_move rfl) rfl rfl ?_
      refine Rv rfl rfl rfl (U_extract rfl rfl) rfl rfl ?_
      refine Rv rfl rfl rfl (U_extract rfl rfl) rfl rfl ?_
      refine Rv rfl rfl rfl (U_assign rfl) rfl rfl ?_
      refine Rv rfl rfl rfl (U_assign rfl) rfl rfl ?_
      refine Re rfl ?_
      refine thenQ_n ?_
      refine W_seq rfl ?_
      refine W_reg rfl ?_
      refine Rv rfl rfl rfl (U_load2 rfl rfl rfl rfl) rfl rfl ?_
      refine Rv rfl rfl rfl (U_callB (Frz.fr 1 rfl (flatD (fun _ => rfl) _)) rfl rfl (by rw [hLL]; exact h28c) rfl rfl) rfl rfl ?_
      refine Rv rfl rfl rfl (U_move rfl) rfl rfl ?_
      refine Rv rfl rfl rfl (U_extract rfl rfl) rfl rfl ?_
      refine Rv rfl rfl rfl (U_extract rfl rfl) rfl rfl ?_
      refine Rv rfl rfl rfl (U_assign rfl) rfl rfl ?_
      refine Rv rfl rfl rfl (U_assign rfl) rfl rfl ?_
      refine Re rfl ?_
      refine thenQ_n ?_
      refine W_seq rfl ?_
      refine Wjoin ⟨[(4, .bool ((decide (0 ≤ ((cntQ n1 k1 : Nat) : Int))) && ((decide (((cntQ n1 k1 : Nat) : Int) ≤ 3628800)) && ((decide (0 ≤ ((cntQ n2 k2 : Nat) : Int))) && (decide (((cntQ n2 k2 : Nat) : Int) ≤ 3628800))))))], [], 0, []⟩ ?_ ?_
      · refine W_reg rfl ?_
        refine Rv rfl rfl rfl (U_move rfl) rfl rfl ?_
        refine Rv rfl rfl rfl (U_eql rfl rfl) rfl rfl ?_
        refine Rv rfl rfl rfl (U_move rfl) rfl rfl ?_
        refine Rv rfl rfl rfl (U_move rfl) rfl rfl ?_
        refine Rv rfl rfl rfl (U_eql rfl rfl) rfl rfl ?_
        refine Rv rfl rfl rfl (U_pick_t rfl rfl) rfl rfl ?_
        refine Rv rfl rfl rfl (U_move rfl) rfl rfl ?_
        refine Rv rfl rfl rfl (U_move rfl) rfl rfl ?_
        refine Rv rfl rfl rfl (U_eql rfl rfl) rfl rfl ?_
        refine Rv rfl rfl rfl (U_pick_t rfl rfl) rfl rfl ?_
        refine Rv rfl rfl rfl (U_move rfl) rfl rfl ?_
        refine Rv rfl rfl rfl (U_move rfl) rfl rfl ?_
        refine Rv rfl rfl rfl (U_geq rfl rfl) rfl rfl ?_
        refine Rv rfl rfl rfl (U_pick_t rfl rfl) rfl rfl ?_
        refine Rv rfl rfl rfl (U_move rfl) rfl rfl ?_
        refine Rsplit (t := 126) rfl (fun hg2 => ?_) (fun hg2 => ?_)
        · rw [hg2]
          have hg2' : 0 ≤ ((cntQ n1 k1 : Nat) : Int) := of_decide_eq_true hg2
          refine Rv rfl rfl rfl (U_move rfl) rfl rfl ?_
          refine Rv rfl rfl rfl (U_leq rfl rfl) rfl rfl ?_
          refine Rv rfl rfl rfl (U_pick_t rfl rfl) rfl rfl ?_
          refine Rv rfl rfl rfl (U_move rfl) rfl rfl ?_
          refine Rsplit (t := 130) rfl (fun hg3 => ?_) (fun hg3 => ?_)
          · rw [hg3]
            have hg3' : ((cntQ n1 k1 : Nat) : Int) ≤ 3628800 := of_decide_eq_true hg3
            refine Rv rfl rfl rfl (U_move rfl) rfl rfl ?_
            refine Rv rfl rfl rfl (U_geq rfl rfl) rfl rfl ?_
            refine Rv rfl rfl rfl (U_pick_t rfl rfl) rfl rfl ?_
            refine Rv rfl rfl rfl (U_move rfl) rfl rfl ?_
            refine Rsplit (t := 134) rfl (fun hg4 => ?_) (fun hg4 => ?_)
            · rw [hg4]
              have hg4' : 0 ≤ ((cntQ n2 k2 : Nat) : Int) := of_decide_eq_true hg4
              refine Rv rfl rfl rfl (U_move rfl) rfl rfl ?_
              refine Rv rfl rfl rfl (U_leq rfl rfl) rfl rfl ?_
              refine Rv rfl rfl rfl (U_pick_t rfl rfl) rfl rfl ?_
              refine Rv rfl rfl rfl (U_move rfl) rfl rfl ?_
              refine Rsplit (t := 138) rfl (fun hg5 => ?_) (fun hg5 => ?_)
              · rw [hg5]
                have hg5' : ((cntQ n2 k2 : Nat) : Int) ≤ 3628800 := of_decide_eq_true hg5
                refine Rv rfl rfl rfl (U_move rfl) rfl rfl ?_
                refine Rv rfl rfl rfl (U_move rfl) rfl rfl ?_
                refine Rv rfl rfl rfl (U_move rfl) rfl rfl ?_
                refine Rv rfl rfl rfl (U_mul rfl rfl (w64e (m := ((cntQ n1 k1 * cntQ n2 k2 : Nat) : Int)) (by omega) (by omega) (by omega))) rfl rfl ?_
                refine Rv rfl rfl rfl (U_move rfl) rfl rfl ?_
                refine Rv rfl rfl rfl (U_mul rfl rfl (w64e (m := ((cntQ n1 k1 * cntQ n2 k2 * w : Nat) : Int)) (by omega) (by omega) (by omega))) rfl rfl ?_
                refine Rv rfl rfl rfl (OpU.toB (U_eql rfl rfl) (decide_eq_true (by rw [hwe]))) rfl rfl ?_
                refine Rv rfl rfl rfl (U_pick_t rfl rfl) rfl rfl ?_
                refine Rv rfl rfl rfl (U_move rfl) rfl rfl ?_
                refine Rv rfl rfl rfl (U_call rfl rfl (works_p) rfl) rfl rfl ?_
                refine Rv rfl rfl rfl (U_pick_t rfl rfl) rfl rfl ?_
                refine Rv rfl rfl rfl (U_assign rfl) rfl rfl ?_
                refine Re rfl ?_
                exact joinTo id ⟨eD rfl rfl, trivial⟩ trivial rfl rfl rfl rfl (fun _ _ => rfl)
              · rw [hg5]
                have hg5' : ¬ (((cntQ n2 k2 : Nat) : Int) ≤ 3628800) := of_decide_eq_false hg5
                refine Rs rfl rfl rfl rfl rfl ?_
                refine Rs rfl rfl rfl rfl rfl ?_
                refine Rs rfl rfl rfl rfl rfl ?_
                refine Rs rfl rfl rfl rfl rfl ?_
                refine Rs rfl rfl rfl rfl rfl ?_
                refine Rs rfl rfl rfl rfl rfl ?_
                refine Rs rfl rfl rfl rfl rfl ?_
                refine Rv rfl rfl rfl (U_pick_f rfl rfl) rfl rfl ?_
                refine Rv rfl rfl rfl (U_move rfl) rfl rfl ?_
                refine Rs rfl rfl rfl rfl rfl ?_
                refine Rv rfl rfl rfl (U_pick_f rfl rfl) rfl rfl ?_
                refine Rv rfl rfl rfl (U_assign rfl) rfl rfl ?_
                refine Re rfl ?_
                exact joinTo id ⟨eD rfl rfl, trivial⟩ trivial rfl rfl rfl rfl (fun _ _ => rfl)
            · rw [hg4]
              have hg4' : ¬ (0 ≤ ((cntQ n2 k2 : Nat) : Int)) := of_decide_eq_false hg4
              refine Rs rfl rfl rfl rfl rfl ?_
              refine Rs rfl rfl rfl rfl rfl ?_
              refine Rv rfl rfl rfl (U_pick_f rfl rfl) rfl rfl ?_
              refine Rv rfl rfl rfl (U_move rfl) rfl rfl ?_
              refine Rs rfl rfl rfl rfl rfl ?_
              refine Rs rfl rfl rfl rfl rfl ?_
              refine Rs rfl rfl rfl rfl rfl ?_
              refine Rs rfl rfl rfl rfl rfl ?_
              refine Rs rfl rfl rfl rfl rfl ?_
              refine Rs rfl rfl rfl rfl rfl ?_
              refine Rs rfl rfl rfl rfl rfl ?_
              refine Rv rfl rfl rfl (U_pick_f rfl rfl) rfl rfl ?_
              refine Rv rfl rfl rfl (U_move rfl) rfl rfl ?_
              refine Rs rfl rfl rfl rfl rfl ?_
              refine Rv rfl rfl rfl (U_pick_f rfl rfl) rfl rfl ?_
              refine Rv rfl rfl rfl (U_assign rfl) rfl rfl ?_
              refine Re rfl ?_
              exact joinTo id ⟨eD rfl rfl, trivial⟩ trivial rfl rfl rfl rfl (fun _ _ => rfl)
          · rw [hg3]
            have hg3' : ¬ (((cntQ n1 k1 : Nat) : Int) ≤ 3628800) := of_decide_eq_false hg3
            refine Rs rfl rfl rfl rfl rfl ?_
            refine Rs rfl rfl rfl rfl rfl ?_
            refine Rv rfl rfl rfl (U_pick_f rfl rfl) rfl rfl ?_
            refine Rv rfl rfl rfl (U_move rfl) rfl rfl ?_
            refine Rs rfl rfl rfl rfl rfl ?_
            refine Rs rfl rfl rfl rfl rfl ?_
            refine Rv rfl rfl rfl (U_pick_f rfl rfl) rfl rfl ?_
            refine Rv rfl rfl rfl (U_move rfl) rfl rfl ?_
            refine Rs rfl rfl rfl rfl rfl ?_
            refine Rs rfl rfl rfl rfl rfl ?_
            refine Rs rfl rfl rfl rfl rfl ?_
            refine Rs rfl rfl rfl rfl rfl ?_
            refine Rs rfl rfl rfl rfl rfl ?_
            refine Rs rfl rfl rfl rfl rfl ?_
            refine Rs rfl rfl rfl rfl rfl ?_
            refine Rv rfl rfl rfl (U_pick_f rfl rfl) rfl rfl ?_
            refine Rv rfl rfl rfl (U_move rfl) rfl rfl ?_
            refine Rs rfl rfl rfl rfl rfl ?_
            refine Rv rfl rfl rfl (U_pick_f rfl rfl) rfl rfl ?_
            refine Rv rfl rfl rfl (U_assign rfl) rfl rfl ?_
            refine Re rfl ?_
            exact joinTo id ⟨eD rfl rfl, trivial⟩ trivial rfl rfl rfl rfl (fun _ _ => rfl)
        · rw [hg2]
          have hg2' : ¬ (0 ≤ ((cntQ n1 k1 : Nat) : Int)) := of_decide_eq_false hg2
          refine Rs rfl rfl rfl rfl rfl ?_
          refine Rs rfl rfl rfl rfl rfl ?_
          refine Rv rfl rfl rfl (U_pick_f rfl rfl) rfl rfl ?_
          refine Rv rfl rfl rfl (U_move rfl) rfl rfl ?_
          refine Rs rfl rfl rfl rfl rfl ?_
          refine Rs rfl rfl rfl rfl rfl ?_
          refine Rv rfl rfl rfl (U_pick_f rfl rfl) rfl rfl ?_
          refine Rv rfl rfl rfl (U_move rfl) rfl rfl ?_
          refine Rs rfl rfl rfl rfl rfl ?_
          refine Rs rfl rfl rfl rfl rfl ?_
          refine Rv rfl rfl rfl (U_pick_f rfl rfl) rfl rfl ?_
          refine Rv rfl rfl rfl (U_move rfl) rfl rfl ?_
          refine Rs rfl rfl rfl rfl rfl ?_
          refine Rs rfl rfl rfl rfl rfl ?_
          refine Rs rfl rfl rfl rfl rfl ?_
          refine Rs rfl rfl rfl rfl rfl ?_
          refine Rs rfl rfl rfl rfl rfl ?_
          refine Rs rfl rfl rfl rfl rfl ?_
          refine Rs rfl rfl rfl rfl rfl ?_
          refine Rv rfl rfl rfl (U_pick_f rfl rfl) rfl rfl ?_
          refine Rv rfl rfl rfl (U_move rfl) rfl rfl ?_
          refine Rs rfl rfl rfl rfl rfl ?_
          refine Rv rfl rfl rfl (U_pick_f rfl rfl) rfl rfl ?_
          refine Rv rfl rfl rfl (U_assign rfl) rfl rfl ?_
          refine Re rfl ?_
          exact joinTo id ⟨eD rfl rfl, trivial⟩ trivial rfl rfl rfl rfl (fun _ _ => rfl)
      refine thenQ_n ?_
      refine W_ret rfl ?_
      exact retL (rlT rfl rl0) (by first | rfl | (simp only [packA]; congr 1; simp only [Bool.and_eq_true, decide_eq_true_eq]; omega; first | done | rfl)) rfl
theorem cntP (n : Nat) (ks : List (Nat × Nat)) (c : Option Nat) (hv : VB n ks) (h40 : ks.length ≤ 40) : Pure Try.prog 28 [bknA n ks c] (.tup [i64 ((cntQ n ks : Nat) : Int), i64 0]) := by
  rcases acy_or n ks with ha | ⟨g, hg⟩
  · exact countP_a n ks c hv h40 ha
  · rw [cnt_cyc hv hg]; exact countP_y n ks c hv h40 g hg
theorem rankApart_p (b e : Bk) (c d : Option Nat) : Pure Try.prog 15 [bookA b c, bookA e d] (.bool true) := by
  cases hf : fneB b with
  | false => exact apart_a b e c d hf
  | true =>
    cases hg : fneB e with
    | false => exact apart_b b e c d hf hg
    | true =>
      have h1 := fine_T b c hf
      have h2 := fine_T e d hg
      obtain ⟨n1, k1, rfl, hv1, h41⟩ := chkB_ok (fne_ok hf)
      obtain ⟨n2, k2, rfl, hv2, h42⟩ := chkB_ok (fne_ok hg)
      rw [bk_eq] at h1 h2 ⊢
      rw [bk_eq]
      by_cases hs : n1 + n2 ≤ 10
      · by_cases hk : k1.length + k2.length ≤ 40
        · have hv := vb_apart hv1 hv2 hs (by omega)
          have hc := cnt_apart hv1 hv2 hv
          have hl := cntQ_le hv
          have e1 : shK n1 k2 k2.length = shL n1 k2 := by rw [shK, List.take_length]
          have h3 := cntP (n1 + n2) (k1 ++ shL n1 k2) none hv (by rw [List.length_append, shL, List.length_map]; exact hk)
          rw [hc] at h3 hl
          rw [Nat.add_comm n1 n2] at hl
          rw [← e1] at h3
          refine apart_e n1 n2 k1 k2 c d h1 h2 hv1 hv2 h41 h42 hs hk hl (cntP n1 k1 c hv1 h41) (cntP n2 k2 d hv2 h42) ?_
          have e2 : chs (n1 + n2) n1 = chs (n2 + n1) n1 := by rw [Nat.add_comm]
          rw [← e2]; exact h3
        · exact apart_d n1 n2 k1 k2 c d h1 h2 hv1 hv2 h41 h42 hs hk
      · exact apart_c n1 n2 k1 k2 c d h1 h2 hv1 hv2 h41 h42 hs
end Go.Proofs.Ythmibifghihdaaa
end
