import Derived.ChangeKeysEq
import Derived.WideKeyRuns
import Derived.WalkSpells
import Derived.Test.YthmibifghihdaaaM5
set_option linter.all false
section
namespace Go.AE
open Go.RowKit
section
variable {ρ : Env} {Φ : Fz} {w : World}
end
section
variable {C : Ctx} {o : Oper} {T : AT} {H : AH} {nx nx' : Nat} {v : AV} {ups : AH}
end
section ops
variable {C : Ctx} {T : AT} {H : AH} {nx : Nat} {d : Option Tmp} {ty : TypeId} {pos : String} {after : Array Edge} {g : Option (Nat × Bool)}
section num
variable {x y : Operand} {k : IntKind} {a b c : Int} {t t' : TypeId}
theorem U_leq (hx : ev T x = some (.int k a)) (hy : ev T y = some (.int k b)) : OpU C ⟨d, .binOp .leq t x y t', ty, pos, after, g⟩ T H nx (.bool (decide (a ≤ b))) [] nx :=
  binInt hx hy rfl (by simp) fun w => ⟨.bool (decide (a ≤ b)), by simp [binOp, Op.intCmp], fun _ _ => mk_bool⟩
end num
end ops
end Go.AE
end

section
namespace Go.AE
open Go.RowKit
section
variable {P : Program}
end
section ops
variable {C : Ctx} {T : AT} {H : AH} {nx : Nat} {d : Option Tmp} {ty : TypeId} {pos : String} {after : Array Edge} {g : Option (Nat × Bool)}
theorem U_neqA {t t' : TypeId} {x y : Operand} {cs ds : List AV} {ks : List IntKind} {ns ms : List Int} {p : Prop} [Decidable p] [hT : TyEq C.P t ks] (hx : ev T x = some (.agg cs)) (hy : ev T y = some (.agg ds)) (h1 : numsOf cs = some ns) (h2 : numsOf ds = some ms) (k1 : kindsA cs = ks) (k2 : kindsA ds = ks) (hp : (ns = ms) ↔ p) :
    OpU C ⟨d, .binOp .neq t x y t', ty, pos, after, g⟩ T H nx (.bool (decide (¬ p))) [] nx :=
  OpU.of_value (by intro c; simp) fun ρ Φ a w h3 _ => by
    obtain ⟨e1, e2⟩ := numsOf_agg h1 (ev_con h3 hx)
    obtain ⟨e3, e4⟩ := numsOf_agg h2 (ev_con h3 hy)
    rw [k1] at e1 e2; rw [k2] at e3 e4
    refine ⟨.bool (decide (¬ p)), ?_, mk_bool⟩
    have := hT.run e2 e4 w
    have hdec : decide (ns = ms) = decide p := decide_eq_decide.2 hp
    simp only [execOp, e1, e3, Sem.run_bind, run_eqGuard_agg w _ t _ _ _ _ hT.guard, Result.andThen_ok, run_neq_struct]
    rw [show (Op.equalIn 10000 t (.agg (mkI ks ns).toArray) (.agg (mkI ks ms).toArray)).run C.P w = .ok (decide (ns = ms)) w from this, hdec]
    simp
theorem U_neqB {t t' : TypeId} {x y : Operand} {a b : Bool} [hT : TyBool C.P t] (hx : ev T x = some (.bool a)) (hy : ev T y = some (.bool b)) : OpU C ⟨d, .binOp .neq t x y t', ty, pos, after, g⟩ T H nx (.bool (decide (a ≠ b))) [] nx :=
  OpU.of_value (by intro c; simp) fun ρ Φ ac w h2 _ => ⟨.bool (decide (a ≠ b)), by
    simp [execOp, con_bool (ev_con h2 hx), con_bool (ev_con h2 hy), eqGuard, binOp, Op.equal, Op.maxDepth, run_equalIn_bool w 9999 t a b hT.un]
    cases a <;> cases b <;> rfl, mk_bool⟩
end ops
section
variable {P : Program} {w0 : World} {Φ0 : Fz} {nt : Nat} {T : AT} {H : AH} {nx : Nat}
end
end Go.AE
end

section
namespace Go.Proofs.Ythmibifghihdaaa
set_option maxRecDepth 20000
open Go.AE
theorem chkB_ok {b : Bk} (h : chkB b = 0) : ∃ (n : Nat) (ks : List (Nat × Nat)), b = ⟨n, ks.map cP⟩ ∧ VB n ks ∧ ks.length ≤ 40 := by
  unfold chkB at h
  split at h
  · omega
  · rename_i h1
    split at h
    · omega
    · rename_i h2
      have h1' : (1 ≤ b.n ∧ b.n ≤ 10) ∧ b.ls.length ≤ 40 := by simp [inL1] at h1; omega
      have h2' : ∀ p ∈ b.ls, (0 ≤ p.1 ∧ p.1 < b.n) ∧ (0 ≤ p.2 ∧ p.2 < b.n) ∧ p.1 ≠ p.2 := by
        intro p hp
        have : strB b.n p = false := by
          cases e : strB b.n p with
          | false => rfl
          | true => exact absurd (List.any_eq_true.2 ⟨p, hp, e⟩) h2
        rw [strB_eq] at this; simp [staB] at this; omega
      refine ⟨b.n.toNat, b.ls.map fun p => (p.1.toNat, p.2.toNat), ?_, ⟨by omega, by omega, by simp; omega, fun p hp => ?_⟩, by simp; omega⟩
      · obtain ⟨n, ls⟩ := b
        simp only at h1' h2'
        have e1 : ((n.toNat : Nat) : Int) = n := by omega
        have e2 : (ls.map fun p => (p.1.toNat, p.2.toNat)).map cP = ls := by
          rw [List.map_map]
          refine (List.map_congr_left fun p hp => ?_).trans (List.map_id _)
          have := h2' p hp
          refine Prod.ext ?_ ?_ <;> simp [cP] <;> omega
        rw [e1, e2]
      · obtain ⟨q, hq, rfl⟩ := List.mem_map.1 hp
        have := h2' q hq
        refine ⟨?_, ?_, ?_⟩ <;> simp only <;> omega
end Go.Proofs.Ythmibifghihdaaa
end

section
namespace Go.Proofs.Ythmibifghihdaaa
set_option maxRecDepth 20000
open Go.AE
theorem withinF_p (lo hi : Int) (l : List Int) (c : Option Nat) (hl : l.length ≤ 1000000) (h : inL lo hi l = false) : Pure Try.prog 56 [i64 lo, i64 hi, intsA l c] (.bool false) := by have := within_p lo hi l c hl; rwa [h] at this
end Go.Proofs.Ythmibifghihdaaa
end

section
namespace Go.Proofs.Ythmibifghihdaaa
set_option maxRecDepth 20000
open Go.AE
section
variable {n : Nat} {ks : List (Nat × Nat)} {m : Nat}
theorem nxB_R (hv : VB n ks) {bf : Nat → Nat} (hb : ∀ a x, (bf a).testBit x = true ↔ (x, a) ∈ ks) {m a : Nat} (h : nxB (briQ n ks) m a = true) : nxR bf m a = true := by
  rw [nxR_iff hb]
  have := (nxB_iff hv).1 h
  exact ⟨this.1, fun x hx => this.2 x (.one hx)⟩
theorem en_same (hv : VB n ks) {bf : Nat → Nat} (hb : ∀ a x, (bf a).testBit x = true ↔ (x, a) ∈ ks) : ∀ (k m : Nat), cntN n m + k = n → m < 2 ^ n → DC ks m → en n (nxB (briQ n ks)) m = en n (nxR bf) m
  | 0, m, h, hm, _ => by
    have e : m = full n := Classical.byContradiction fun e => by have := cnt_lt hm e; omega
    subst e; rw [en_full, en_full]
  | k + 1, m, h, hm, hd => by
    by_cases e : m = full n
    · subst e; rw [en_full, en_full]
    · rw [en_eq (nxB_nxt _) hm e, en_eq (nxR_nxt _) hm e]
      refine sum_congr fun a ha => ?_
      rw [nx_same hv hb hd]
      split
      · rename_i h1
        have h2 := nxR_nxt _ _ _ h1
        have h3 := cnt_ad (List.mem_range.1 ha) h2
        exact en_same hv hb k _ (by omega) (ad_lt hm (List.mem_range.1 ha)) (dc_ad hd ((nxR_iff hb).1 h1).2)
      · rfl
theorem en_pos (hv : VB n ks) (ha : Acy n ks) : ∀ (k m : Nat), cntN n m + k = n → m < 2 ^ n → 0 < en n (nxB (briQ n ks)) m
  | 0, m, h, hm => by
    have e : m = full n := Classical.byContradiction fun e => by have := cnt_lt hm e; omega
    subst e; rw [en_full]; omega
  | k + 1, m, h, hm => by
    by_cases e : m = full n
    · subst e; rw [en_full]; omega
    · rw [en_eq (nxB_nxt _) hm e]
      obtain ⟨b, hb, hnb⟩ := nxt_some hv ha hm e
      have h3 := cnt_ad hb (nxB_tb hnb)
      refine sum_pos (List.mem_range.2 hb) ?_
      rw [if_pos hnb]
      exact en_pos hv ha k _ (by omega) (ad_lt hm hb)
end
end Go.Proofs.Ythmibifghihdaaa
end

section
namespace Go.Proofs.Ythmibifghihdaaa
set_option maxRecDepth 20000
open Go.AE
theorem nats_of {n : Nat} {l : List Int} (h : inL 0 (((n : Nat) : Int) - 1) l = true) : ∃ q : List Nat, l = q.map Int.ofNat ∧ (∀ x ∈ q, x < n) ∧ q = l.map Int.toNat := by
  rw [inL, List.all_eq_true] at h
  have h : ∀ x ∈ l, 0 ≤ x ∧ x ≤ (n : Int) - 1 := fun x hx => by simpa using h x hx
  refine ⟨l.map Int.toNat, ?_, fun x hx => ?_, rfl⟩
  · rw [List.map_map]
    refine ((List.map_congr_left fun x hx => ?_).trans (List.map_id l)).symm
    have := h x hx
    simp only [Function.comp, Int.ofNat_eq_natCast, id]; omega
  · obtain ⟨y, hy, rfl⟩ := List.mem_map.1 hx
    have := h y hy; omega
theorem checkOrder_l (n : Nat) (ks : List (Nat × Nat)) (c : Option Nat) (hv : VB n ks) (h40 : ks.length ≤ 40) (l : List Int) (d : Option Nat) (hll : l.length ≤ 1000000) (hne : ¬ l.length = n) : Pure Try.prog 22 [bknA n ks c, intsA l d] (i64 15) := by
  have hv' := hv
  obtain ⟨hn1, hn, hkl, hk⟩ := hv'
  have hk2 := vb_lt hv
  refine pure_of_body Try.func22 (c := body Try.f22) rfl (by simp [Try.ntmps22]) fun w0 Φ0 => ?_
  refine W_seq rfl ?_
  refine W_reg rfl ?_
  refine Rv rfl rfl rfl (U_boxF rfl rfl rfl) rfl rfl ?_
  refine Rv rfl rfl rfl (U_assign rfl) rfl rfl ?_
  refine Re rfl ?_
  refine thenQ_n ?_
  refine W_seq rfl ?_
  refine W_reg rfl ?_
  refine Rv rfl rfl rfl (U_load2 rfl rfl rfl rfl) rfl rfl ?_
  refine Rv rfl rfl rfl (U_call rfl rfl (openG_p n ks c hv h40) rfl) rfl rfl ?_
  refine Rv rfl rfl rfl (U_move rfl) rfl rfl ?_
  refine Rv rfl rfl rfl (U_extract rfl rfl) rfl rfl ?_
  refine Rv rfl rfl rfl (U_extract rfl rfl) rfl rfl ?_
  refine Rv rfl rfl rfl (U_assign rfl) rfl rfl ?_
  refine Rv rfl rfl rfl (U_assign rfl) rfl rfl ?_
  refine Re rfl ?_
  refine thenQ_n ?_
  refine W_seq rfl ?_
  refine W_block rfl ?_
  refine W_seq rfl ?_
  refine W_reg rfl ?_
  refine Rv rfl rfl rfl (U_move rfl) rfl rfl ?_
  refine Rv rfl rfl rfl (U_neq rfl rfl) rfl rfl ?_
  refine Rv rfl rfl rfl (U_assign rfl) rfl rfl ?_
  refine Re rfl ?_
  refine thenQ_n ?_
  refine WcondP rfl rfl (fun h => absurd h (by decide)) (fun _ => ?_)
  refine W_seq rfl ?_
  refine W_reg rfl ?_
  refine Rv rfl rfl rfl (U_move rfl) rfl rfl ?_
  refine Rv rfl rfl rfl (U_lenOf rfl len_ros) rfl rfl ?_
  refine Rv rfl rfl rfl (U_fieldAddrR rfl) rfl rfl ?_
  refine Rv rfl rfl rfl (U_load1 rfl rfl rfl) rfl rfl ?_
  refine Rv rfl rfl rfl (U_neq rfl rfl) rfl rfl ?_
  refine Rv rfl rfl rfl (U_assign rfl) rfl rfl ?_
  refine Re rfl ?_
  refine thenQ_n ?_
  refine WcondP rfl rfl (fun hc1 => ?_) (fun hc1 => absurd (by omega) hc1)
  refine W_seq rfl ?_
  refine W_reg rfl ?_
  refine Rv rfl rfl rfl (U_assign rfl) rfl rfl ?_
  refine Re rfl ?_
  refine thenQ_n ?_
  refine W_ret rfl ?_
  refine blkQ_r ?_
  refine thenQ_r ?_
  exact retL (rlT rfl rl0) rfl rfl
theorem checkOrder_i (n : Nat) (ks : List (Nat × Nat)) (c : Option Nat) (hv : VB n ks) (h40 : ks.length ≤ 40) (l : List Int) (d : Option Nat) (hll : l.length ≤ 1000000) (hne : l.length = n) (hin : inL 0 (((n : Nat) : Int) - 1) l = false) : Pure Try.prog 22 [bknA n ks c, intsA l d] (i64 2) := by
  have hv' := hv
  obtain ⟨hn1, hn, hkl, hk⟩ := hv'
  have hk2 := vb_lt hv
  refine pure_of_body Try.func22 (c := body Try.f22) rfl (by simp [Try.ntmps22]) fun w0 Φ0 => ?_
  refine W_seq rfl ?_
  refine W_reg rfl ?_
  refine Rv rfl rfl rfl (U_boxF rfl rfl rfl) rfl rfl ?_
  refine Rv rfl rfl rfl (U_assign rfl) rfl rfl ?_
  refine Re rfl ?_
  refine thenQ_n ?_
  refine W_seq rfl ?_
  refine W_reg rfl ?_
  refine Rv rfl rfl rfl (U_load2 rfl rfl rfl rfl) rfl rfl ?_
  refine Rv rfl rfl rfl (U_call rfl rfl (openG_p n ks c hv h40) rfl) rfl rfl ?_
  refine Rv rfl rfl rfl (U_move rfl) rfl rfl ?_
  refine Rv rfl rfl rfl (U_extract rfl rfl) rfl rfl ?_
  refine Rv rfl rfl rfl (U_extract rfl rfl) rfl rfl ?_
  refine Rv rfl rfl rfl (U_assign rfl) rfl rfl ?_
  refine Rv rfl rfl rfl (U_assign rfl) rfl rfl ?_
  refine Re rfl ?_
  refine thenQ_n ?_
  refine W_seq rfl ?_
  refine W_block rfl ?_
  refine W_seq rfl ?_
  refine W_reg rfl ?_
  refine Rv rfl rfl rfl (U_move rfl) rfl rfl ?_
  refine Rv rfl rfl rfl (U_neq rfl rfl) rfl rfl ?_
  refine Rv rfl rfl rfl (U_assign rfl) rfl rfl ?_
  refine Re rfl ?_
  refine thenQ_n ?_
  refine WcondP rfl rfl (fun h => absurd h (by decide)) (fun _ => ?_)
  refine W_seq rfl ?_
  refine W_reg rfl ?_
  refine Rv rfl rfl rfl (U_move rfl) rfl rfl ?_
  refine Rv rfl rfl rfl (U_lenOf rfl len_ros) rfl rfl ?_
  refine Rv rfl rfl rfl (U_fieldAddrR rfl) rfl rfl ?_
  refine Rv rfl rfl rfl (U_load1 rfl rfl rfl) rfl rfl ?_
  refine Rv rfl rfl rfl (U_neq rfl rfl) rfl rfl ?_
  refine Rv rfl rfl rfl (U_assign rfl) rfl rfl ?_
  refine Re rfl ?_
  refine thenQ_n ?_
  refine WcondP rfl rfl (fun hc1 => absurd hc1 (by omega)) (fun hc1 => ?_)
  refine W_seq rfl ?_
  refine W_reg rfl ?_
  refine Rv rfl rfl rfl (U_fieldAddrR rfl) rfl rfl ?_
  refine Rv rfl rfl rfl (U_load1 rfl rfl rfl) rfl rfl ?_
  refine Rv rfl rfl rfl (U_sub rfl rfl (w64 (by omega) (by omega))) rfl rfl ?_
  refine Rv rfl rfl rfl (U_move rfl) rfl rfl ?_
  refine Rv rfl rfl rfl (U_call rfl rfl (withinF_p 0 (((n : Nat) : Int) - 1) l d (by first | assumption | omega | (simp; done) | (simp; omega)) (by assumption)) rfl) rfl rfl ?_
  refine Rv rfl rfl rfl (U_not rfl) rfl rfl ?_
  refine Rv rfl rfl rfl (U_assign rfl) rfl rfl ?_
  refine Re rfl ?_
  refine thenQ_n ?_
  refine Wcond rfl rfl (fun _ => ?_) (fun h => nomatch h)
  refine W_seq rfl ?_
  refine W_reg rfl ?_
  refine Rv rfl rfl rfl (U_assign rfl) rfl rfl ?_
  refine Re rfl ?_
  refine thenQ_n ?_
  refine W_ret rfl ?_
  refine blkQ_r ?_
  refine thenQ_r ?_
  exact retL (rlT rfl rl0) rfl rfl
end Go.Proofs.Ythmibifghihdaaa
end

section
namespace Go.Proofs.Ythmibifghihdaaa
set_option maxRecDepth 20000
open Go.AE
theorem idx_at {q : List Nat} (hn : q.Nodup) {i : Nat} (hi : i < q.length) : idxI (fun y => decide (q[i] = y)) q = i :=
  idx_hit hi (fun j hj h => by
    have := List.pairwise_iff_getElem.1 hn j i hj hi h
    simp; exact fun e => this e.symm) (by simp)
theorem vio_iff {n : Nat} {ks : List (Nat × Nat)} (hv : VB n ks) {q : List Nat} (hn : q.Nodup) (hl : q.length = n) (hq : ∀ x ∈ q, x < n) : ks.any (vioP q) = true ↔ ∃ i k, k < i ∧ i < q.length ∧ (q.getD i 0, q.getD k 0) ∈ ks := by
  rw [List.any_eq_true]
  constructor
  · rintro ⟨p, hp, h⟩
    have h1 := hv.2.2.2 p hp
    obtain ⟨i, hi, e1⟩ := List.getElem_of_mem (all_in hn hl hq h1.1)
    obtain ⟨k, hk, e2⟩ := List.getElem_of_mem (all_in hn hl hq h1.2.1)
    unfold vioP at h
    rw [← e1, ← e2, idx_at hn hi, idx_at hn hk] at h
    have h : k < i := by simpa using h
    refine ⟨i, k, h, hi, ?_⟩
    rw [getD_eq hi, getD_eq hk, e1, e2]; exact hp
  · rintro ⟨i, k, h1, h2, h3⟩
    refine ⟨_, h3, ?_⟩
    rw [getD_eq h2, getD_eq (by omega : k < q.length)]
    unfold vioP
    rw [idx_at hn h2, idx_at hn (by omega)]
    simpa using h1
theorem inL_of {n : Nat} {l : List Int} (h : ∀ j (hj : j < l.length), staB (n : Nat) l[j] = true) : inL 0 (((n : Nat) : Int) - 1) l = true := by
  rw [inL, List.all_eq_true]
  intro x hx
  obtain ⟨j, hj, rfl⟩ := List.getElem_of_mem hx
  have := h j hj
  simp [staB] at this; simp; omega
theorem checkOrderR_l (n : Nat) (ks : List (Nat × Nat)) (c : Option Nat) (hv : VB n ks) (h40 : ks.length ≤ 40) (l : List Int) (d : Option Nat) (hll : l.length ≤ 1000000) (hne : ¬ l.length = n) : Pure Try.prog 23 [bknA n ks c, intsA l d] (i64 15) := by
  have hv' := hv
  obtain ⟨hn1, hn, hkl, hk⟩ := hv'
  have hk2 := vb_lt hv
  refine pure_of_body Try.func23 (c := body Try.f23) rfl (by simp [Try.ntmps23]) fun w0 Φ0 => ?_
  refine W_seq rfl ?_
  refine W_reg rfl ?_
  refine Rv rfl rfl rfl (U_boxF rfl rfl rfl) rfl rfl ?_
  refine Rv rfl rfl rfl (U_assign rfl) rfl rfl ?_
  refine Re rfl ?_
  refine thenQ_n ?_
  refine W_seq rfl ?_
  refine W_seq rfl ?_
  refine W_reg rfl ?_
  refine Rv rfl rfl rfl (U_load2 rfl rfl rfl rfl) rfl rfl ?_
  refine Rv rfl rfl rfl (U_call rfl rfl (chkBRG_p n ks c hv h40) rfl) rfl rfl ?_
  refine Rv rfl rfl rfl (U_neq rfl rfl) rfl rfl ?_
  refine Re rfl ?_
  refine thenQ_n ?_
  refine WcondP rfl rfl (fun h => absurd h (by decide)) (fun _ => ?_)
  refine W_skip rfl ?_
  refine thenQ_n ?_
  refine W_seq rfl ?_
  refine W_seq rfl ?_
  refine W_reg rfl ?_
  refine Rv rfl rfl rfl (U_move rfl) rfl rfl ?_
  refine Rv rfl rfl rfl (U_lenOf rfl len_ros) rfl rfl ?_
  refine Rv rfl rfl rfl (U_fieldAddrR rfl) rfl rfl ?_
  refine Rv rfl rfl rfl (U_load1 rfl rfl rfl) rfl rfl ?_
  refine Rv rfl rfl rfl (U_neq rfl rfl) rfl rfl ?_
  refine Re rfl ?_
  refine thenQ_n ?_
  refine WcondP rfl rfl (fun hc1 => ?_) (fun hc1 => absurd (by omega) hc1)
  refine W_seq rfl ?_
  refine W_reg rfl ?_
  refine Rv rfl rfl rfl (U_assign rfl) rfl rfl ?_
  refine Re rfl ?_
  refine thenQ_n ?_
  refine W_ret rfl ?_
  refine thenQ_r ?_
  exact retL (rlT rfl rl0) rfl rfl
theorem checkOrderR_i (n : Nat) (ks : List (Nat × Nat)) (c : Option Nat) (hv : VB n ks) (h40 : ks.length ≤ 40) (l : List Int) (d : Option Nat) (hll : l.length ≤ 1000000) (hne : l.length = n) (hin : inL 0 (((n : Nat) : Int) - 1) l = false) : Pure Try.prog 23 [bknA n ks c, intsA l d] (i64 2) := by
  have hv' := hv
  obtain ⟨hn1, hn, hkl, hk⟩ := hv'
  have hk2 := vb_lt hv
  refine pure_of_body Try.func23 (c := body Try.f23) rfl (by simp [Try.ntmps23]) fun w0 Φ0 => ?_
  refine W_seq rfl ?_
  refine W_reg rfl ?_
  refine Rv rfl rfl rfl (U_boxF rfl rfl rfl) rfl rfl ?_
  refine Rv rfl rfl rfl (U_assign rfl) rfl rfl ?_
  refine Re rfl ?_
  refine thenQ_n ?_
  refine W_seq rfl ?_
  refine W_seq rfl ?_
  refine W_reg rfl ?_
  refine Rv rfl rfl rfl (U_load2 rfl rfl rfl rfl) rfl rfl ?_
  refine Rv rfl rfl rfl (U_call rfl rfl (chkBRG_p n ks c hv h40) rfl) rfl rfl ?_
  refine Rv rfl rfl rfl (U_neq rfl rfl) rfl rfl ?_
  refine Re rfl ?_
  refine thenQ_n ?_
  refine WcondP rfl rfl (fun h => absurd h (by decide)) (fun _ => ?_)
  refine W_skip rfl ?_
  refine thenQ_n ?_
  refine W_seq rfl ?_
  refine W_seq rfl ?_
  refine W_reg rfl ?_
  refine Rv rfl rfl rfl (U_move rfl) rfl rfl ?_
  refine Rv rfl rfl rfl (U_lenOf rfl len_ros) rfl rfl ?_
  refine Rv rfl rfl rfl (U_fieldAddrR rfl) rfl rfl ?_
  refine Rv rfl rfl rfl (U_load1 rfl rfl rfl) rfl rfl ?_
  refine Rv rfl rfl rfl (U_neq rfl rfl) rfl rfl ?_
  refine Re rfl ?_
  refine thenQ_n ?_
  refine WcondP rfl rfl (fun hc1 => absurd hc1 (by omega)) (fun hc1 => ?_)
  refine W_skip rfl ?_
  refine thenQ_n ?_
  refine W_seq rfl ?_
  refine W_seq rfl ?_
  refine W_reg rfl ?_
  refine Rv rfl rfl rfl (U_assign rfl) rfl rfl ?_
  refine Re rfl ?_
  refine thenQ_n ?_
  refine W_block rfl ?_
  refine LoopTo (T' := [(1, .ros (l.map i64) l.length d), (2, .rop [i64 ((n : Nat) : Int), .ros (ks.flatMap lkN) ks.length c] 0), (5, i64 ((0 : Nat) : Int))]) (H' := []) (n := 0) rfl (fun mz_ qz_ => ∃ (k : Nat), k ≤ l.length ∧ (∀ j (hj : j < l.length), j < k → staB (n : Nat) l[j] = true) ∧ mz_ = l.length - k ∧ qz_ = ⟨[(1, .ros (l.map i64) l.length d), (2, .rop [i64 ((n : Nat) : Int), .ros (ks.flatMap lkN) ks.length c] 0), (5, i64 ((k : Nat) : Int))], [], 0, []⟩) ⟨0, (by omega), (fun j hj h => absurd h (Nat.not_lt_zero _)), rfl, rfl⟩ id ⟨eD rfl rfl, eD rfl rfl, eD rfl rfl, trivial⟩ trivial rfl rfl rfl rfl (fun _ _ => rfl) ?_
  rintro _ _ ⟨k, hi0_0, hi0_1, rfl, rfl⟩
  refine W_seq rfl ?_
  refine W_seq rfl ?_
  refine W_reg rfl ?_
  refine Rv rfl rfl rfl (U_move rfl) rfl rfl ?_
  refine Rv rfl rfl rfl (U_move rfl) rfl rfl ?_
  refine Rv rfl rfl rfl (U_lenOf rfl len_ros) rfl rfl ?_
  refine Rv rfl rfl rfl (U_lss rfl rfl) rfl rfl ?_
  refine Re rfl ?_
  refine thenQ_n ?_
  refine WcondP rfl rfl (fun hc2 => ?_) (fun hc2 => ?_)
  · have hck : k < l.length := by omega
    refine W_skip rfl ?_
    refine thenQ_n ?_
    refine W_seq rfl ?_
    refine W_block rfl ?_
    refine W_seq rfl ?_
    refine Wdraw rfl (by kernel_rfl) (by kernel_rfl) ?_
    refine Dv rfl rfl rfl (U_load2 rfl rfl rfl rfl) rfl rfl ?_
    refine Dv rfl rfl rfl (U_move rfl) rfl rfl ?_
    refine Dv rfl rfl rfl (U_move rfl) rfl rfl ?_
    have hx1 : k < l.length := by omega
    refine Dv rfl rfl rfl (U_indexR (j := k) rfl rfl rfl hx1) rfl rfl ?_
    refine Dv rfl rfl rfl (U_load1 rfl rfl (getM hx1)) rfl rfl ?_
    refine Dv rfl rfl rfl (U_call rfl rfl (isStarG_p n ks c l[k]) rfl) rfl rfl ?_
    refine Dv rfl rfl rfl (U_not rfl) rfl rfl ?_
    refine Dr.nil rfl ?_
    refine thenQ_n ?_
    refine Wcond rfl rfl (fun hc3 => ?_) (fun hc3 => ?_)
    · refine W_seq rfl ?_
      refine W_reg rfl ?_
      refine Rv rfl rfl rfl (U_assign rfl) rfl rfl ?_
      refine Re rfl ?_
      refine thenQ_n ?_
      refine W_ret rfl ?_
      refine blkQ_r ?_
      refine thenQ_r ?_
      refine thenQ_r ?_
      refine blkQ_r ?_
      refine thenQ_r ?_
      exact retL (rlT rfl rl0) rfl rfl
    · have hc3' := Bool.eq_false_iff.1 hc3
      refine W_skip rfl ?_
      refine blkQ_n ?_
      refine thenQ_n ?_
      refine W_reg rfl ?_
      refine Rv rfl rfl rfl (U_move rfl) rfl rfl ?_
      refine Rv rfl rfl rfl (U_add rfl rfl (w64e (m := ((k + 1 : Nat) : Int)) (by omega) (by omega) (by omega))) rfl rfl ?_
      refine Rv rfl rfl rfl (U_assign rfl) rfl rfl ?_
      refine Re rfl ?_
      refine thenQ_n ?_
      exact againTo (T' := [(1, .ros (l.map i64) l.length d), (2, .rop [i64 ((n : Nat) : Int), .ros (ks.flatMap lkN) ks.length c] 0), (5, i64 (((k + 1) : Nat) : Int))]) (H' := []) (n := 0) (l.length - (k + 1)) ⟨k + 1, (by omega), (by intro j hj h; rcases Nat.lt_succ_iff_lt_or_eq.1 h with h | rfl; exact hi0_1 j hj h; simpa using hc3), rfl, rfl⟩ (by omega) id ⟨eD rfl rfl, eD rfl rfl, eD rfl rfl, trivial⟩ trivial rfl rfl rfl rfl (fun _ _ => rfl)
  · exact absurd (inL_of fun j hj => hi0_1 j hj (by omega)) (by rw [hin]; simp)
theorem checkOrderR_n (n : Nat) (ks : List (Nat × Nat)) (c : Option Nat) (hv : VB n ks) (h40 : ks.length ≤ 40) (q : List Nat) (d : Option Nat) (hql : q.length ≤ 1000000) (hqn : ∀ x ∈ q, x < n) (hne : q.length = n) : Pure Try.prog 23 [bknA n ks c, natsA q d] (i64 (chkON ks q)) := by
  have hv' := hv
  obtain ⟨hn1, hn, hkl, hk⟩ := hv'
  have hk2 := vb_lt hv
  refine pure_of_body Try.func23 (c := body Try.f23) rfl (by simp [Try.ntmps23]) fun w0 Φ0 => ?_
  refine W_seq rfl ?_
  refine W_reg rfl ?_
  refine Rv rfl rfl rfl (U_boxF rfl rfl rfl) rfl rfl ?_
  refine Rv rfl rfl rfl (U_assign rfl) rfl rfl ?_
  refine Re rfl ?_
  refine thenQ_n ?_
  refine W_seq rfl ?_
  refine W_seq rfl ?_
  refine W_reg rfl ?_
  refine Rv rfl rfl rfl (U_load2 rfl rfl rfl rfl) rfl rfl ?_
  refine Rv rfl rfl rfl (U_call rfl rfl (chkBRG_p n ks c hv h40) rfl) rfl rfl ?_
  refine Rv rfl rfl rfl (U_neq rfl rfl) rfl rfl ?_
  refine Re rfl ?_
  refine thenQ_n ?_
  refine WcondP rfl rfl (fun h => absurd h (by decide)) (fun _ => ?_)
  refine W_skip rfl ?_
  refine thenQ_n ?_
  refine W_seq rfl ?_
  refine W_seq rfl ?_
  refine W_reg rfl ?_
  refine Rv rfl rfl rfl (U_move rfl) rfl rfl ?_
  refine Rv rfl rfl rfl (U_lenOf rfl len_ros) rfl rfl ?_
  refine Rv rfl rfl rfl (U_fieldAddrR rfl) rfl rfl ?_
  refine Rv rfl rfl rfl (U_load1 rfl rfl rfl) rfl rfl ?_
  refine Rv rfl rfl rfl (U_neq rfl rfl) rfl rfl ?_
  refine Re rfl ?_
  refine thenQ_n ?_
  refine WcondP rfl rfl (fun hc1 => absurd hc1 (by omega)) (fun hc1 => ?_)
  refine W_skip rfl ?_
  refine thenQ_n ?_
  refine W_seq rfl ?_
  refine W_seq rfl ?_
  refine W_reg rfl ?_
  refine Rv rfl rfl rfl (U_assign rfl) rfl rfl ?_
  refine Re rfl ?_
  refine thenQ_n ?_
  refine W_block rfl ?_
  refine LoopTo (T' := [(1, .ros (q.map n64) q.length d), (2, .rop [i64 ((n : Nat) : Int), .ros (ks.flatMap lkN) ks.length c] 0), (5, i64 ((0 : Nat) : Int))]) (H' := []) (n := 0) rfl (fun mz_ qz_ => ∃ (k : Nat), k ≤ q.length ∧ mz_ = q.length - k ∧ qz_ = ⟨[(1, .ros (q.map n64) q.length d), (2, .rop [i64 ((n : Nat) : Int), .ros (ks.flatMap lkN) ks.length c] 0), (5, i64 ((k : Nat) : Int))], [], 0, []⟩) ⟨0, (by omega), rfl, rfl⟩ id ⟨eD rfl rfl, eD rfl rfl, eD rfl rfl, trivial⟩ trivial rfl rfl rfl rfl (fun _ _ => rfl) ?_
  rintro _ _ ⟨k, hi0_0, rfl, rfl⟩
  refine W_seq rfl ?_
  refine W_seq rfl ?_
  refine W_reg rfl ?_
  refine Rv rfl rfl rfl (U_move rfl) rfl rfl ?_
  refine Rv rfl rfl rfl (U_move rfl) rfl rfl ?_
  refine Rv rfl rfl rfl (U_lenOf rfl len_ros) rfl rfl ?_
  refine Rv rfl rfl rfl (U_lss rfl rfl) rfl rfl ?_
  refine Re rfl ?_
  refine thenQ_n ?_
  refine WcondP rfl rfl (fun hc2 => ?_) (fun hc2 => ?_)
  · have hck : k < q.length := by omega
    have hqk := hqn _ (List.getElem_mem hck)
    refine W_skip rfl ?_
    refine thenQ_n ?_
    refine W_seq rfl ?_
    refine W_block rfl ?_
    refine W_seq rfl ?_
    refine Wdraw rfl (by kernel_rfl) (by kernel_rfl) ?_
    refine Dv rfl rfl rfl (U_load2 rfl rfl rfl rfl) rfl rfl ?_
    refine Dv rfl rfl rfl (U_move rfl) rfl rfl ?_
    refine Dv rfl rfl rfl (U_move rfl) rfl rfl ?_
    have hx1 : k < q.length := by omega
    refine Dv rfl rfl rfl (U_indexR (j := k) rfl rfl rfl hx1) rfl rfl ?_
    refine Dv rfl rfl rfl (U_load1 rfl rfl (getM hx1)) rfl rfl ?_
    refine Dv rfl rfl rfl (U_call rfl rfl (isStarG_p n ks c ((q[k] : Nat) : Int)) rfl) rfl rfl ?_
    refine Dv rfl rfl rfl (U_not rfl) rfl rfl ?_
    refine Dr.nil rfl ?_
    refine thenQ_n ?_
    refine Wcond rfl rfl (fun hc3 => absurd hc3 (by rw [sta_nat hqk]; simp)) (fun hc3 => ?_)
    refine W_skip rfl ?_
    refine blkQ_n ?_
    refine thenQ_n ?_
    refine W_reg rfl ?_
    refine Rv rfl rfl rfl (U_move rfl) rfl rfl ?_
    refine Rv rfl rfl rfl (U_add rfl rfl (w64e (m := ((k + 1 : Nat) : Int)) (by omega) (by omega) (by omega))) rfl rfl ?_
    refine Rv rfl rfl rfl (U_assign rfl) rfl rfl ?_
    refine Re rfl ?_
    refine thenQ_n ?_
    exact againTo (T' := [(1, .ros (q.map n64) q.length d), (2, .rop [i64 ((n : Nat) : Int), .ros (ks.flatMap lkN) ks.length c] 0), (5, i64 (((k + 1) : Nat) : Int))]) (H' := []) (n := 0) (q.length - (k + 1)) ⟨k + 1, (by omega), rfl, rfl⟩ (by omega) id ⟨eD rfl rfl, eD rfl rfl, eD rfl rfl, trivial⟩ trivial rfl rfl rfl rfl (fun _ _ => rfl)
  · refine W_exit rfl ?_
    refine thenQ_x ?_
    refine thenQ_x ?_
    refine blkQ_x rfl ?_
    refine thenQ_n ?_
    refine W_seq rfl ?_
    refine W_seq rfl ?_
    refine W_reg rfl ?_
    refine Rv rfl rfl rfl (U_assign rfl) rfl rfl ?_
    refine Re rfl ?_
    refine thenQ_n ?_
    refine W_block rfl ?_
    refine LoopTo (T' := [(1, .ros (q.map n64) q.length d), (2, .rop [i64 ((n : Nat) : Int), .ros (ks.flatMap lkN) ks.length c] 0), (6, i64 ((0 : Nat) : Int))]) (H' := []) (n := 0) rfl (fun mz_ qz_ => ∃ (i : Nat), i ≤ q.length ∧ (q.take i).Nodup ∧ mz_ = q.length - i ∧ qz_ = ⟨[(1, .ros (q.map n64) q.length d), (2, .rop [i64 ((n : Nat) : Int), .ros (ks.flatMap lkN) ks.length c] 0), (6, i64 ((i : Nat) : Int))], [], 0, []⟩) ⟨0, (by omega), (by simp), rfl, rfl⟩ id ⟨eD rfl rfl, eD rfl rfl, eD rfl rfl, trivial⟩ trivial rfl rfl rfl rfl (fun _ _ => rfl) ?_
    rintro _ _ ⟨i, hi1_0, hi1_1, rfl, rfl⟩
    refine W_seq rfl ?_
    refine W_seq rfl ?_
    refine W_reg rfl ?_
    refine Rv rfl rfl rfl (U_move rfl) rfl rfl ?_
    refine Rv rfl rfl rfl (U_move rfl) rfl rfl ?_
    refine Rv rfl rfl rfl (U_lenOf rfl len_ros) rfl rfl ?_
    refine Rv rfl rfl rfl (U_lss rfl rfl) rfl rfl ?_
    refine Re rfl ?_
    refine thenQ_n ?_
    refine WcondP rfl rfl (fun hc4 => ?_) (fun hc4 => ?_)
    · have hci : i < q.length := by omega
      refine W_skip rfl ?_
      refine thenQ_n ?_
      refine W_seq rfl ?_
      refine W_block rfl ?_
      refine W_seq rfl ?_
      refine W_reg rfl ?_
      refine Rv rfl rfl rfl (U_assign rfl) rfl rfl ?_
      refine Re rfl ?_
      refine thenQ_n ?_
      refine W_block rfl ?_
      refine LoopTo (T' := [(1, .ros (q.map n64) q.length d), (2, .rop [i64 ((n : Nat) : Int), .ros (ks.flatMap lkN) ks.length c] 0), (6, i64 ((i : Nat) : Int)), (7, i64 ((0 : Nat) : Int))]) (H' := []) (n := 0) rfl (fun mz_ qz_ => ∃ (k : Nat), k ≤ i ∧ (∀ j (hj : j < i), j < k → q[j]'(by omega) ≠ q[i]) ∧ mz_ = i - k ∧ qz_ = ⟨[(1, .ros (q.map n64) q.length d), (2, .rop [i64 ((n : Nat) : Int), .ros (ks.flatMap lkN) ks.length c] 0), (6, i64 ((i : Nat) : Int)), (7, i64 ((k : Nat) : Int))], [], 0, []⟩) ⟨0, (by omega), (fun j hj h => absurd h (Nat.not_lt_zero _)), rfl, rfl⟩ id ⟨eD rfl rfl, eD rfl rfl, eD rfl rfl, eD rfl rfl, trivial⟩ trivial rfl rfl rfl rfl (fun _ _ => rfl) ?_
      rintro _ _ ⟨k, hi2_0, hi2_1, rfl, rfl⟩
      refine W_seq rfl ?_
      refine W_seq rfl ?_
      refine W_reg rfl ?_
      refine Rv rfl rfl rfl (U_move rfl) rfl rfl ?_
      refine Rv rfl rfl rfl (U_move rfl) rfl rfl ?_
      refine Rv rfl rfl rfl (U_lss rfl rfl) rfl rfl ?_
      refine Re rfl ?_
      refine thenQ_n ?_
      refine WcondP rfl rfl (fun hc5 => ?_) (fun hc5 => ?_)
      · have hkq : k < q.length := by omega
        refine W_skip rfl ?_
        refine thenQ_n ?_
        refine W_seq rfl ?_
        refine W_block rfl ?_
        refine W_seq rfl ?_
        refine Wdraw rfl (by kernel_rfl) (by kernel_rfl) ?_
        refine Dv rfl rfl rfl (U_move rfl) rfl rfl ?_
        refine Dv rfl rfl rfl (U_move rfl) rfl rfl ?_
        have hx2 : k < q.length := by omega
        refine Dv rfl rfl rfl (U_indexR (j := k) rfl rfl rfl hx2) rfl rfl ?_
        refine Dv rfl rfl rfl (U_load1 rfl rfl (getM hx2)) rfl rfl ?_
        refine Dv rfl rfl rfl (U_move rfl) rfl rfl ?_
        refine Dv rfl rfl rfl (U_move rfl) rfl rfl ?_
        have hx3 : i < q.length := by omega
        refine Dv rfl rfl rfl (U_indexR (j := i) rfl rfl rfl hx3) rfl rfl ?_
        refine Dv rfl rfl rfl (U_load1 rfl rfl (getM hx3)) rfl rfl ?_
        refine Dv rfl rfl rfl (U_eql rfl rfl) rfl rfl ?_
        refine Dr.nil rfl ?_
        refine thenQ_n ?_
        refine WcondP rfl rfl (fun hc6 => ?_) (fun hc6 => ?_)
        · refine W_seq rfl ?_
          refine W_reg rfl ?_
          refine Rv rfl rfl rfl (U_assign rfl) rfl rfl ?_
          refine Re rfl ?_
          refine thenQ_n ?_
          refine W_ret rfl ?_
          refine blkQ_r ?_
          refine thenQ_r ?_
          refine thenQ_r ?_
          refine blkQ_r ?_
          refine blkQ_r ?_
          refine thenQ_r ?_
          refine thenQ_r ?_
          refine blkQ_r ?_
          refine thenQ_r ?_
          exact retL (rlT rfl rl0) (by first | rfl | (simp only [packA]; rw [chkON, if_pos (not_nodup hci (List.any_eq_true.2 ⟨q[k], List.mem_take_iff_getElem.2 ⟨k, by omega, rfl⟩, by simp; omega⟩))]; first | done | rfl) | (simp only [packA]; rw [chkON, if_neg (by simpa using hnd), if_pos ((vio_iff hv hnd hne hqn).2 ⟨i, k, by omega, hci, by rw [getD_eq hci, getD_eq hkq]; simpa using hc9⟩)]; first | done | rfl) | (simp only [packA]; rw [chkON, if_neg (by simpa using hnd), if_neg fun h => by obtain ⟨i2, j, h1, h2, h3⟩ := (vio_iff hv hnd hne hqn).1 h; exact hi3_1 i2 j h1 (by omega) h3]; first | done | rfl)) rfl
        · refine W_skip rfl ?_
          refine blkQ_n ?_
          refine thenQ_n ?_
          refine W_reg rfl ?_
          refine Rv rfl rfl rfl (U_move rfl) rfl rfl ?_
          refine Rv rfl rfl rfl (U_add rfl rfl (w64e (m := ((k + 1 : Nat) : Int)) (by omega) (by omega) (by omega))) rfl rfl ?_
          refine Rv rfl rfl rfl (U_assign rfl) rfl rfl ?_
          refine Re rfl ?_
          refine thenQ_n ?_
          exact againTo (T' := [(1, .ros (q.map n64) q.length d), (2, .rop [i64 ((n : Nat) : Int), .ros (ks.flatMap lkN) ks.length c] 0), (6, i64 ((i : Nat) : Int)), (7, i64 (((k + 1) : Nat) : Int))]) (H' := []) (n := 0) (i - (k + 1)) ⟨k + 1, (by omega), (by intro j hj h; rcases Nat.lt_succ_iff_lt_or_eq.1 h with h | rfl; exact hi2_1 j hj h; omega), rfl, rfl⟩ (by omega) id ⟨eD rfl rfl, eD rfl rfl, eD rfl rfl, eD rfl rfl, trivial⟩ trivial rfl rfl rfl rfl (fun _ _ => rfl)
      · refine W_exit rfl ?_
        refine thenQ_x ?_
        refine thenQ_x ?_
        refine blkQ_x rfl ?_
        refine blkQ_n ?_
        refine thenQ_n ?_
        refine W_reg rfl ?_
        refine Rv rfl rfl rfl (U_move rfl) rfl rfl ?_
        refine Rv rfl rfl rfl (U_add rfl rfl (w64e (m := ((i + 1 : Nat) : Int)) (by omega) (by omega) (by omega))) rfl rfl ?_
        refine Rv rfl rfl rfl (U_assign rfl) rfl rfl ?_
        refine Re rfl ?_
        refine thenQ_n ?_
        exact againTo (T' := [(1, .ros (q.map n64) q.length d), (2, .rop [i64 ((n : Nat) : Int), .ros (ks.flatMap lkN) ks.length c] 0), (6, i64 (((i + 1) : Nat) : Int))]) (H' := []) (n := 0) (q.length - (i + 1)) ⟨i + 1, (by omega), (by refine nodup_take hci hi1_1 ?_; rw [any_false]; intro j hj; have h3 : j < i := (by rw [List.length_take] at hj; omega); have h4 := hi2_1 j h3 (by omega); rw [List.getElem_take, decide_eq_false_iff_not]; exact fun e => h4 e.symm), rfl, rfl⟩ (by omega) id ⟨eD rfl rfl, eD rfl rfl, eD rfl rfl, trivial⟩ trivial rfl rfl rfl rfl (fun _ _ => rfl)
    · have hnd : q.Nodup := by have := hi1_1; rwa [List.take_of_length_le (by omega)] at this
      refine W_exit rfl ?_
      refine thenQ_x ?_
      refine thenQ_x ?_
      refine blkQ_x rfl ?_
      refine thenQ_n ?_
      refine W_seq rfl ?_
      refine W_seq rfl ?_
      refine W_reg rfl ?_
      refine Rv rfl rfl rfl (U_assign rfl) rfl rfl ?_
      refine Re rfl ?_
      refine thenQ_n ?_
      refine W_block rfl ?_
      refine LoopTo (T' := [(1, .ros (q.map n64) q.length d), (2, .rop [i64 ((n : Nat) : Int), .ros (ks.flatMap lkN) ks.length c] 0), (8, i64 ((0 : Nat) : Int))]) (H' := []) (n := 0) rfl (fun mz_ qz_ => ∃ (i : Nat), i ≤ q.length ∧ (∀ i2 j, j < i2 → i2 < i → (q.getD i2 0, q.getD j 0) ∉ ks) ∧ mz_ = q.length - i ∧ qz_ = ⟨[(1, .ros (q.map n64) q.length d), (2, .rop [i64 ((n : Nat) : Int), .ros (ks.flatMap lkN) ks.length c] 0), (8, i64 ((i : Nat) : Int))], [], 0, []⟩) ⟨0, (by omega), (fun i2 j _ h => absurd h (Nat.not_lt_zero _)), rfl, rfl⟩ id ⟨eD rfl rfl, eD rfl rfl, eD rfl rfl, trivial⟩ trivial rfl rfl rfl rfl (fun _ _ => rfl) ?_
      rintro _ _ ⟨i, hi3_0, hi3_1, rfl, rfl⟩
      refine W_seq rfl ?_
      refine W_seq rfl ?_
      refine W_reg rfl ?_
      refine Rv rfl rfl rfl (U_move rfl) rfl rfl ?_
      refine Rv rfl rfl rfl (U_move rfl) rfl rfl ?_
      refine Rv rfl rfl rfl (U_lenOf rfl len_ros) rfl rfl ?_
      refine Rv rfl rfl rfl (U_lss rfl rfl) rfl rfl ?_
      refine Re rfl ?_
      refine thenQ_n ?_
      refine WcondP rfl rfl (fun hc7 => ?_) (fun hc7 => ?_)
      · have hci : i < q.length := by omega
        refine W_skip rfl ?_
        refine thenQ_n ?_
        refine W_seq rfl ?_
        refine W_block rfl ?_
        refine W_seq rfl ?_
        refine W_reg rfl ?_
        refine Rv rfl rfl rfl (U_assign rfl) rfl rfl ?_
        refine Re rfl ?_
        refine thenQ_n ?_
        refine W_block rfl ?_
        refine LoopTo (T' := [(1, .ros (q.map n64) q.length d), (2, .rop [i64 ((n : Nat) : Int), .ros (ks.flatMap lkN) ks.length c] 0), (8, i64 ((i : Nat) : Int)), (9, i64 ((0 : Nat) : Int))]) (H' := []) (n := 0) rfl (fun mz_ qz_ => ∃ (k : Nat), k ≤ i ∧ (∀ j, j < k → (q.getD i 0, q.getD j 0) ∉ ks) ∧ mz_ = i - k ∧ qz_ = ⟨[(1, .ros (q.map n64) q.length d), (2, .rop [i64 ((n : Nat) : Int), .ros (ks.flatMap lkN) ks.length c] 0), (8, i64 ((i : Nat) : Int)), (9, i64 ((k : Nat) : Int))], [], 0, []⟩) ⟨0, (by omega), (fun j h => absurd h (Nat.not_lt_zero _)), rfl, rfl⟩ id ⟨eD rfl rfl, eD rfl rfl, eD rfl rfl, eD rfl rfl, trivial⟩ trivial rfl rfl rfl rfl (fun _ _ => rfl) ?_
        rintro _ _ ⟨k, hi4_0, hi4_1, rfl, rfl⟩
        refine W_seq rfl ?_
        refine W_seq rfl ?_
        refine W_reg rfl ?_
        refine Rv rfl rfl rfl (U_move rfl) rfl rfl ?_
        refine Rv rfl rfl rfl (U_move rfl) rfl rfl ?_
        refine Rv rfl rfl rfl (U_lss rfl rfl) rfl rfl ?_
        refine Re rfl ?_
        refine thenQ_n ?_
        refine WcondP rfl rfl (fun hc8 => ?_) (fun hc8 => ?_)
        · have hkq : k < q.length := by omega
          refine W_skip rfl ?_
          refine thenQ_n ?_
          refine W_seq rfl ?_
          refine W_block rfl ?_
          refine W_seq rfl ?_
          refine Wdraw rfl (by kernel_rfl) (by kernel_rfl) ?_
          refine Dv rfl rfl rfl (U_load2 rfl rfl rfl rfl) rfl rfl ?_
          refine Dv rfl rfl rfl (U_move rfl) rfl rfl ?_
          refine Dv rfl rfl rfl (U_move rfl) rfl rfl ?_
          have hx4 : i < q.length := by omega
          refine Dv rfl rfl rfl (U_indexR (j := i) rfl rfl rfl hx4) rfl rfl ?_
          refine Dv rfl rfl rfl (U_load1 rfl rfl (getM hx4)) rfl rfl ?_
          refine Dv rfl rfl rfl (U_move rfl) rfl rfl ?_
          refine Dv rfl rfl rfl (U_move rfl) rfl rfl ?_
          have hx5 : k < q.length := by omega
          refine Dv rfl rfl rfl (U_indexR (j := k) rfl rfl rfl hx5) rfl rfl ?_
          refine Dv rfl rfl rfl (U_load1 rfl rfl (getM hx5)) rfl rfl ?_
          refine Dv rfl rfl rfl (U_call rfl rfl (look_p n ks c q[i] q[k] (by first | assumption | omega)) rfl) rfl rfl ?_
          refine Dr.nil rfl ?_
          refine thenQ_n ?_
          refine WcondP rfl rfl (fun hc9 => ?_) (fun hc9 => ?_)
          · refine W_seq rfl ?_
            refine W_reg rfl ?_
            refine Rv rfl rfl rfl (U_assign rfl) rfl rfl ?_
            refine Re rfl ?_
            refine thenQ_n ?_
            refine W_ret rfl ?_
            refine blkQ_r ?_
            refine thenQ_r ?_
            refine thenQ_r ?_
            refine blkQ_r ?_
            refine blkQ_r ?_
            refine thenQ_r ?_
            refine thenQ_r ?_
            refine blkQ_r ?_
            refine thenQ_r ?_
            exact retL (rlT rfl rl0) (by first | rfl | (simp only [packA]; rw [chkON, if_pos (not_nodup hci (List.any_eq_true.2 ⟨q[k], List.mem_take_iff_getElem.2 ⟨k, by omega, rfl⟩, by simp; omega⟩))]; first | done | rfl) | (simp only [packA]; rw [chkON, if_neg (by simpa using hnd), if_pos ((vio_iff hv hnd hne hqn).2 ⟨i, k, by omega, hci, by rw [getD_eq hci, getD_eq hkq]; simpa using hc9⟩)]; first | done | rfl) | (simp only [packA]; rw [chkON, if_neg (by simpa using hnd), if_neg fun h => by obtain ⟨i2, j, h1, h2, h3⟩ := (vio_iff hv hnd hne hqn).1 h; exact hi3_1 i2 j h1 (by omega) h3]; first | done | rfl)) rfl
          · refine W_skip rfl ?_
            refine blkQ_n ?_
            refine thenQ_n ?_
            refine W_reg rfl ?_
            refine Rv rfl rfl rfl (U_move rfl) rfl rfl ?_
            refine Rv rfl rfl rfl (U_add rfl rfl (w64e (m := ((k + 1 : Nat) : Int)) (by omega) (by omega) (by omega))) rfl rfl ?_
            refine Rv rfl rfl rfl (U_assign rfl) rfl rfl ?_
            refine Re rfl ?_
            refine thenQ_n ?_
            exact againTo (T' := [(1, .ros (q.map n64) q.length d), (2, .rop [i64 ((n : Nat) : Int), .ros (ks.flatMap lkN) ks.length c] 0), (8, i64 ((i : Nat) : Int)), (9, i64 (((k + 1) : Nat) : Int))]) (H' := []) (n := 0) (i - (k + 1)) ⟨k + 1, (by omega), (by intro j h; rcases Nat.lt_succ_iff_lt_or_eq.1 h with h | rfl; exact hi4_1 j h; rw [getD_eq hci, getD_eq (by omega)]; simpa using hc9), rfl, rfl⟩ (by omega) id ⟨eD rfl rfl, eD rfl rfl, eD rfl rfl, eD rfl rfl, trivial⟩ trivial rfl rfl rfl rfl (fun _ _ => rfl)
        · refine W_exit rfl ?_
          refine thenQ_x ?_
          refine thenQ_x ?_
          refine blkQ_x rfl ?_
          refine blkQ_n ?_
          refine thenQ_n ?_
          refine W_reg rfl ?_
          refine Rv rfl rfl rfl (U_move rfl) rfl rfl ?_
          refine Rv rfl rfl rfl (U_add rfl rfl (w64e (m := ((i + 1 : Nat) : Int)) (by omega) (by omega) (by omega))) rfl rfl ?_
          refine Rv rfl rfl rfl (U_assign rfl) rfl rfl ?_
          refine Re rfl ?_
          refine thenQ_n ?_
          exact againTo (T' := [(1, .ros (q.map n64) q.length d), (2, .rop [i64 ((n : Nat) : Int), .ros (ks.flatMap lkN) ks.length c] 0), (8, i64 (((i + 1) : Nat) : Int))]) (H' := []) (n := 0) (q.length - (i + 1)) ⟨i + 1, (by omega), (by intro i2 j h1 h2; rcases Nat.lt_succ_iff_lt_or_eq.1 h2 with h | rfl; exact hi3_1 i2 j h1 h; exact hi4_1 j (by omega)), rfl, rfl⟩ (by omega) id ⟨eD rfl rfl, eD rfl rfl, eD rfl rfl, trivial⟩ trivial rfl rfl rfl rfl (fun _ _ => rfl)
      · refine W_exit rfl ?_
        refine thenQ_x ?_
        refine thenQ_x ?_
        refine blkQ_x rfl ?_
        refine thenQ_n ?_
        refine W_seq rfl ?_
        refine W_reg rfl ?_
        refine Rv rfl rfl rfl (U_assign rfl) rfl rfl ?_
        refine Re rfl ?_
        refine thenQ_n ?_
        refine W_ret rfl ?_
        exact retL (rlT rfl rl0) (by first | rfl | (simp only [packA]; rw [chkON, if_pos (not_nodup hci (List.any_eq_true.2 ⟨q[k], List.mem_take_iff_getElem.2 ⟨k, by omega, rfl⟩, by simp; omega⟩))]; first | done | rfl) | (simp only [packA]; rw [chkON, if_neg (by simpa using hnd), if_pos ((vio_iff hv hnd hne hqn).2 ⟨i, k, by omega, hci, by rw [getD_eq hci, getD_eq hkq]; simpa using hc9⟩)]; first | done | rfl) | (simp only [packA]; rw [chkON, if_neg (by simpa using hnd), if_neg fun h => by obtain ⟨i2, j, h1, h2, h3⟩ := (vio_iff hv hnd hne hqn).1 h; exact hi3_1 i2 j h1 (by omega) h3]; first | done | rfl)) rfl
end Go.Proofs.Ythmibifghihdaaa
end

section
namespace Go.Proofs.Ythmibifghihdaaa
set_option maxRecDepth 20000
open Go.AE
theorem bfL_S {n : Nat} {ks : List (Nat × Nat)} {k : Nat} (h : k < ks.length) : bfL n (ks.take (k + 1)) = (bfL n (ks.take k)).set ks[k].2 ((bfL n (ks.take k)).getD ks[k].2 0 ||| 1 <<< ks[k].1) := by
  unfold bfL; rw [List.take_succ_eq_append_getElem h, List.foldl_append]; rfl
theorem bf_ok : ∀ (ks : List (Nat × Nat)) (o : List Nat), (∀ x ∈ o, x < 1024) → (∀ p ∈ ks, p.1 < 10) → (ks.foldl (fun o p => o.set p.2 (o.getD p.2 0 ||| 1 <<< p.1)) o).length = o.length ∧ ∀ x ∈ ks.foldl (fun o p => o.set p.2 (o.getD p.2 0 ||| 1 <<< p.1)) o, x < 1024
  | [], o, h, _ => ⟨rfl, h⟩
  | p :: ks, o, h, hk => by
    have h1 : o.getD p.2 0 < 1024 := by
      by_cases e : p.2 < o.length
      · rw [getD_eq e]; exact h _ (List.getElem_mem _)
      · rw [List.getD_eq_getElem?_getD, List.getElem?_eq_none (by omega)]; decide
    have := bf_ok ks (o.set p.2 (o.getD p.2 0 ||| 1 <<< p.1)) (fun x hx => by
      rcases List.mem_or_eq_of_mem_set hx with hx | rfl
      · exact h x hx
      · exact or1024 h1 (shl1024 (hk p (by simp)))) fun q hq => hk q (by simp [hq])
    rw [List.length_set] at this
    exact this
section
variable {n : Nat} {ks : List (Nat × Nat)}
theorem bfL_len (hv : VB n ks) (k : Nat) : (bfL n (ks.take k)).length = n := by
  have := (bf_ok (ks.take k) (List.replicate n 0) (by simp) fun p hp => (vb10 hv p (List.mem_of_mem_take hp)).1).1
  simpa [bfL] using this
theorem bfL_lt (hv : VB n ks) (k : Nat) : ∀ x ∈ bfL n (ks.take k), x < 1024 := (bf_ok (ks.take k) (List.replicate n 0) (by simp) fun p hp => (vb10 hv p (List.mem_of_mem_take hp)).1).2
theorem bfL_len' (hv : VB n ks) : (bfL n ks).length = n := by have := bfL_len hv ks.length; rwa [List.take_length] at this
theorem bfL_lt' (hv : VB n ks) : ∀ x ∈ bfL n ks, x < 1024 := by have := bfL_lt hv ks.length; rwa [List.take_length] at this
end
section
variable {n : Nat} {nx : Nat → Nat → Bool}
def upK (n : Nat) (nx : Nat → Nat → Bool) (s k : Nat) : List Nat := (List.range (1 <<< n)).map fun j => Wp n nx s j + ((List.range k).map fun a => if (nx s a && decide (ad s a = j)) = true then up n nx s else 0).sum
theorem upK_len {s k : Nat} : (upK n nx s k).length = 1 <<< n := by simp [upK]
theorem upK_at {s k j : Nat} (h : j < (upK n nx s k).length) : (upK n nx s k)[j] = Wp n nx s j + ((List.range k).map fun a => if (nx s a && decide (ad s a = j)) = true then up n nx s else 0).sum := by simp [upK]
theorem upK_0 : (List.replicate (1 <<< n) 0).set 0 1 = upK n nx 0 0 := by
  refine List.ext_getElem (by simp [upK]) fun j h1 h2 => ?_
  rw [upK_at, List.getElem_set, Wp_0]
  by_cases e : j = 0
  · subst e; simp
  · simp [e, show ¬ 0 = j by omega]
theorem upK_all (hx : Nxt nx) {s : Nat} : upK n nx s n = upK n nx (s + 1) 0 := by
  refine List.ext_getElem (by simp [upK]) fun j h1 h2 => ?_
  rw [upK_at, upK_at, Wp_S hx]; simp
theorem upK_self (hx : Nxt nx) {s k : Nat} (hs : s < 2 ^ n) (h : s < (upK n nx s k).length) : (upK n nx s k)[s] = up n nx s := by
  rw [upK_at, Wp_end hs (Nat.le_refl _)]
  have : ((List.range k).map fun a => if (nx s a && decide (ad s a = s)) = true then up n nx s else 0) = (List.range k).map fun _ => 0 := List.map_congr_left fun a _ => by
    rw [if_neg]
    intro h
    simp only [Bool.and_eq_true, decide_eq_true_eq] at h
    have := ad_gt (hx _ _ h.1); omega
  rw [this]
  have e : ∀ (l : List Nat), (l.map fun _ => 0).sum = 0 := fun l => by induction l with | nil => rfl | cons x l ih => simpa using ih
  rw [e]; omega
theorem upK_T (hx : Nxt nx) {s k : Nat} (hs : s < 2 ^ n) (h : nx s k = true) {u v : Nat} (hi : ad s k < (upK n nx s k).length) (hu : u = (upK n nx s k)[ad s k]) (hv : v = up n nx s) : (upK n nx s k).set (ad s k) (u + v) = upK n nx s (k + 1) := by
  refine List.ext_getElem (by simp [upK]) fun j h1 h2 => ?_
  rw [List.getElem_set]
  split
  · rename_i e; subst e
    rw [hu, hv, upK_at, upK_at, List.range_succ, List.map_append, List.sum_append]; simp [h]; omega
  · rename_i e
    rw [upK_at, upK_at, List.range_succ, List.map_append, List.sum_append]; simp [e]
theorem upK_F {s k : Nat} (h : nx s k = false) : upK n nx s k = upK n nx s (k + 1) := by
  refine List.ext_getElem (by simp [upK]) fun j h1 h2 => ?_
  rw [upK_at, upK_at, List.range_succ, List.map_append, List.sum_append]; simp [h]
theorem upK_le (hn : n ≤ 10) (hx : Nxt nx) {s k j : Nat} (hk : k ≤ n) (hj : j < 2 ^ n) (h : j < (upK n nx s k).length) : (upK n nx s k)[j] ≤ 3628800 := by
  rw [upK_at]
  have h1 := Wp_mono (nx := nx) (s := s + 1) hj
  rw [Wp_S hx] at h1
  have h2 : ((List.range k).map fun a => if (nx s a && decide (ad s a = j)) = true then up n nx s else 0).sum ≤ ((List.range n).map fun a => if (nx s a && decide (ad s a = j)) = true then up n nx s else 0).sum := by
    obtain ⟨d, rfl⟩ : ∃ d, n = k + d := ⟨n - k, by omega⟩
    rw [List.range_add, List.map_append, List.sum_append]; omega
  exact Nat.le_trans (Nat.le_trans (Nat.add_le_add_left h2 _) h1) (up_lt hn hj)
theorem upK_end {j : Nat} (hj : j < 2 ^ n) (h : j < (upK n nx (1 <<< n) 0).length) : (upK n nx (1 <<< n) 0)[j] = up n nx j := by
  rw [upK_at, Wp_end hj (by rw [one_shl]; omega)]; simp
def enR (n : Nat) (nx : Nat → Nat → Bool) (m k : Nat) : Nat := if m = full n then 1 else enP n nx m ((List.range k).filter (nx m))
def enK (n : Nat) (nx : Nat → Nat → Bool) (m k : Nat) : List Nat := (enV n nx (m + 1)).set m (enR n nx m k)
theorem enK_len {m k : Nat} : (enK n nx m k).length = 1 <<< n := by simp [enK, enV_len]
theorem enK_0 {m : Nat} (hm : m < 2 ^ n) : enK n nx m 0 = enV n nx (min (m + 1) (full n)) := by
  refine List.ext_getElem (by simp [enK, enV_len]) fun j h1 h2 => ?_
  have hj : j < 2 ^ n := by rw [enK_len] at h1; rwa [← one_shl (n := n)]
  have hf : full n = 2 ^ n - 1 := rfl
  simp only [enK]
  rw [List.getElem_set]
  split
  · rename_i e; subst e
    rw [enV_at]
    unfold enR
    split
    · rename_i e2; rw [if_pos (by omega)]; conv => rhs; rw [e2]
      exact en_full.symm
    · rename_i e2; rw [if_neg (by omega)]; rfl
  · rename_i e
    rw [enV_at, enV_at]
    by_cases h3 : m + 1 ≤ j
    · rw [if_pos h3, if_pos (by omega)]
    · rw [if_neg h3, if_neg (by omega)]
theorem enR_all (hx : Nxt nx) {m : Nat} (hm : m < 2 ^ n) : enR n nx m n = en n nx m := by
  unfold enR
  split
  · rename_i e; subst e; exact en_full.symm
  · rename_i e
    rw [enP, sum_filter, en_eq hx hm e]
theorem enK_all (hx : Nxt nx) {m : Nat} (hm : m < 2 ^ n) : enK n nx m n = enV n nx (min m (full n)) := by
  rw [enK, enR_all hx hm, enV_set]
  have : full n = 2 ^ n - 1 := rfl
  rw [Nat.min_eq_left (by omega)]
theorem enR_T {m k : Nat} (hne : m ≠ full n) (h : nx m k = true) : enR n nx m (k + 1) = enR n nx m k + en n nx (ad m k) := by
  unfold enR
  rw [if_neg hne, if_neg hne, List.range_succ, List.filter_append]
  simp [enP, h]
theorem enR_F {m k : Nat} (h : nx m k = false) : enR n nx m (k + 1) = enR n nx m k := by
  unfold enR
  rw [List.range_succ, List.filter_append]
  simp [h]
theorem enK_T {m k : Nat} (hne : m ≠ full n) (h : nx m k = true) {u v : Nat} (hu : u = enR n nx m k) (hv : v = en n nx (ad m k)) : (enK n nx m k).set m (u + v) = enK n nx m (k + 1) := by
  rw [hu, hv, ← enR_T hne h, enK, enK, List.set_set]
theorem enK_F {m k : Nat} (h : nx m k = false) : enK n nx m k = enK n nx m (k + 1) := by rw [enK, enK, enR_F h]
theorem enR_le (hn : n ≤ 10) (hx : Nxt nx) {m k : Nat} (hm : m < 2 ^ n) (hk : k ≤ n) : enR n nx m k ≤ 3628800 := by
  have h1 := en_lt hx hn hm
  rw [← enR_all hx hm] at h1
  have h2 : enR n nx m k ≤ enR n nx m n := by
    unfold enR
    split
    · exact Nat.le_refl _
    · obtain ⟨d, rfl⟩ : ∃ d, n = k + d := ⟨n - k, by omega⟩
      rw [List.range_add, List.filter_append, enP, enP, List.map_append, List.sum_append]; omega
  omega
theorem enK_at1 {m k : Nat} (h : m < (enK n nx m k).length) : (enK n nx m k)[m] = enR n nx m k := by simp [enK]
theorem enK_at2 {m k j : Nat} (h : m < j) (hj : j < (enK n nx m k).length) : (enK n nx m k)[j] = en n nx j := by
  simp only [enK]
  rw [List.getElem_set_ne (by omega), enV_at, if_pos (by omega)]
theorem nx_full (hx : Nxt nx) {k : Nat} (hk : k < n) : nx (full n) k = false := by
  cases e : nx (full n) k with
  | false => rfl
  | true => have := hx _ _ e; rw [full_tb] at this; simp at this; omega
end
end Go.Proofs.Ythmibifghihdaaa
end

section
namespace Go.Proofs.Ythmibifghihdaaa
set_option maxRecDepth 20000
open Go.AE
theorem before_p (n : Nat) (ks : List (Nat × Nat)) (c : Option Nat) (hv : VB n ks) : Pure Try.prog 66 [bknA n ks c] (.ros ((bfL n ks).map n64) n none) := by
  have hv' := hv
  obtain ⟨hn1, hn, hkl, hk⟩ := hv'
  have h1024 := shl_le hn
  have h2n := shl_ge hn1
  refine pure_of_body Try.func66 (c := body Try.f66) rfl (by simp [Try.ntmps66]) fun w0 Φ0 => ?_
  refine W_seq rfl ?_
  refine W_reg rfl ?_
  refine Rv rfl rfl rfl (U_boxF rfl rfl rfl) rfl rfl ?_
  refine Rv rfl rfl rfl (U_assign rfl) rfl rfl ?_
  refine Re rfl ?_
  refine thenQ_n ?_
  refine W_seq rfl ?_
  refine W_reg rfl ?_
  refine Rv rfl rfl rfl (U_fieldAddrR rfl) rfl rfl ?_
  refine Rv rfl rfl rfl (U_load1 rfl rfl rfl) rfl rfl ?_
  refine Ra rfl rfl rfl (U_mkL (n := n) (cs' := (List.replicate n (0 : Nat)).map n64) rfl rfl rfl (by omega) (replM rfl _)) rfl rfl rfl ?_
  refine Rv rfl rfl rfl (U_assign rfl) rfl rfl ?_
  refine Re rfl ?_
  refine thenQ_n ?_
  refine W_seq rfl ?_
  refine W_seq rfl ?_
  refine W_reg rfl ?_
  refine Rv rfl rfl rfl (U_assign rfl) rfl rfl ?_
  refine Re rfl ?_
  refine thenQ_n ?_
  refine W_block rfl ?_
  refine LoopTo (T' := [(1, .rop [i64 ((n : Nat) : Int), .ros (ks.flatMap lkN) ks.length c] 0), (3, .slice 0 0 n n), (4, i64 ((0 : Nat) : Int))]) (H' := [(0, some (.cells ((bfL n (ks.take 0)).map n64) 3))]) (n := 1) rfl (fun mz_ qz_ => ∃ (k : Nat), k ≤ ks.length ∧ mz_ = ks.length - k ∧ qz_ = ⟨[(1, .rop [i64 ((n : Nat) : Int), .ros (ks.flatMap lkN) ks.length c] 0), (3, .slice 0 0 n n), (4, i64 ((k : Nat) : Int))], [(0, some (.cells ((bfL n (ks.take k)).map n64) 3))], 1, []⟩) ⟨0, (by omega), rfl, rfl⟩ id ⟨eD rfl rfl, e_ rfl rfl, eD rfl rfl, trivial⟩ ⟨rD (mapD (fun _ => rfl) _) rfl rfl, trivial⟩ rfl rfl rfl rfl (fun _ _ => rfl) ?_
  rintro _ _ ⟨k, hi0_0, rfl, rfl⟩
  refine W_seq rfl ?_
  refine W_seq rfl ?_
  refine W_reg rfl ?_
  refine Rv rfl rfl rfl (U_move rfl) rfl rfl ?_
  refine Rv rfl rfl rfl (U_fieldAddrR rfl) rfl rfl ?_
  refine Rv rfl rfl rfl (U_load1 rfl rfl rfl) rfl rfl ?_
  refine Rv rfl rfl rfl (U_lenOf rfl len_ros) rfl rfl ?_
  refine Rv rfl rfl rfl (U_lss rfl rfl) rfl rfl ?_
  refine Re rfl ?_
  refine thenQ_n ?_
  refine WcondP rfl rfl (fun hc0 => ?_) (fun hc0 => ?_)
  · have hck : k < ks.length := by omega
    have hkp := hk _ (List.getElem_mem hck)
    have hbl := bfL_len hv k
    have hbi : ks[k].2 < (bfL n (ks.take k)).length := by omega
    have hbx : (bfL n (ks.take k))[ks[k].2] < 1024 := bfL_lt hv k _ (List.getElem_mem _)
    refine W_skip rfl ?_
    refine thenQ_n ?_
    refine W_seq rfl ?_
    refine W_block rfl ?_
    refine Wdraw rfl (by kernel_rfl) (by kernel_rfl) ?_
    refine Dv rfl rfl rfl (U_move rfl) rfl rfl ?_
    refine Dv rfl rfl rfl (U_fieldAddrR rfl) rfl rfl ?_
    refine Dv rfl rfl rfl (U_load1 rfl rfl rfl) rfl rfl ?_
    refine Dv rfl rfl rfl (U_move rfl) rfl rfl ?_
    have hx1 : k < ks.length := by omega
    refine Dv rfl rfl rfl (U_indexR (j := k) rfl rfl rfl hx1) rfl rfl ?_
    refine Dv rfl rfl rfl (U_indexAR (j := 1) rfl rfl rfl (by decide)) rfl rfl ?_
    refine Dv rfl rfl rfl (U_load1 rfl rfl (lkH1 hx1)) rfl rfl ?_
    have hx2 : ks[k].2 < (bfL n (ks.take k)).length := by omega
    refine Dv rfl rfl rfl (U_indexS (j := ks[k].2) rfl rfl rfl (by omega)) rfl rfl ?_
    refine Dv rfl rfl rfl (U_load1 rfl rfl (getM0 hx2)) rfl rfl ?_
    refine Dv rfl rfl rfl (U_fieldAddrR rfl) rfl rfl ?_
    refine Dv rfl rfl rfl (U_load1 rfl rfl rfl) rfl rfl ?_
    refine Dv rfl rfl rfl (U_move rfl) rfl rfl ?_
    refine Dv rfl rfl rfl (U_indexR (j := k) rfl rfl rfl hx1) rfl rfl ?_
    refine Dv rfl rfl rfl (U_indexAR (j := 0) rfl rfl rfl (by decide)) rfl rfl ?_
    refine Dv rfl rfl rfl (U_load1 rfl rfl (lkH0 hx1)) rfl rfl ?_
    refine Dv rfl rfl rfl (U_shl rfl rfl (by omega) (shlN (n := 1) (i := ks[k].1) (shl63 (by omega)) (by omega))) rfl rfl ?_
    refine Dv rfl rfl rfl (U_or rfl rfl (orN (a := (bfL n (ks.take k))[ks[k].2]) (b := 1 <<< ks[k].1) (lt63 hbx) (lt63 (shl1024 (by omega))))) rfl rfl ?_
    refine Dv rfl rfl rfl (U_indexS (j := ks[k].2) rfl rfl rfl (by omega)) rfl rfl ?_
    refine Dn_ rfl rfl rfl (U_store (n := 1) (cs' := ((bfL n (ks.take k)).set ks[k].2 (((bfL n (ks.take k))[ks[k].2]) ||| (1 <<< ks[k].1))).map n64) rfl rfl rfl rfl rfl (stLt hx2) rfl setM) rfl rfl ?_
    refine Dr.nil rfl ?_
    refine blkQ_n ?_
    refine thenQ_n ?_
    refine W_reg rfl ?_
    refine Rv rfl rfl rfl (U_move rfl) rfl rfl ?_
    refine Rv rfl rfl rfl (U_add rfl rfl (w64e (m := ((k + 1 : Nat) : Int)) (by omega) (by omega) (by omega))) rfl rfl ?_
    refine Rv rfl rfl rfl (U_assign rfl) rfl rfl ?_
    refine Re rfl ?_
    refine thenQ_n ?_
    rw [← getD_eq (d := 0) hbi]
    rw [← bfL_S hck]
    exact againTo (T' := [(1, .rop [i64 ((n : Nat) : Int), .ros (ks.flatMap lkN) ks.length c] 0), (3, .slice 0 0 n n), (4, i64 (((k + 1) : Nat) : Int))]) (H' := [(0, some (.cells ((bfL n (ks.take (k + 1))).map n64) 3))]) (n := 1) (ks.length - (k + 1)) ⟨k + 1, (by omega), rfl, rfl⟩ (by omega) id ⟨eD rfl rfl, e_ rfl rfl, eD rfl rfl, trivial⟩ ⟨rD (mapD (fun _ => rfl) _) rfl rfl, trivial⟩ rfl rfl rfl rfl (fun _ _ => rfl)
  · obtain rfl : k = ks.length := by omega
    rw [List.take_length]
    refine W_exit rfl ?_
    refine thenQ_x ?_
    refine thenQ_x ?_
    refine blkQ_x rfl ?_
    refine thenQ_n ?_
    refine W_seq rfl ?_
    refine W_reg rfl ?_
    refine Rv rfl rfl rfl (U_move rfl) rfl rfl ?_
    refine Rv rfl rfl rfl (U_assign rfl) rfl rfl ?_
    refine Re rfl ?_
    refine thenQ_n ?_
    refine WfrN 0 rfl (mapD (fun _ => rfl) _) (T' := [(2, .ros ((bfL n ks).map n64) n (some n))]) (H' := []) ⟨⟨_, rfl, fr_sl (Nat.le_refl _)⟩, trivial⟩ trivial ?_
    refine WweakT (j := 2) rfl le_cap ?_
    refine W_ret rfl ?_
    exact retL (rlT rfl rl0) rfl rfl
end Go.Proofs.Ythmibifghihdaaa
end

section
namespace Go.Proofs.Ythmibifghihdaaa
set_option maxRecDepth 20000
open Go.AE
theorem ways_p (n : Nat) (ks : List (Nat × Nat)) (c : Option Nat) (hv : VB n ks) : Pure Try.prog 67 [bknA n ks c] (.tup [.ros ((upK n (nxQ n ks) (1 <<< n) 0).map n64) (1 <<< n) none, .ros ((enV n (nxQ n ks) 0).map n64) (1 <<< n) none]) := by
  have hv' := hv
  obtain ⟨hn1, hn, hkl, hk⟩ := hv'
  have h1024 := shl_le hn
  have h2n := shl_ge hn1
  have hx : Nxt (nxQ n ks) := nxR_nxt (bfN n ks)
  have hbl := bfL_len' hv
  have hmin : 1 <<< n - 1 = min (1 <<< n) (full n) := by rw [full_shl]; omega
  refine pure_of_body Try.func67 (c := body Try.f67) rfl (by simp [Try.ntmps67]) fun w0 Φ0 => ?_
  refine W_seq rfl ?_
  refine W_reg rfl ?_
  refine Rv rfl rfl rfl (U_boxF rfl rfl rfl) rfl rfl ?_
  refine Rv rfl rfl rfl (U_assign rfl) rfl rfl ?_
  refine Rv rfl rfl rfl (U_assign rfl) rfl rfl ?_
  refine Re rfl ?_
  refine thenQ_n ?_
  refine W_seq rfl ?_
  refine W_reg rfl ?_
  refine Rv rfl rfl rfl (U_load2 rfl rfl rfl rfl) rfl rfl ?_
  refine Rv rfl rfl rfl (U_call rfl rfl (before_p n ks c hv) rfl) rfl rfl ?_
  refine Rv rfl rfl rfl (U_assign rfl) rfl rfl ?_
  refine Re rfl ?_
  refine thenQ_n ?_
  refine W_seq rfl ?_
  refine W_reg rfl ?_
  refine Rv rfl rfl rfl (U_fieldAddrR rfl) rfl rfl ?_
  refine Rv rfl rfl rfl (U_load1 rfl rfl rfl) rfl rfl ?_
  refine Rv rfl rfl rfl (U_shl rfl rfl (by omega) (shlN (n := 1) (i := n) (shl63' hn) (by omega))) rfl rfl ?_
  refine Rv rfl rfl rfl (U_assign rfl) rfl rfl ?_
  refine Re rfl ?_
  refine thenQ_n ?_
  refine W_seq rfl ?_
  refine Wdraw rfl (by kernel_rfl) (by kernel_rfl) ?_
  refine Dv rfl rfl rfl (U_move rfl) rfl rfl ?_
  refine Da rfl rfl rfl (U_mkL (n := 1 <<< n) (cs' := (List.replicate (1 <<< n) (0 : Nat)).map n64) rfl rfl rfl (by omega) (replM rfl _)) rfl rfl rfl rfl ?_
  refine Dv rfl rfl rfl (U_move rfl) rfl rfl ?_
  refine Da rfl rfl rfl (U_mkL (n := 1 <<< n) (cs' := (List.replicate (1 <<< n) (0 : Nat)).map n64) rfl rfl rfl (by omega) (replM rfl _)) rfl rfl rfl rfl ?_
  refine Dv rfl rfl rfl (U_assign rfl) rfl rfl ?_
  refine Dv rfl rfl rfl (U_assign rfl) rfl rfl ?_
  refine Dr.nil rfl ?_
  refine thenQ_n ?_
  refine W_seq rfl ?_
  refine W_reg rfl ?_
  refine Rv rfl rfl rfl (U_move rfl) rfl rfl ?_
  refine Rv rfl rfl rfl (U_move rfl) rfl rfl ?_
  refine Rv rfl rfl rfl (U_move rfl) rfl rfl ?_
  refine Rv rfl rfl rfl (U_sub rfl rfl (w64e (m := ((1 <<< n - 1 : Nat) : Int)) (by omega) (by omega) (by omega))) rfl rfl ?_
  have hr0 : (List.replicate (1 <<< n) 0).length = 1 <<< n := List.length_replicate
  have hx1 : 0 < (List.replicate (1 <<< n) (0 : Nat)).length := by omega
  refine Rv rfl rfl rfl (U_indexS (j := 0) rfl rfl rfl (by omega)) rfl rfl ?_
  refine Rn rfl rfl rfl (U_store (n := 1) (cs' := ((List.replicate (1 <<< n) (0 : Nat)).set 0 1).map n64) rfl rfl rfl rfl rfl (stLt hx1) rfl setM) rfl ?_
  have hx2 : (1 <<< n - 1) < (List.replicate (1 <<< n) (0 : Nat)).length := by omega
  refine Rv rfl rfl rfl (U_indexS (j := (1 <<< n - 1)) rfl rfl rfl (by omega)) rfl rfl ?_
  refine Rn rfl rfl rfl (U_store (n := 1) (cs' := ((List.replicate (1 <<< n) (0 : Nat)).set (1 <<< n - 1) 1).map n64) rfl rfl rfl rfl rfl (stLt hx2) rfl setM) rfl ?_
  refine Re rfl ?_
  rw [upK_0 (n := n) (nx := (nxQ n ks)), enV_0 (n := n) (nx := (nxQ n ks)), hmin]
  refine thenQ_n ?_
  refine W_seq rfl ?_
  refine W_seq rfl ?_
  refine W_reg rfl ?_
  refine Rv rfl rfl rfl (U_assign rfl) rfl rfl ?_
  refine Re rfl ?_
  refine thenQ_n ?_
  refine W_block rfl ?_
  refine LoopTo (T' := [(1, .rop [i64 ((n : Nat) : Int), .ros (ks.flatMap lkN) ks.length c] 0), (4, .ros ((bfL n ks).map n64) n none), (5, i64 ((1 <<< n : Nat) : Int)), (6, .slice 0 0 (1 <<< n) (1 <<< n)), (7, .slice 1 0 (1 <<< n) (1 <<< n)), (8, i64 ((0 : Nat) : Int))]) (H' := [(0, some (.cells ((upK n (nxQ n ks) 0 0).map n64) 2)), (1, some (.cells ((enV n (nxQ n ks) (min (1 <<< n) (full n))).map n64) 2))]) (n := 2) rfl (fun mz_ qz_ => ∃ (s : Nat), s ≤ 1 <<< n ∧ mz_ = 1 <<< n - s ∧ qz_ = ⟨[(1, .rop [i64 ((n : Nat) : Int), .ros (ks.flatMap lkN) ks.length c] 0), (4, .ros ((bfL n ks).map n64) n none), (5, i64 ((1 <<< n : Nat) : Int)), (6, .slice 0 0 (1 <<< n) (1 <<< n)), (7, .slice 1 0 (1 <<< n) (1 <<< n)), (8, i64 ((s : Nat) : Int))], [(0, some (.cells ((upK n (nxQ n ks) s 0).map n64) 2)), (1, some (.cells ((enV n (nxQ n ks) (min (1 <<< n) (full n))).map n64) 2))], 2, []⟩) ⟨0, (Nat.zero_le _), rfl, rfl⟩ id ⟨eD rfl rfl, eD rfl rfl, eD rfl rfl, e_ rfl rfl, e_ rfl rfl, eD rfl rfl, trivial⟩ ⟨rD (mapD (fun _ => rfl) _) rfl rfl, rD (mapD (fun _ => rfl) _) rfl rfl, trivial⟩ rfl rfl rfl rfl (fun _ _ => rfl) ?_
  rintro _ _ ⟨s, hi0_0, rfl, rfl⟩
  refine W_seq rfl ?_
  refine W_seq rfl ?_
  refine W_reg rfl ?_
  refine Rv rfl rfl rfl (U_move rfl) rfl rfl ?_
  refine Rv rfl rfl rfl (U_move rfl) rfl rfl ?_
  refine Rv rfl rfl rfl (U_lss rfl rfl) rfl rfl ?_
  refine Re rfl ?_
  refine thenQ_n ?_
  refine WcondP rfl rfl (fun hc0 => ?_) (fun hc0 => ?_)
  · have hs : s < 2 ^ n := by rw [← one_shl (n := n)]; omega
    refine W_skip rfl ?_
    refine thenQ_n ?_
    refine W_seq rfl ?_
    refine W_block rfl ?_
    refine W_seq rfl ?_
    refine W_reg rfl ?_
    refine Rv rfl rfl rfl (U_assign rfl) rfl rfl ?_
    refine Re rfl ?_
    refine thenQ_n ?_
    refine W_block rfl ?_
    refine LoopTo (T' := [(1, .rop [i64 ((n : Nat) : Int), .ros (ks.flatMap lkN) ks.length c] 0), (4, .ros ((bfL n ks).map n64) n none), (5, i64 ((1 <<< n : Nat) : Int)), (6, .slice 0 0 (1 <<< n) (1 <<< n)), (7, .slice 1 0 (1 <<< n) (1 <<< n)), (8, i64 ((s : Nat) : Int)), (9, i64 ((0 : Nat) : Int))]) (H' := [(0, some (.cells ((upK n (nxQ n ks) s 0).map n64) 2)), (1, some (.cells ((enV n (nxQ n ks) (min (1 <<< n) (full n))).map n64) 2))]) (n := 2) rfl (fun mz_ qz_ => ∃ (k : Nat), k ≤ n ∧ mz_ = n - k ∧ qz_ = ⟨[(1, .rop [i64 ((n : Nat) : Int), .ros (ks.flatMap lkN) ks.length c] 0), (4, .ros ((bfL n ks).map n64) n none), (5, i64 ((1 <<< n : Nat) : Int)), (6, .slice 0 0 (1 <<< n) (1 <<< n)), (7, .slice 1 0 (1 <<< n) (1 <<< n)), (8, i64 ((s : Nat) : Int)), (9, i64 ((k : Nat) : Int))], [(0, some (.cells ((upK n (nxQ n ks) s k).map n64) 2)), (1, some (.cells ((enV n (nxQ n ks) (min (1 <<< n) (full n))).map n64) 2))], 2, []⟩) ⟨0, (by omega), rfl, rfl⟩ id ⟨eD rfl rfl, eD rfl rfl, eD rfl rfl, e_ rfl rfl, e_ rfl rfl, eD rfl rfl, eD rfl rfl, trivial⟩ ⟨rD (mapD (fun _ => rfl) _) rfl rfl, rD (mapD (fun _ => rfl) _) rfl rfl, trivial⟩ rfl rfl rfl rfl (fun _ _ => rfl) ?_
    rintro _ _ ⟨k, hi1_0, rfl, rfl⟩
    refine W_seq rfl ?_
    refine W_seq rfl ?_
    refine W_reg rfl ?_
    refine Rv rfl rfl rfl (U_move rfl) rfl rfl ?_
    refine Rv rfl rfl rfl (U_fieldAddrR rfl) rfl rfl ?_
    refine Rv rfl rfl rfl (U_load1 rfl rfl rfl) rfl rfl ?_
    refine Rv rfl rfl rfl (U_lss rfl rfl) rfl rfl ?_
    refine Re rfl ?_
    refine thenQ_n ?_
    refine WcondP rfl rfl (fun hc1 => ?_) (fun hc1 => ?_)
    · have hkn : k < n := by omega
      have hbi : k < (bfL n ks).length := by omega
      have hbk : bfN n ks k = (bfL n ks)[k] := getD_eq hbi
      have hbx : (bfL n ks)[k] < 1024 := bfL_lt' hv _ (List.getElem_mem _)
      have h10 : s < 1024 := by omega
      refine W_skip rfl ?_
      refine thenQ_n ?_
      refine W_seq rfl ?_
      refine W_block rfl ?_
      refine W_seq rfl ?_
      refine Wdraw rfl (by kernel_rfl) (by kernel_rfl) ?_
      refine Dv rfl rfl rfl (U_move rfl) rfl rfl ?_
      refine Dv rfl rfl rfl (U_move rfl) rfl rfl ?_
      refine Dv rfl rfl rfl (U_shr rfl rfl (by omega) (shrN (n := s) (i := k) (lt63 h10))) rfl rfl ?_
      refine Dv rfl rfl rfl (U_and rfl rfl (andN (a := s >>> k) (b := 1) (sh63 h10) (by omega))) rfl rfl ?_
      refine Dv rfl rfl rfl (U_eql rfl rfl) rfl rfl ?_
      refine Dv rfl rfl rfl (U_move rfl) rfl rfl ?_
      refine Dsplit (t := 43) rfl (fun hg3 => ?_) (fun hg3 => ?_)
      · rw [hg3]
        have hg3' : (((s >>> k) &&& 1 : Nat) : Int) = 0 := of_decide_eq_true hg3
        have hcg1 := hg3'
        refine Dv rfl rfl rfl (U_move rfl) rfl rfl ?_
        refine Dv rfl rfl rfl (U_move rfl) rfl rfl ?_
        have hx4 : k < (bfL n ks).length := by omega
        refine Dv rfl rfl rfl (U_indexR (j := k) rfl rfl rfl (by omega)) rfl rfl ?_
        refine Dv rfl rfl rfl (U_load1 rfl rfl (getM hx4)) rfl rfl ?_
        refine Dv rfl rfl rfl (U_move rfl) rfl rfl ?_
        refine Dv rfl rfl rfl (U_and rfl rfl (andN (a := (bfL n ks)[k]) (b := s) (lt63 hbx) (lt63 h10))) rfl rfl ?_
        refine Dv rfl rfl rfl (U_move rfl) rfl rfl ?_
        refine Dv rfl rfl rfl (U_move rfl) rfl rfl ?_
        refine Dv rfl rfl rfl (U_indexR (j := k) rfl rfl rfl (by omega)) rfl rfl ?_
        refine Dv rfl rfl rfl (U_load1 rfl rfl (getM hx4)) rfl rfl ?_
        refine Dv rfl rfl rfl (U_eql rfl rfl) rfl rfl ?_
        refine Dv rfl rfl rfl (U_pick_t rfl rfl) rfl rfl ?_
        refine Dr.nil rfl ?_
        refine thenQ_n ?_
        refine WcondP rfl rfl (fun hc2 => ?_) (fun hc2 => ?_)
        · have hnx : nxQ n ks s k = true := by show nxR (bfN n ks) s k = true; unfold nxR; rw [hbk, decide_eq_true hcg1, decide_eq_true hc2]; rfl
          have had : s ||| 1 <<< k < 2 ^ n := ad_lt hs hkn
          have hadl : s ||| 1 <<< k < (upK n (nxQ n ks) s k).length := by rw [upK_len, one_shl (n := n)]; exact had
          have hsl : s < (upK n (nxQ n ks) s k).length := by rw [upK_len, one_shl (n := n)]; exact hs
          have hb1 := upK_le hn hx (show k ≤ n by omega) had hadl
          have hvs : (upK n (nxQ n ks) s k)[s] = up n (nxQ n ks) s := upK_self hx hs hsl
          have hb2 : up n (nxQ n ks) s ≤ 3628800 := up_lt hn hs
          refine Wdraw rfl (by kernel_rfl) (by kernel_rfl) ?_
          refine Dv rfl rfl rfl (U_move rfl) rfl rfl ?_
          refine Dv rfl rfl rfl (U_move rfl) rfl rfl ?_
          refine Dv rfl rfl rfl (U_move rfl) rfl rfl ?_
          refine Dv rfl rfl rfl (U_shl rfl rfl (by omega) (shlN (n := 1) (i := k) (shl63 (by omega)) (by omega))) rfl rfl ?_
          refine Dv rfl rfl rfl (U_or rfl rfl (orN (a := s) (b := 1 <<< k) (lt63 h10) (lt63 (shl1024 (by omega))))) rfl rfl ?_
          have hx5 : (s ||| (1 <<< k)) < (upK n (nxQ n ks) s k).length := by omega
          refine Dv rfl rfl rfl (U_indexS (j := (s ||| (1 <<< k))) rfl rfl rfl (by omega)) rfl rfl ?_
          refine Dv rfl rfl rfl (U_load1 rfl rfl (getM0 hx5)) rfl rfl ?_
          refine Dv rfl rfl rfl (U_move rfl) rfl rfl ?_
          refine Dv rfl rfl rfl (U_move rfl) rfl rfl ?_
          have hx6 : s < (upK n (nxQ n ks) s k).length := by omega
          refine Dv rfl rfl rfl (U_indexS (j := s) rfl rfl rfl (by omega)) rfl rfl ?_
          refine Dv rfl rfl rfl (U_load1 rfl rfl (getM0 hx6)) rfl rfl ?_
          refine Dv rfl rfl rfl (U_add rfl rfl (w64e (m := ((((upK n (nxQ n ks) s k)[(s ||| (1 <<< k))]) + (upK n (nxQ n ks) s k)[s] : Nat) : Int)) (by omega) (by omega) (by omega))) rfl rfl ?_
          refine Dv rfl rfl rfl (U_indexS (j := (s ||| (1 <<< k))) rfl rfl rfl (by omega)) rfl rfl ?_
          refine Dn_ rfl rfl rfl (U_store (n := 1) (cs' := ((upK n (nxQ n ks) s k).set (s ||| (1 <<< k)) (((upK n (nxQ n ks) s k)[(s ||| (1 <<< k))]) + (upK n (nxQ n ks) s k)[s])).map n64) rfl rfl rfl rfl rfl (stLt hx5) rfl setM) rfl rfl ?_
          refine Dr.nil rfl ?_
          refine blkQ_n ?_
          refine thenQ_n ?_
          refine W_reg rfl ?_
          refine Rv rfl rfl rfl (U_move rfl) rfl rfl ?_
          refine Rv rfl rfl rfl (U_add rfl rfl (w64e (m := ((k + 1 : Nat) : Int)) (by omega) (by omega) (by omega))) rfl rfl ?_
          refine Rv rfl rfl rfl (U_assign rfl) rfl rfl ?_
          refine Re rfl ?_
          refine thenQ_n ?_
          first | rw [upK_T hx hs hnx hadl rfl hvs] | rw [upK_F hnx]
          exact againTo (T' := [(1, .rop [i64 ((n : Nat) : Int), .ros (ks.flatMap lkN) ks.length c] 0), (4, .ros ((bfL n ks).map n64) n none), (5, i64 ((1 <<< n : Nat) : Int)), (6, .slice 0 0 (1 <<< n) (1 <<< n)), (7, .slice 1 0 (1 <<< n) (1 <<< n)), (8, i64 ((s : Nat) : Int)), (9, i64 (((k + 1) : Nat) : Int))]) (H' := [(0, some (.cells ((upK n (nxQ n ks) s (k + 1)).map n64) 2)), (1, some (.cells ((enV n (nxQ n ks) (min (1 <<< n) (full n))).map n64) 2))]) (n := 2) (n - (k + 1)) ⟨k + 1, (by omega), rfl, rfl⟩ (by omega) id ⟨eD rfl rfl, eD rfl rfl, eD rfl rfl, e_ rfl rfl, e_ rfl rfl, eD rfl rfl, eD rfl rfl, trivial⟩ ⟨rD (mapD (fun _ => rfl) _) rfl rfl, rD (mapD (fun _ => rfl) _) rfl rfl, trivial⟩ rfl rfl rfl rfl (fun _ _ => rfl)
        · have hnx : nxQ n ks s k = false := by show nxR (bfN n ks) s k = false; unfold nxR; rw [hbk, decide_eq_true hcg1, decide_eq_false hc2]; rfl
          refine W_skip rfl ?_
          refine blkQ_n ?_
          refine thenQ_n ?_
          refine W_reg rfl ?_
          refine Rv rfl rfl rfl (U_move rfl) rfl rfl ?_
          refine Rv rfl rfl rfl (U_add rfl rfl (w64e (m := ((k + 1 : Nat) : Int)) (by omega) (by omega) (by omega))) rfl rfl ?_
          refine Rv rfl rfl rfl (U_assign rfl) rfl rfl ?_
          refine Re rfl ?_
          refine thenQ_n ?_
          first | rw [upK_T hx hs hnx hadl rfl hvs] | rw [upK_F hnx]
          exact againTo (T' := [(1, .rop [i64 ((n : Nat) : Int), .ros (ks.flatMap lkN) ks.length c] 0), (4, .ros ((bfL n ks).map n64) n none), (5, i64 ((1 <<< n : Nat) : Int)), (6, .slice 0 0 (1 <<< n) (1 <<< n)), (7, .slice 1 0 (1 <<< n) (1 <<< n)), (8, i64 ((s : Nat) : Int)), (9, i64 (((k + 1) : Nat) : Int))]) (H' := [(0, some (.cells ((upK n (nxQ n ks) s (k + 1)).map n64) 2)), (1, some (.cells ((enV n (nxQ n ks) (min (1 <<< n) (full n))).map n64) 2))]) (n := 2) (n - (k + 1)) ⟨k + 1, (by omega), rfl, rfl⟩ (by omega) id ⟨eD rfl rfl, eD rfl rfl, eD rfl rfl, e_ rfl rfl, e_ rfl rfl, eD rfl rfl, eD rfl rfl, trivial⟩ ⟨rD (mapD (fun _ => rfl) _) rfl rfl, rD (mapD (fun _ => rfl) _) rfl rfl, trivial⟩ rfl rfl rfl rfl (fun _ _ => rfl)
      · rw [hg3]
        have hg3' : ¬ ((((s >>> k) &&& 1 : Nat) : Int) = 0) := of_decide_eq_false hg3
        have hnx : nxQ n ks s k = false := by show nxR (bfN n ks) s k = false; unfold nxR; rw [decide_eq_false hg3']; rfl
        refine Ds rfl rfl rfl rfl rfl ?_
        refine Ds rfl rfl rfl rfl rfl ?_
        refine Ds rfl rfl rfl rfl rfl ?_
        refine Ds rfl rfl rfl rfl rfl ?_
        refine Ds rfl rfl rfl rfl rfl ?_
        refine Ds rfl rfl rfl rfl rfl ?_
        refine Ds rfl rfl rfl rfl rfl ?_
        refine Ds rfl rfl rfl rfl rfl ?_
        refine Ds rfl rfl rfl rfl rfl ?_
        refine Ds rfl rfl rfl rfl rfl ?_
        refine Ds rfl rfl rfl rfl rfl ?_
        refine Dv rfl rfl rfl (U_pick_f rfl rfl) rfl rfl ?_
        refine Dr.nil rfl ?_
        refine thenQ_n ?_
        refine Wcond rfl rfl (fun h => nomatch h) (fun _ => ?_)
        refine W_skip rfl ?_
        refine blkQ_n ?_
        refine thenQ_n ?_
        refine W_reg rfl ?_
        refine Rv rfl rfl rfl (U_move rfl) rfl rfl ?_
        refine Rv rfl rfl rfl (U_add rfl rfl (w64e (m := ((k + 1 : Nat) : Int)) (by omega) (by omega) (by omega))) rfl rfl ?_
        refine Rv rfl rfl rfl (U_assign rfl) rfl rfl ?_
        refine Re rfl ?_
        refine thenQ_n ?_
        first | rw [upK_T hx hs hnx hadl rfl hvs] | rw [upK_F hnx]
        exact againTo (T' := [(1, .rop [i64 ((n : Nat) : Int), .ros (ks.flatMap lkN) ks.length c] 0), (4, .ros ((bfL n ks).map n64) n none), (5, i64 ((1 <<< n : Nat) : Int)), (6, .slice 0 0 (1 <<< n) (1 <<< n)), (7, .slice 1 0 (1 <<< n) (1 <<< n)), (8, i64 ((s : Nat) : Int)), (9, i64 (((k + 1) : Nat) : Int))]) (H' := [(0, some (.cells ((upK n (nxQ n ks) s (k + 1)).map n64) 2)), (1, some (.cells ((enV n (nxQ n ks) (min (1 <<< n) (full n))).map n64) 2))]) (n := 2) (n - (k + 1)) ⟨k + 1, (by omega), rfl, rfl⟩ (by omega) id ⟨eD rfl rfl, eD rfl rfl, eD rfl rfl, e_ rfl rfl, e_ rfl rfl, eD rfl rfl, eD rfl rfl, trivial⟩ ⟨rD (mapD (fun _ => rfl) _) rfl rfl, rD (mapD (fun _ => rfl) _) rfl rfl, trivial⟩ rfl rfl rfl rfl (fun _ _ => rfl)
    · obtain rfl : n = k := by omega
      rw [upK_all hx]
      refine W_exit rfl ?_
      refine thenQ_x ?_
      refine thenQ_x ?_
      refine blkQ_x rfl ?_
      refine blkQ_n ?_
      refine thenQ_n ?_
      refine W_reg rfl ?_
      refine Rv rfl rfl rfl (U_move rfl) rfl rfl ?_
      refine Rv rfl rfl rfl (U_add rfl rfl (w64e (m := ((s + 1 : Nat) : Int)) (by omega) (by omega) (by omega))) rfl rfl ?_
      refine Rv rfl rfl rfl (U_assign rfl) rfl rfl ?_
      refine Re rfl ?_
      refine thenQ_n ?_
      exact againTo (T' := [(1, .rop [i64 ((n : Nat) : Int), .ros (ks.flatMap lkN) ks.length c] 0), (4, .ros ((bfL n ks).map n64) n none), (5, i64 ((1 <<< n : Nat) : Int)), (6, .slice 0 0 (1 <<< n) (1 <<< n)), (7, .slice 1 0 (1 <<< n) (1 <<< n)), (8, i64 (((s + 1) : Nat) : Int))]) (H' := [(0, some (.cells ((upK n (nxQ n ks) (s + 1) 0).map n64) 2)), (1, some (.cells ((enV n (nxQ n ks) (min (1 <<< n) (full n))).map n64) 2))]) (n := 2) (1 <<< n - (s + 1)) ⟨s + 1, (by omega), rfl, rfl⟩ (by omega) id ⟨eD rfl rfl, eD rfl rfl, eD rfl rfl, e_ rfl rfl, e_ rfl rfl, eD rfl rfl, trivial⟩ ⟨rD (mapD (fun _ => rfl) _) rfl rfl, rD (mapD (fun _ => rfl) _) rfl rfl, trivial⟩ rfl rfl rfl rfl (fun _ _ => rfl)
  · obtain rfl : s = 1 <<< n := by omega
    refine W_exit rfl ?_
    refine thenQ_x ?_
    refine thenQ_x ?_
    refine blkQ_x rfl ?_
    refine thenQ_n ?_
    refine W_seq rfl ?_
    refine W_seq rfl ?_
    refine W_reg rfl ?_
    refine Rv rfl rfl rfl (U_move rfl) rfl rfl ?_
    refine Rv rfl rfl rfl (U_sub rfl rfl (w64 (by omega) (by omega))) rfl rfl ?_
    refine Rv rfl rfl rfl (U_assign rfl) rfl rfl ?_
    refine Re rfl ?_
    refine thenQ_n ?_
    refine W_block rfl ?_
    refine LoopTo (T' := [(1, .rop [i64 ((n : Nat) : Int), .ros (ks.flatMap lkN) ks.length c] 0), (4, .ros ((bfL n ks).map n64) n none), (6, .slice 0 0 (1 <<< n) (1 <<< n)), (7, .slice 1 0 (1 <<< n) (1 <<< n)), (10, i64 ((((1 <<< n) : Nat) : Int) - 1))]) (H' := [(0, some (.cells ((upK n (nxQ n ks) (1 <<< n) 0).map n64) 2)), (1, some (.cells ((enV n (nxQ n ks) (min (1 <<< n) (full n))).map n64) 2))]) (n := 2) rfl (fun mz_ qz_ => ∃ (s : Nat), s ≤ 1 <<< n ∧ mz_ = 0 + s ∧ qz_ = ⟨[(1, .rop [i64 ((n : Nat) : Int), .ros (ks.flatMap lkN) ks.length c] 0), (4, .ros ((bfL n ks).map n64) n none), (6, .slice 0 0 (1 <<< n) (1 <<< n)), (7, .slice 1 0 (1 <<< n) (1 <<< n)), (10, i64 (((s : Nat) : Int) - 1))], [(0, some (.cells ((upK n (nxQ n ks) (1 <<< n) 0).map n64) 2)), (1, some (.cells ((enV n (nxQ n ks) (min s (full n))).map n64) 2))], 2, []⟩) ⟨1 <<< n, (Nat.le_refl _), rfl, rfl⟩ id ⟨eD rfl rfl, eD rfl rfl, e_ rfl rfl, e_ rfl rfl, eD rfl rfl, trivial⟩ ⟨rD (mapD (fun _ => rfl) _) rfl rfl, rD (mapD (fun _ => rfl) _) rfl rfl, trivial⟩ rfl rfl rfl rfl (fun _ _ => rfl) ?_
    rintro _ _ ⟨s, hi2_0, rfl, rfl⟩
    refine W_seq rfl ?_
    refine W_seq rfl ?_
    refine W_reg rfl ?_
    refine Rv rfl rfl rfl (U_move rfl) rfl rfl ?_
    refine Rv rfl rfl rfl (U_geq rfl rfl) rfl rfl ?_
    refine Re rfl ?_
    refine thenQ_n ?_
    refine WcondP rfl rfl (fun hc3 => ?_) (fun hc3 => ?_)
    · obtain ⟨m, rfl⟩ : ∃ m, s = m + 1 := ⟨s - 1, by omega⟩
      have hm1 : ((m + 1 : Nat) : Int) - 1 = ((m : Nat) : Int) := by omega
      rw [hm1]
      have hm : m < 2 ^ n := by rw [← one_shl (n := n)]; omega
      rw [← enK_0 (n := n) (nx := (nxQ n ks)) hm]
      refine W_skip rfl ?_
      refine thenQ_n ?_
      refine W_seq rfl ?_
      refine W_block rfl ?_
      refine W_seq rfl ?_
      refine W_reg rfl ?_
      refine Rv rfl rfl rfl (U_assign rfl) rfl rfl ?_
      refine Re rfl ?_
      refine thenQ_n ?_
      refine W_block rfl ?_
      refine LoopTo (T' := [(1, .rop [i64 ((n : Nat) : Int), .ros (ks.flatMap lkN) ks.length c] 0), (4, .ros ((bfL n ks).map n64) n none), (6, .slice 0 0 (1 <<< n) (1 <<< n)), (7, .slice 1 0 (1 <<< n) (1 <<< n)), (10, i64 ((m : Nat) : Int)), (11, i64 ((0 : Nat) : Int))]) (H' := [(0, some (.cells ((upK n (nxQ n ks) (1 <<< n) 0).map n64) 2)), (1, some (.cells ((enK n (nxQ n ks) m 0).map n64) 2))]) (n := 2) rfl (fun mz_ qz_ => ∃ (k : Nat), k ≤ n ∧ mz_ = n - k ∧ qz_ = ⟨[(1, .rop [i64 ((n : Nat) : Int), .ros (ks.flatMap lkN) ks.length c] 0), (4, .ros ((bfL n ks).map n64) n none), (6, .slice 0 0 (1 <<< n) (1 <<< n)), (7, .slice 1 0 (1 <<< n) (1 <<< n)), (10, i64 ((m : Nat) : Int)), (11, i64 ((k : Nat) : Int))], [(0, some (.cells ((upK n (nxQ n ks) (1 <<< n) 0).map n64) 2)), (1, some (.cells ((enK n (nxQ n ks) m k).map n64) 2))], 2, []⟩) ⟨0, (by omega), rfl, rfl⟩ id ⟨eD rfl rfl, eD rfl rfl, e_ rfl rfl, e_ rfl rfl, eD rfl rfl, eD rfl rfl, trivial⟩ ⟨rD (mapD (fun _ => rfl) _) rfl rfl, rD (mapD (fun _ => rfl) _) rfl rfl, trivial⟩ rfl rfl rfl rfl (fun _ _ => rfl) ?_
      rintro _ _ ⟨k, hi3_0, rfl, rfl⟩
      refine W_seq rfl ?_
      refine W_seq rfl ?_
      refine W_reg rfl ?_
      refine Rv rfl rfl rfl (U_move rfl) rfl rfl ?_
      refine Rv rfl rfl rfl (U_fieldAddrR rfl) rfl rfl ?_
      refine Rv rfl rfl rfl (U_load1 rfl rfl rfl) rfl rfl ?_
      refine Rv rfl rfl rfl (U_lss rfl rfl) rfl rfl ?_
      refine Re rfl ?_
      refine thenQ_n ?_
      refine WcondP rfl rfl (fun hc4 => ?_) (fun hc4 => ?_)
      · have hkn : k < n := by omega
        have hbi : k < (bfL n ks).length := by omega
        have hbk : bfN n ks k = (bfL n ks)[k] := getD_eq hbi
        have hbx : (bfL n ks)[k] < 1024 := bfL_lt' hv _ (List.getElem_mem _)
        have h10 : m < 1024 := by omega
        refine W_skip rfl ?_
        refine thenQ_n ?_
        refine W_seq rfl ?_
        refine W_block rfl ?_
        refine W_seq rfl ?_
        refine Wdraw rfl (by kernel_rfl) (by kernel_rfl) ?_
        refine Dv rfl rfl rfl (U_move rfl) rfl rfl ?_
        refine Dv rfl rfl rfl (U_move rfl) rfl rfl ?_
        refine Dv rfl rfl rfl (U_shr rfl rfl (by omega) (shrN (n := m) (i := k) (lt63 h10))) rfl rfl ?_
        refine Dv rfl rfl rfl (U_and rfl rfl (andN (a := m >>> k) (b := 1) (sh63 h10) (by omega))) rfl rfl ?_
        refine Dv rfl rfl rfl (U_eql rfl rfl) rfl rfl ?_
        refine Dv rfl rfl rfl (U_move rfl) rfl rfl ?_
        refine Dsplit (t := 86) rfl (fun hg7 => ?_) (fun hg7 => ?_)
        · rw [hg7]
          have hg7' : (((m >>> k) &&& 1 : Nat) : Int) = 0 := of_decide_eq_true hg7
          have hcg1 := hg7'
          refine Dv rfl rfl rfl (U_move rfl) rfl rfl ?_
          refine Dv rfl rfl rfl (U_move rfl) rfl rfl ?_
          have hx8 : k < (bfL n ks).length := by omega
          refine Dv rfl rfl rfl (U_indexR (j := k) rfl rfl rfl (by omega)) rfl rfl ?_
          refine Dv rfl rfl rfl (U_load1 rfl rfl (getM hx8)) rfl rfl ?_
          refine Dv rfl rfl rfl (U_move rfl) rfl rfl ?_
          refine Dv rfl rfl rfl (U_and rfl rfl (andN (a := (bfL n ks)[k]) (b := m) (lt63 hbx) (lt63 h10))) rfl rfl ?_
          refine Dv rfl rfl rfl (U_move rfl) rfl rfl ?_
          refine Dv rfl rfl rfl (U_move rfl) rfl rfl ?_
          refine Dv rfl rfl rfl (U_indexR (j := k) rfl rfl rfl (by omega)) rfl rfl ?_
          refine Dv rfl rfl rfl (U_load1 rfl rfl (getM hx8)) rfl rfl ?_
          refine Dv rfl rfl rfl (U_eql rfl rfl) rfl rfl ?_
          refine Dv rfl rfl rfl (U_pick_t rfl rfl) rfl rfl ?_
          refine Dr.nil rfl ?_
          refine thenQ_n ?_
          refine WcondP rfl rfl (fun hc5 => ?_) (fun hc5 => ?_)
          · have hnx : nxQ n ks m k = true := by show nxR (bfN n ks) m k = true; unfold nxR; rw [hbk, decide_eq_true hcg1, decide_eq_true hc5]; rfl
            have had : m ||| 1 <<< k < 2 ^ n := ad_lt hm hkn
            have hgt : m < m ||| 1 <<< k := ad_gt (hx _ _ hnx)
            have hne : m ≠ full n := by { rintro rfl; rw [nx_full hx hkn] at hnx; cases hnx }
            have hadl : m ||| 1 <<< k < (enK n (nxQ n ks) m k).length := by rw [enK_len, one_shl (n := n)]; exact had
            have hml : m < (enK n (nxQ n ks) m k).length := by rw [enK_len, one_shl (n := n)]; exact hm
            have hu : (enK n (nxQ n ks) m k)[m] = enR n (nxQ n ks) m k := enK_at1 hml
            have hv_ : (enK n (nxQ n ks) m k)[m ||| 1 <<< k] = en n (nxQ n ks) (ad m k) := enK_at2 hgt hadl
            have hb1 := enR_le hn hx hm (show k ≤ n by omega)
            have hb2 : en n (nxQ n ks) (ad m k) ≤ 3628800 := en_lt hx hn had
            refine Wdraw rfl (by kernel_rfl) (by kernel_rfl) ?_
            refine Dv rfl rfl rfl (U_move rfl) rfl rfl ?_
            refine Dv rfl rfl rfl (U_move rfl) rfl rfl ?_
            have hx9 : m < (enK n (nxQ n ks) m k).length := by omega
            refine Dv rfl rfl rfl (U_indexS (j := m) rfl rfl rfl (by omega)) rfl rfl ?_
            refine Dv rfl rfl rfl (U_load1 rfl rfl (getM0 hx9)) rfl rfl ?_
            refine Dv rfl rfl rfl (U_move rfl) rfl rfl ?_
            refine Dv rfl rfl rfl (U_move rfl) rfl rfl ?_
            refine Dv rfl rfl rfl (U_move rfl) rfl rfl ?_
            refine Dv rfl rfl rfl (U_shl rfl rfl (by omega) (shlN (n := 1) (i := k) (shl63 (by omega)) (by omega))) rfl rfl ?_
            refine Dv rfl rfl rfl (U_or rfl rfl (orN (a := m) (b := 1 <<< k) (lt63 h10) (lt63 (shl1024 (by omega))))) rfl rfl ?_
            have hx10 : (m ||| (1 <<< k)) < (enK n (nxQ n ks) m k).length := by omega
            refine Dv rfl rfl rfl (U_indexS (j := (m ||| (1 <<< k))) rfl rfl rfl (by omega)) rfl rfl ?_
            refine Dv rfl rfl rfl (U_load1 rfl rfl (getM0 hx10)) rfl rfl ?_
            refine Dv rfl rfl rfl (U_add rfl rfl (w64e (m := (((enK n (nxQ n ks) m k)[m] + ((enK n (nxQ n ks) m k)[(m ||| (1 <<< k))]) : Nat) : Int)) (by omega) (by omega) (by omega))) rfl rfl ?_
            refine Dv rfl rfl rfl (U_indexS (j := m) rfl rfl rfl (by omega)) rfl rfl ?_
            refine Dn_ rfl rfl rfl (U_store (n := 1) (cs' := ((enK n (nxQ n ks) m k).set m ((enK n (nxQ n ks) m k)[m] + ((enK n (nxQ n ks) m k)[(m ||| (1 <<< k))]))).map n64) rfl rfl rfl rfl rfl (stLt hx9) rfl setM) rfl rfl ?_
            refine Dr.nil rfl ?_
            refine blkQ_n ?_
            refine thenQ_n ?_
            refine W_reg rfl ?_
            refine Rv rfl rfl rfl (U_move rfl) rfl rfl ?_
            refine Rv rfl rfl rfl (U_add rfl rfl (w64e (m := ((k + 1 : Nat) : Int)) (by omega) (by omega) (by omega))) rfl rfl ?_
            refine Rv rfl rfl rfl (U_assign rfl) rfl rfl ?_
            refine Re rfl ?_
            refine thenQ_n ?_
            first | rw [enK_T hne hnx hu hv_] | rw [enK_F hnx]
            exact againTo (T' := [(1, .rop [i64 ((n : Nat) : Int), .ros (ks.flatMap lkN) ks.length c] 0), (4, .ros ((bfL n ks).map n64) n none), (6, .slice 0 0 (1 <<< n) (1 <<< n)), (7, .slice 1 0 (1 <<< n) (1 <<< n)), (10, i64 ((m : Nat) : Int)), (11, i64 (((k + 1) : Nat) : Int))]) (H' := [(0, some (.cells ((upK n (nxQ n ks) (1 <<< n) 0).map n64) 2)), (1, some (.cells ((enK n (nxQ n ks) m (k + 1)).map n64) 2))]) (n := 2) (n - (k + 1)) ⟨k + 1, (by omega), rfl, rfl⟩ (by omega) id ⟨eD rfl rfl, eD rfl rfl, e_ rfl rfl, e_ rfl rfl, eD rfl rfl, eD rfl rfl, trivial⟩ ⟨rD (mapD (fun _ => rfl) _) rfl rfl, rD (mapD (fun _ => rfl) _) rfl rfl, trivial⟩ rfl rfl rfl rfl (fun _ _ => rfl)
          · have hnx : nxQ n ks m k = false := by show nxR (bfN n ks) m k = false; unfold nxR; rw [hbk, decide_eq_true hcg1, decide_eq_false hc5]; rfl
            refine W_skip rfl ?_
            refine blkQ_n ?_
            refine thenQ_n ?_
            refine W_reg rfl ?_
            refine Rv rfl rfl rfl (U_move rfl) rfl rfl ?_
            refine Rv rfl rfl rfl (U_add rfl rfl (w64e (m := ((k + 1 : Nat) : Int)) (by omega) (by omega) (by omega))) rfl rfl ?_
            refine Rv rfl rfl rfl (U_assign rfl) rfl rfl ?_
            refine Re rfl ?_
            refine thenQ_n ?_
            first | rw [enK_T hne hnx hu hv_] | rw [enK_F hnx]
            exact againTo (T' := [(1, .rop [i64 ((n : Nat) : Int), .ros (ks.flatMap lkN) ks.length c] 0), (4, .ros ((bfL n ks).map n64) n none), (6, .slice 0 0 (1 <<< n) (1 <<< n)), (7, .slice 1 0 (1 <<< n) (1 <<< n)), (10, i64 ((m : Nat) : Int)), (11, i64 (((k + 1) : Nat) : Int))]) (H' := [(0, some (.cells ((upK n (nxQ n ks) (1 <<< n) 0).map n64) 2)), (1, some (.cells ((enK n (nxQ n ks) m (k + 1)).map n64) 2))]) (n := 2) (n - (k + 1)) ⟨k + 1, (by omega), rfl, rfl⟩ (by omega) id ⟨eD rfl rfl, eD rfl rfl, e_ rfl rfl, e_ rfl rfl, eD rfl rfl, eD rfl rfl, trivial⟩ ⟨rD (mapD (fun _ => rfl) _) rfl rfl, rD (mapD (fun _ => rfl) _) rfl rfl, trivial⟩ rfl rfl rfl rfl (fun _ _ => rfl)
        · rw [hg7]
          have hg7' : ¬ ((((m >>> k) &&& 1 : Nat) : Int) = 0) := of_decide_eq_false hg7
          have hnx : nxQ n ks m k = false := by show nxR (bfN n ks) m k = false; unfold nxR; rw [decide_eq_false hg7']; rfl
          refine Ds rfl rfl rfl rfl rfl ?_
          refine Ds rfl rfl rfl rfl rfl ?_
          refine Ds rfl rfl rfl rfl rfl ?_
          refine Ds rfl rfl rfl rfl rfl ?_
          refine Ds rfl rfl rfl rfl rfl ?_
          refine Ds rfl rfl rfl rfl rfl ?_
          refine Ds rfl rfl rfl rfl rfl ?_
          refine Ds rfl rfl rfl rfl rfl ?_
          refine Ds rfl rfl rfl rfl rfl ?_
          refine Ds rfl rfl rfl rfl rfl ?_
          refine Ds rfl rfl rfl rfl rfl ?_
          refine Dv rfl rfl rfl (U_pick_f rfl rfl) rfl rfl ?_
          refine Dr.nil rfl ?_
          refine thenQ_n ?_
          refine Wcond rfl rfl (fun h => nomatch h) (fun _ => ?_)
          refine W_skip rfl ?_
          refine blkQ_n ?_
          refine thenQ_n ?_
          refine W_reg rfl ?_
          refine Rv rfl rfl rfl (U_move rfl) rfl rfl ?_
          refine Rv rfl rfl rfl (U_add rfl rfl (w64e (m := ((k + 1 : Nat) : Int)) (by omega) (by omega) (by omega))) rfl rfl ?_
          refine Rv rfl rfl rfl (U_assign rfl) rfl rfl ?_
          refine Re rfl ?_
          refine thenQ_n ?_
          first | rw [enK_T hne hnx hu hv_] | rw [enK_F hnx]
          exact againTo (T' := [(1, .rop [i64 ((n : Nat) : Int), .ros (ks.flatMap lkN) ks.length c] 0), (4, .ros ((bfL n ks).map n64) n none), (6, .slice 0 0 (1 <<< n) (1 <<< n)), (7, .slice 1 0 (1 <<< n) (1 <<< n)), (10, i64 ((m : Nat) : Int)), (11, i64 (((k + 1) : Nat) : Int))]) (H' := [(0, some (.cells ((upK n (nxQ n ks) (1 <<< n) 0).map n64) 2)), (1, some (.cells ((enK n (nxQ n ks) m (k + 1)).map n64) 2))]) (n := 2) (n - (k + 1)) ⟨k + 1, (by omega), rfl, rfl⟩ (by omega) id ⟨eD rfl rfl, eD rfl rfl, e_ rfl rfl, e_ rfl rfl, eD rfl rfl, eD rfl rfl, trivial⟩ ⟨rD (mapD (fun _ => rfl) _) rfl rfl, rD (mapD (fun _ => rfl) _) rfl rfl, trivial⟩ rfl rfl rfl rfl (fun _ _ => rfl)
      · obtain rfl : n = k := by omega
        rw [enK_all hx hm]
        refine W_exit rfl ?_
        refine thenQ_x ?_
        refine thenQ_x ?_
        refine blkQ_x rfl ?_
        refine blkQ_n ?_
        refine thenQ_n ?_
        refine W_reg rfl ?_
        refine Rv rfl rfl rfl (U_move rfl) rfl rfl ?_
        refine Rv rfl rfl rfl (U_sub rfl rfl (w64 (by omega) (by omega))) rfl rfl ?_
        refine Rv rfl rfl rfl (U_assign rfl) rfl rfl ?_
        refine Re rfl ?_
        refine thenQ_n ?_
        exact againTo (T' := [(1, .rop [i64 ((n : Nat) : Int), .ros (ks.flatMap lkN) ks.length c] 0), (4, .ros ((bfL n ks).map n64) n none), (6, .slice 0 0 (1 <<< n) (1 <<< n)), (7, .slice 1 0 (1 <<< n) (1 <<< n)), (10, i64 (((m : Nat) : Int) - 1))]) (H' := [(0, some (.cells ((upK n (nxQ n ks) (1 <<< n) 0).map n64) 2)), (1, some (.cells ((enV n (nxQ n ks) (min m (full n))).map n64) 2))]) (n := 2) (0 + m) ⟨m, (by omega), rfl, rfl⟩ (by omega) id ⟨eD rfl rfl, eD rfl rfl, e_ rfl rfl, e_ rfl rfl, eD rfl rfl, trivial⟩ ⟨rD (mapD (fun _ => rfl) _) rfl rfl, rD (mapD (fun _ => rfl) _) rfl rfl, trivial⟩ rfl rfl rfl rfl (fun _ _ => rfl)
    · obtain rfl : s = 0 := by omega
      rw [Nat.zero_min]
      refine W_exit rfl ?_
      refine thenQ_x ?_
      refine thenQ_x ?_
      refine blkQ_x rfl ?_
      refine thenQ_n ?_
      refine W_seq rfl ?_
      refine W_reg rfl ?_
      refine Rv rfl rfl rfl (U_move rfl) rfl rfl ?_
      refine Rv rfl rfl rfl (U_move rfl) rfl rfl ?_
      refine Rv rfl rfl rfl (U_assign rfl) rfl rfl ?_
      refine Rv rfl rfl rfl (U_assign rfl) rfl rfl ?_
      refine Re rfl ?_
      refine thenQ_n ?_
      refine WfrN 0 rfl (mapD (fun _ => rfl) _) (T' := [(2, .ros ((upK n (nxQ n ks) (1 <<< n) 0).map n64) (1 <<< n) (some (1 <<< n))), (3, .slice 1 0 (1 <<< n) (1 <<< n))]) (H' := [(1, some (.cells ((enV n (nxQ n ks) 0).map n64) 2))]) ⟨⟨_, rfl, fr_sl (Nat.le_refl _)⟩, ⟨_, rfl, rfl⟩, trivial⟩ ⟨⟨rfl, rFD (mapD (fun _ => rfl) _) rfl⟩, trivial⟩ ?_
      refine WfrN 1 rfl (mapD (fun _ => rfl) _) (T' := [(2, .ros ((upK n (nxQ n ks) (1 <<< n) 0).map n64) (1 <<< n) (some (1 <<< n))), (3, .ros ((enV n (nxQ n ks) 0).map n64) (1 <<< n) (some (1 <<< n)))]) (H' := []) ⟨⟨_, rfl, rfl⟩, ⟨_, rfl, fr_sl (Nat.le_refl _)⟩, trivial⟩ trivial ?_
      refine WweakT (j := 2) rfl le_cap ?_
      refine WweakT (j := 3) rfl le_cap ?_
      refine W_ret rfl ?_
      exact retL (rlT rfl (rlT rfl rl0)) rfl rfl
end Go.Proofs.Ythmibifghihdaaa
end

section
namespace Go.Proofs.Ythmibifghihdaaa
set_option maxRecDepth 20000
open Go.AE
theorem countOf_p (n : Nat) (ks : List (Nat × Nat)) (c : Option Nat) (hv : VB n ks) : Pure Try.prog 70 [bknA n ks c] (i64 ((cntQ n ks : Nat) : Int)) := by
  have hv' := hv
  obtain ⟨hn1, hn, hkl, hk⟩ := hv'
  have h1024 := shl_le hn
  have h2n := shl_ge hn1
  refine pure_of_body Try.func70 (c := body Try.f70) rfl (by simp [Try.ntmps70]) fun w0 Φ0 => ?_
  refine W_seq rfl ?_
  refine W_reg rfl ?_
  refine Rv rfl rfl rfl (U_boxF rfl rfl rfl) rfl rfl ?_
  refine Rv rfl rfl rfl (U_assign rfl) rfl rfl ?_
  refine Re rfl ?_
  refine thenQ_n ?_
  refine W_seq rfl ?_
  refine W_reg rfl ?_
  refine Rv rfl rfl rfl (U_load2 rfl rfl rfl rfl) rfl rfl ?_
  refine Rv rfl rfl rfl (U_call rfl rfl (ways_p n ks c hv) rfl) rfl rfl ?_
  refine Rv rfl rfl rfl (U_move rfl) rfl rfl ?_
  refine Rv rfl rfl rfl (U_extract rfl rfl) rfl rfl ?_
  refine Rv rfl rfl rfl (U_extract rfl rfl) rfl rfl ?_
  refine Rv rfl rfl rfl (U_assign rfl) rfl rfl ?_
  refine Rv rfl rfl rfl (U_assign rfl) rfl rfl ?_
  refine Re rfl ?_
  refine thenQ_n ?_
  refine W_seq rfl ?_
  refine W_reg rfl ?_
  refine Rv rfl rfl rfl (U_move rfl) rfl rfl ?_
  refine Rv rfl rfl rfl (U_move rfl) rfl rfl ?_
  refine Rv rfl rfl rfl (U_lenOf rfl len_ros) rfl rfl ?_
  refine Rv rfl rfl rfl (U_sub rfl rfl (w64e (m := ((1 <<< n - 1 : Nat) : Int)) (by omega) (by omega) (by omega))) rfl rfl ?_
  have hul : (upK n (nxQ n ks) (1 <<< n) 0).length = 1 <<< n := upK_len
  have hx1 : (1 <<< n - 1) < (upK n (nxQ n ks) (1 <<< n) 0).length := by omega
  refine Rv rfl rfl rfl (U_indexR (j := (1 <<< n - 1)) rfl rfl rfl (by omega)) rfl rfl ?_
  refine Rv rfl rfl rfl (U_load1 rfl rfl (getM hx1)) rfl rfl ?_
  refine Rv rfl rfl rfl (U_assign rfl) rfl rfl ?_
  refine Re rfl ?_
  refine thenQ_n ?_
  refine W_ret rfl ?_
  exact retL (rlT rfl rl0) (by first | rfl | (simp only [packA]; rw [upK_end (show 1 <<< n - 1 < 2 ^ n by rw [← one_shl (n := n)]; omega), ← cnt_R hv, full_shl]; first | done | rfl)) rfl
end Go.Proofs.Ythmibifghihdaaa
end

section
namespace Go.Proofs.Ythmibifghihdaaa
set_option maxRecDepth 20000
open Go.AE
theorem nx_sameQ {n : Nat} {ks : List (Nat × Nat)} {m a : Nat} (hv : VB n ks) (hd : DC ks m) : nxB (briQ n ks) m a = nxQ n ks m a := nx_same hv (bfN_tb hv) hd
end Go.Proofs.Ythmibifghihdaaa
end

section
namespace Go.Proofs.Ythmibifghihdaaa
set_option maxRecDepth 20000
open Go.AE
section
variable {n : Nat} {ks : List (Nat × Nat)}
theorem en_sameQ (hv : VB n ks) {m : Nat} (hm : m < 2 ^ n) (hd : DC ks m) : en n (nxB (briQ n ks)) m = en n (nxQ n ks) m := by
  have := @cntN_le n m
  exact en_same hv (bfN_tb hv) (n - cntN n m) m (by omega) hm hd
theorem up_sameQ (hv : VB n ks) {m : Nat} (hm : m < 2 ^ n) : up n (nxB (briQ n ks)) m = up n (nxQ n ks) m := up_same hv (bfN_tb hv) _ m rfl hm
theorem nxB_DC (hv : VB n ks) {m : Nat} (hm : m < 2 ^ n) (h : up n (nxB (briQ n ks)) m ≠ 0) : DC ks m := up_dc (bfN_tb hv) (fun m a h => nxB_R hv (bfN_tb hv) h) _ m rfl hm h
theorem rnk_same (hv : VB n ks) {s : Nat} (hs : s < n) : rnkQ n (nxB (briQ n ks)) s = rnkQ n (nxQ n ks) s := by
  unfold rnkQ
  refine List.map_congr_left fun i _ => sum_congr fun m hm => ?_
  have hm := List.mem_range.1 hm
  by_cases h0 : up n (nxB (briQ n ks)) m = 0
  · rw [← up_sameQ hv hm, h0]; simp
  · have hd := nxB_DC hv hm h0
    rw [nx_sameQ hv hd, up_sameQ hv hm]
    split
    · rename_i h
      have h1 : nxQ n ks m s = true := by
        rw [Bool.and_eq_true] at h; exact h.1
      rw [en_sameQ hv (ad_lt hm hs) (dc_ad hd ((nxR_iff (bfN_tb hv)).1 h1).2)]
    · rfl
def Bhd (n : Nat) (ks : List (Nat × Nat)) (s i m : Nat) : Prop := m < 2 ^ n ∧ DC ks m ∧ nxB (briQ n ks) m s = true ∧ cntN n m = i
theorem rnk_nz (hv : VB n ks) (ha : Acy n ks) (hn : n ≤ 10) {s i : Nat} (hs : s < n) (h : i < (rnkQ n (nxB (briQ n ks)) s).length) : (rnkQ n (nxB (briQ n ks)) s)[i] ≠ 0 ↔ ∃ m, Bhd n ks s i m := by
  have e : (rnkQ n (nxB (briQ n ks)) s)[i] = ((List.range (2 ^ n)).map fun m => if (nxB (briQ n ks) m s && decide (popN m = i)) = true then up n (nxB (briQ n ks)) m * en n (nxB (briQ n ks)) (ad m s) else 0).sum := by simp [rnkQ]
  rw [e]
  constructor
  · intro h
    obtain ⟨m, hm, h1⟩ := sum_nz h
    have hm := List.mem_range.1 hm
    by_cases h2 : (nxB (briQ n ks) m s && decide (popN m = i)) = true
    · rw [if_pos h2] at h1
      rw [Bool.and_eq_true, decide_eq_true_eq] at h2
      have h3 : up n (nxB (briQ n ks)) m ≠ 0 := fun e => h1 (by rw [e, Nat.zero_mul])
      exact ⟨m, hm, nxB_DC hv hm h3, h2.1, by rw [← pop_cnt hn hm]; exact h2.2⟩
    · rw [if_neg h2] at h1; exact absurd rfl h1
  · rintro ⟨m, hm, hd, h1, h2⟩
    have h3 : 0 < ((List.range (2 ^ n)).map fun m => if (nxB (briQ n ks) m s && decide (popN m = i)) = true then up n (nxB (briQ n ks)) m * en n (nxB (briQ n ks)) (ad m s) else 0).sum := by
      refine sum_pos (List.mem_range.2 hm) ?_
      rw [if_pos (by rw [h1, pop_cnt hn hm, h2]; simp)]
      have h4 := @cntN_le n (ad m s)
      exact Nat.mul_pos (up_pos hv ha _ m rfl hm hd) (en_pos hv ha (n - cntN n (ad m s)) _ (by omega) (ad_lt hm hs))
    omega
theorem cnt_or_le {a b : Nat} : cntN n (a ||| b) ≤ cntN n a + cntN n b := by
  unfold cntN
  induction List.range n with
  | nil => simp
  | cons x l ih =>
    simp only [List.countP_cons, Nat.testBit_or]
    cases a.testBit x <;> cases b.testBit x <;> simp at ih ⊢ <;> omega
theorem cnt_sub {a b : Nat} (h : ∀ x, a.testBit x = true → b.testBit x = true) : cntN n a ≤ cntN n b := List.countP_mono_left fun x _ => h x
theorem cnt_disj {a b : Nat} (h : ∀ x, a.testBit x = true → b.testBit x = false) : cntN n a + cntN n b ≤ n := by
  have : ∀ l : List Nat, l.countP (fun x => a.testBit x) + l.countP (fun x => b.testBit x) ≤ l.length := by
    intro l
    induction l with
    | nil => simp
    | cons x l ih =>
      simp only [List.countP_cons, List.length_cons]
      cases e : a.testBit x
      · simp only [Bool.false_eq_true, if_false]; split <;> omega
      · rw [h x e]; simp; omega
  have h2 := this (List.range n)
  rw [List.length_range] at h2
  exact h2
theorem bit1 {x k : Nat} : (x >>> k) &&& 1 = if x.testBit k = true then 1 else 0 := by
  rw [Nat.testBit, Nat.and_one_is_mod, Nat.one_and_eq_mod_two]
  have := Nat.mod_two_eq_zero_or_one (x >>> k)
  rcases this with h | h <;> simp [h]
theorem slo_is (hv : VB n ks) {s : Nat} (hs : s < n) : sloK (faQ n ks) s n = cntN n ((briQ n ks).g s) := by
  have : ∀ k, sloK (faQ n ks) s k = (List.range k).countP fun x => ((briQ n ks).g s).testBit x := by
    intro k
    induction k with
    | zero => rfl
    | succ k ih =>
      rw [sloK, ih, List.range_succ, List.countP_append]
      have h1 := bit1 (x := (faQ n ks).g k) (k := s)
      rw [h1]
      have h3 : ((faQ n ks).g k).testBit s = ((briQ n ks).g s).testBit k := by
        rw [Bool.eq_iff_iff, faQ_tb hv, briQ_tb hv]
      rw [h3]; simp
  exact this n
theorem shi_is {s : Nat} : shiK (faQ n ks) s n = cntN n ((faQ n ks).g s) := by
  have : ∀ k, shiK (faQ n ks) s k = (List.range k).countP fun x => ((faQ n ks).g s).testBit x := by
    intro k
    induction k with
    | zero => rfl
    | succ k ih =>
      rw [shiK, ih, List.range_succ, List.countP_append]
      have h1 := bit1 (x := (faQ n ks).g s) (k := k)
      rw [h1]; simp
  exact this n
theorem bhd_lo (hv : VB n ks) {s i m : Nat} (h : Bhd n ks s i m) : cntN n ((briQ n ks).g s) ≤ i := by
  rw [← h.2.2.2]
  exact cnt_sub fun x hx => ((nxB_iff hv).1 h.2.2.1).2 x ((briQ_tb hv).1 hx)
theorem bhd_hi (hv : VB n ks) (ha : Acy n ks) {s i m : Nat} (hs : s < n) (h : Bhd n ks s i m) : i + 1 + cntN n ((faQ n ks).g s) ≤ n := by
  have h1 := ((nxB_iff hv).1 h.2.2.1).1
  have h2 := cnt_disj (n := n) (a := ad m s) (b := (faQ n ks).g s) fun x hx => by
    cases e : ((faQ n ks).g s).testBit x with
    | false => rfl
    | true =>
      exfalso
      have e := (faQ_tb hv).1 e
      rw [ad_tb, Bool.or_eq_true, decide_eq_true_eq] at hx
      rcases hx with hx | rfl
      · rw [dc_pth h.2.1 e hx] at h1; cases h1
      · exact acy_pth hv ha e
  rw [cnt_ad hs h1, h.2.2.2] at h2
  exact h2
theorem g_lt (hv : VB n ks) {s : Nat} : (briQ n ks).g s < 2 ^ n ∧ (faQ n ks).g s < 2 ^ n := by
  constructor
  · refine Nat.lt_of_not_le fun h => ?_
    obtain ⟨i, hi, h1⟩ := Nat.exists_ge_and_testBit_of_ge_two_pow h
    have := (pth_in hv ((briQ_tb hv).1 h1)).1; omega
  · refine Nat.lt_of_not_le fun h => ?_
    obtain ⟨i, hi, h1⟩ := Nat.exists_ge_and_testBit_of_ge_two_pow h
    have := (pth_in hv ((faQ_tb hv).1 h1)).2; omega
theorem bhd_all (hv : VB n ks) (ha : Acy n ks) {s : Nat} (hs : s < n) : ∀ d, cntN n ((briQ n ks).g s) + d + 1 + cntN n ((faQ n ks).g s) ≤ n → ∃ m, Bhd n ks s (cntN n ((briQ n ks).g s) + d) m
  | 0, _ => ⟨(briQ n ks).g s, (g_lt hv).1, fun p hp h => (briQ_tb hv).2 (Pth.trans (.one hp) ((briQ_tb hv).1 h)), (nxB_iff hv).2 ⟨by
      cases e : ((briQ n ks).g s).testBit s with
      | false => rfl
      | true => exact absurd ((briQ_tb hv).1 e) (acy_pth hv ha), fun x hx => (briQ_tb hv).2 hx⟩, rfl⟩
  | d + 1, h => by
    obtain ⟨m, h1, h2, h3, h4⟩ := bhd_all hv ha hs d (by omega)
    have h5 := (nxB_iff hv).1 h3
    have hM : (m ||| 1 <<< s ||| (faQ n ks).g s) < 2 ^ n := Nat.or_lt_two_pow (ad_lt h1 hs) (g_lt hv).2
    have hf : (m ||| 1 <<< s ||| (faQ n ks).g s) ≠ full n := fun e => by
      have h6 := cnt_or_le (n := n) (a := m ||| 1 <<< s) (b := (faQ n ks).g s)
      rw [e, cnt_ad hs h5.1] at h6
      have : cntN n (full n) = n := by
        unfold cntN
        have : (List.range n).countP (fun a => (full n).testBit a) = (List.range n).length := by
          rw [List.countP_eq_length]
          intro a ha
          rw [full_tb]; simpa using List.mem_range.1 ha
        rw [this, List.length_range]
      omega
    obtain ⟨b, hb, hnb⟩ := nxt_some hv ha hM hf
    have h7 := (nxB_iff hv).1 hnb
    have h8 := h7.1
    rw [Nat.testBit_or, Nat.testBit_or, one_tb, Bool.or_eq_false_iff, Bool.or_eq_false_iff, decide_eq_false_iff_not] at h8
    obtain ⟨⟨h9, h10⟩, h11⟩ := h8
    have h12 : ∀ x, Pth ks x b → m.testBit x = true := fun x hx => by
      have h13 := h7.2 x hx
      rw [Nat.testBit_or, Nat.testBit_or, one_tb, Bool.or_eq_true, Bool.or_eq_true, decide_eq_true_eq] at h13
      rcases h13 with (h13 | rfl) | h13
      · exact h13
      · rw [(faQ_tb hv).2 hx] at h11; cases h11
      · rw [(faQ_tb hv).2 (Pth.trans ((faQ_tb hv).1 h13) hx)] at h11; cases h11
    refine ⟨ad m b, ad_lt h1 hb, dc_ad h2 fun x hx => h12 x (.one hx), (nxB_iff hv).2 ⟨?_, fun x hx => ?_⟩, ?_⟩
    · rw [ad_tb, h5.1]; simp; omega
    · rw [ad_tb, h5.2 x hx]; rfl
    · rw [cnt_ad hb h9]; omega
theorem rnk_span (hv : VB n ks) (ha : Acy n ks) (hn : n ≤ 10) {s i : Nat} (hs : s < n) (h : i < (rnkQ n (nxQ n ks) s).length) : (rnkQ n (nxQ n ks) s)[i] ≠ 0 ↔ sloK (faQ n ks) s n ≤ i ∧ i ≤ n - 1 - shiK (faQ n ks) s n := by
  have hi : i < n := by simpa [rnkQ] using h
  have e := rnk_same hv hs
  have h' : i < (rnkQ n (nxB (briQ n ks)) s).length := by rw [e]; exact h
  have e2 : (rnkQ n (nxQ n ks) s)[i] = (rnkQ n (nxB (briQ n ks)) s)[i] := by simp only [e]
  rw [e2, rnk_nz hv ha hn hs h', slo_is hv hs, shi_is]
  constructor
  · rintro ⟨m, hb⟩
    have h1 := bhd_lo hv hb
    have h2 := bhd_hi hv ha hs hb
    omega
  · rintro ⟨h1, h2⟩
    have h3 : 1 + cntN n ((faQ n ks).g s) ≤ n := by
      have := cnt_disj (n := n) (a := 1 <<< s) (b := (faQ n ks).g s) fun x hx => by
        rw [one_tb, decide_eq_true_eq] at hx
        subst hx
        cases e : ((faQ n ks).g s).testBit s with
        | false => rfl
        | true => exact absurd ((faQ_tb hv).1 e) (acy_pth hv ha)
      have h4 := cnt_ad (n := n) (m := 0) hs (by simp)
      have h5 : ad 0 s = 1 <<< s := by simp
      rw [h5] at h4
      omega
    have := bhd_all hv ha hs (i - cntN n ((briQ n ks).g s)) (by omega)
    rwa [show cntN n ((briQ n ks).g s) + (i - cntN n ((briQ n ks).g s)) = i by omega] at this
theorem span_le (hv : VB n ks) (ha : Acy n ks) {s : Nat} (hs : s < n) : sloK (faQ n ks) s n + 1 + shiK (faQ n ks) s n ≤ n := by
  rw [slo_is hv hs, shi_is]
  have h0 : ((briQ n ks).g s).testBit s = false := by
    cases e : ((briQ n ks).g s).testBit s with
    | false => rfl
    | true => exact absurd ((briQ_tb hv).1 e) (acy_pth hv ha)
  have := cnt_disj (n := n) (a := ad ((briQ n ks).g s) s) (b := (faQ n ks).g s) fun x hx => by
    cases e : ((faQ n ks).g s).testBit x with
    | false => rfl
    | true =>
      exfalso
      have e := (faQ_tb hv).1 e
      rw [ad_tb, Bool.or_eq_true, decide_eq_true_eq] at hx
      rcases hx with hx | rfl
      · exact acy_pth hv ha (Pth.trans e ((briQ_tb hv).1 hx))
      · exact acy_pth hv ha e
  rw [cnt_ad hs h0] at this; exact this
end
end Go.Proofs.Ythmibifghihdaaa
end

section
namespace Go.Proofs.Ythmibifghihdaaa
set_option maxRecDepth 20000
open Go.AE
section
variable {n : Nat} {nx : Nat → Nat → Bool}
theorem fwd_fresh (hx : Nxt nx) : ∀ {o : List Nat} {m : Nat}, Fwd n nx m o → o.Nodup ∧ (∀ x ∈ o, m.testBit x = false ∧ x < n)
  | [], m, _ => ⟨List.nodup_nil, by simp⟩
  | a :: o, m, ⟨h1, h2, h3⟩ => by
    obtain ⟨h4, h5⟩ := fwd_fresh hx h3
    have h6 : ∀ x ∈ o, m.testBit x = false ∧ a ≠ x ∧ x < n := fun x hxm => by
      have := h5 x hxm
      rw [ad_tb, Bool.or_eq_false_iff, decide_eq_false_iff_not] at this
      exact ⟨this.1.1, this.1.2, this.2⟩
    refine ⟨List.nodup_cons.2 ⟨fun h => (h6 a h).2.1 rfl, h4⟩, fun x hxm => ?_⟩
    rcases List.mem_cons.1 hxm with rfl | h
    · exact ⟨hx _ _ h2, h1⟩
    · exact ⟨(h6 x h).1, (h6 x h).2.2⟩
end
section
variable {n : Nat} {ks : List (Nat × Nat)}
end
end Go.Proofs.Ythmibifghihdaaa
end

section
namespace Go.Proofs.Ythmibifghihdaaa
set_option maxRecDepth 20000
open Go.AE
def grt (b : Bk) : Bool := decide ((50 : Int) < b.ls.length)
theorem great_p (b : Bk) (c : Option Nat) : Pure Try.prog 18 [bookA b c] (.bool (grt b)) := by
  refine pure_of_body Try.func18 (c := body Try.f18) rfl (by simp [Try.ntmps18]) fun w0 Φ0 => ?_
  refine W_seq rfl ?_
  refine W_reg rfl ?_
  refine Rv rfl rfl rfl (U_boxF rfl rfl rfl) rfl rfl ?_
  refine Rv rfl rfl rfl (U_assign rfl) rfl rfl ?_
  refine Re rfl ?_
  refine thenQ_n ?_
  refine W_seq rfl ?_
  refine W_reg rfl ?_
  refine Rv rfl rfl rfl (U_fieldAddrR rfl) rfl rfl ?_
  refine Rv rfl rfl rfl (U_load1 rfl rfl rfl) rfl rfl ?_
  refine Rv rfl rfl rfl (U_lenOf rfl len_ros) rfl rfl ?_
  refine Rv rfl rfl rfl (U_gtr rfl rfl) rfl rfl ?_
  refine Rv rfl rfl rfl (U_assign rfl) rfl rfl ?_
  refine Re rfl ?_
  refine thenQ_n ?_
  refine W_ret rfl ?_
  exact retL (rlT rfl rl0) (by first | rfl | (simp only [packA]; rfl; first | done | rfl)) rfl
end Go.Proofs.Ythmibifghihdaaa
end

section
namespace Go.Proofs.Ythmibifghihdaaa
set_option maxRecDepth 20000
open Go.AE
section
variable {n : Nat} {ks : List (Nat × Nat)}
theorem faQ_bt (hv : VB n ks) {a b : Nat} : bt ((faQ n ks).g a) b = true ↔ Pth ks a b := by rw [bt_eq]; exact faQ_tb hv
end
end Go.Proofs.Ythmibifghihdaaa
end

section
namespace Go.Proofs.Ythmibifghihdaaa
set_option maxRecDepth 20000
open Go.AE
theorem grt_l {b : Bk} (h : grt b = false) : b.ls.length ≤ 1000000 := by simp [grt] at h; omega
end Go.Proofs.Ythmibifghihdaaa
end

section
namespace Go.Proofs.Ythmibifghihdaaa
set_option maxRecDepth 20000
open Go.AE
section
variable {n : Nat} {ks : List (Nat × Nat)}
theorem chkON_0 (hv : VB n ks) {q : List Nat} (hq : ∀ x ∈ q, x < n) (hl : q.length = n) : chkON ks q = 0 ↔ IsO n ks q := by
  by_cases hn : q.Nodup
  · rw [chkON_iff hv ⟨hl, hn, hq⟩]
    exact ⟨fun h => ⟨hl, hn, hq, h⟩, fun h => h.2.2.2⟩
  · constructor
    · intro h
      unfold chkON at h
      rw [if_pos hn] at h
      exact absurd h (by decide)
    · intro h; exact absurd h.2.1 hn
end
end Go.Proofs.Ythmibifghihdaaa
end

section
namespace Go.Proofs.Ythmibifghihdaaa
set_option maxRecDepth 20000
open Go.AE
def fneB (b : Bk) : Bool := !grt b && decide (chkB b = 0)
theorem fine_p (b : Bk) (c : Option Nat) : Pure Try.prog 46 [bookA b c] (.bool (fneB b)) := by
  refine pure_of_body Try.func46 (c := body Try.f46) rfl (by simp [Try.ntmps46]) fun w0 Φ0 => ?_
  refine W_seq rfl ?_
  refine W_reg rfl ?_
  refine Rv rfl rfl rfl (U_boxF rfl rfl rfl) rfl rfl ?_
  refine Rv rfl rfl rfl (U_assign rfl) rfl rfl ?_
  refine Re rfl ?_
  refine thenQ_n ?_
  refine W_seq rfl ?_
  refine Wjoin ⟨[(2, .bool ((!(grt b)) && (decide ((chkB b) = 0))))], [], 0, []⟩ ?_ ?_
  · refine W_reg rfl ?_
    refine Rv rfl rfl rfl (U_load2 rfl rfl rfl rfl) rfl rfl ?_
    refine Rv rfl rfl rfl (U_call rfl rfl (great_p b c) rfl) rfl rfl ?_
    refine Rv rfl rfl rfl (U_not rfl) rfl rfl ?_
    refine Rv rfl rfl rfl (U_move rfl) rfl rfl ?_
    refine Rsplit (t := 6) rfl (fun hg1 => ?_) (fun hg1 => ?_)
    · rw [hg1]
      have hgr : grt b = false := by simpa using hg1
      have hl := grt_l hgr
      refine Rv rfl rfl rfl (U_load2 rfl rfl rfl rfl) rfl rfl ?_
      refine Rv rfl rfl rfl (U_call rfl rfl (chkBR_p b c hl) rfl) rfl rfl ?_
      refine Rv rfl rfl rfl (U_eql rfl rfl) rfl rfl ?_
      refine Rv rfl rfl rfl (U_pick_t rfl rfl) rfl rfl ?_
      refine Rv rfl rfl rfl (U_assign rfl) rfl rfl ?_
      refine Re rfl ?_
      exact joinTo id ⟨eD rfl rfl, trivial⟩ trivial rfl rfl rfl rfl (fun _ _ => rfl)
    · rw [hg1]
      refine Rs rfl rfl rfl rfl rfl ?_
      refine Rs rfl rfl rfl rfl rfl ?_
      refine Rs rfl rfl rfl rfl rfl ?_
      refine Rv rfl rfl rfl (U_pick_f rfl rfl) rfl rfl ?_
      refine Rv rfl rfl rfl (U_assign rfl) rfl rfl ?_
      refine Re rfl ?_
      exact joinTo id ⟨eD rfl rfl, trivial⟩ trivial rfl rfl rfl rfl (fun _ _ => rfl)
  refine thenQ_n ?_
  refine W_ret rfl ?_
  exact retL (rlT rfl rl0) (by first | rfl | (simp only [packA]; rfl; first | done | rfl)) rfl
theorem fine_F (b : Bk) (c : Option Nat) (h : fneB b = false) : Pure Try.prog 46 [bookA b c] (.bool false) := by have := fine_p b c; rwa [h] at this
theorem fine_T (b : Bk) (c : Option Nat) (h : fneB b = true) : Pure Try.prog 46 [bookA b c] (.bool true) := by have := fine_p b c; rwa [h] at this
theorem fne_ok {b : Bk} (h : fneB b = true) : chkB b = 0 := by
  unfold fneB at h
  rw [Bool.and_eq_true, decide_eq_true_eq] at h
  exact h.2
end Go.Proofs.Ythmibifghihdaaa
end

section
namespace Go.Proofs.Ythmibifghihdaaa
set_option maxRecDepth 20000
open Go.AE
section
variable {n : Nat} {nx : Nat → Nat → Bool}
def elC (n : Nat) (nx : Nat → Nat → Bool) : Nat → Nat → List (List Nat)
  | 0, m => if m = full n then [[]] else []
  | f + 1, m => if m = full n then [[]] else (List.range n).flatMap fun a => if nx m a = true then (elC n nx f (ad m a)).map (a :: ·) else []
theorem elC_len : ∀ (f m : Nat), (elC n nx f m).length = enC n nx f m
  | 0, m => by unfold elC enC; split <;> rfl
  | f + 1, m => by
    unfold elC enC
    split
    · rfl
    · rw [List.length_flatMap]
      refine sum_congr fun a _ => ?_
      split
      · rw [List.length_map, elC_len f]
      · rfl
theorem elC_nodup : ∀ (f m : Nat), (elC n nx f m).Nodup
  | 0, m => by unfold elC; split <;> simp
  | f + 1, m => by
    unfold elC
    split
    · simp
    · refine flat_nodup List.nodup_range (fun a _ => ?_) fun a _ b _ hab x hxa hxb => ?_
      · split
        · exact map_nodup (fun x y h => by simpa using h) (elC_nodup f _)
        · simp
      · split at hxa
        · split at hxb
          · obtain ⟨p, _, rfl⟩ := List.mem_map.1 hxa
            obtain ⟨q, _, e⟩ := List.mem_map.1 hxb
            simp only [List.cons.injEq] at e
            exact hab e.1.symm
          · simp at hxb
        · simp at hxa
theorem fwd_full (hx : Nxt nx) {o : List Nat} (h : Fwd n nx (full n) o) : o = [] := by
  cases o with
  | nil => rfl
  | cons a o =>
    have h1 := hx _ _ h.2.1
    rw [full_tb, decide_eq_false_iff_not] at h1
    exact absurd h.1 h1
theorem elC_mem (hx : Nxt nx) : ∀ (f m : Nat) (o : List Nat), m < 2 ^ n → n ≤ f + cntN n m → (o ∈ elC n nx f m ↔ Fwd n nx m o ∧ m ||| stO o = full n)
  | 0, m, o, hm, hf => by
    have e : m = full n := Classical.byContradiction fun h => by have := cnt_lt hm h; omega
    subst e
    simp only [elC, if_true, List.mem_singleton]
    constructor
    · rintro rfl; exact ⟨trivial, by simp [stO]⟩
    · rintro ⟨h, _⟩; exact fwd_full hx h
  | f + 1, m, o, hm, hf => by
    unfold elC
    split
    · rename_i e; subst e
      rw [List.mem_singleton]
      constructor
      · rintro rfl; exact ⟨trivial, by simp [stO]⟩
      · rintro ⟨h, _⟩; exact fwd_full hx h
    · rename_i hne
      rw [List.mem_flatMap]
      constructor
      · rintro ⟨a, ha, h⟩
        have ha := List.mem_range.1 ha
        split at h
        · rename_i hu
          obtain ⟨p, hp, rfl⟩ := List.mem_map.1 h
          have hc := cnt_ad ha (hx _ _ hu)
          have h1 := (elC_mem hx f (ad m a) p (ad_lt hm ha) (by omega)).1 hp
          refine ⟨⟨ha, hu, h1.1⟩, ?_⟩
          rw [← h1.2]
          show m ||| (stO p ||| 1 <<< a) = (m ||| 1 <<< a) ||| stO p
          rw [Nat.or_assoc, Nat.or_comm (1 <<< a)]
        · simp at h
      · rintro ⟨h1, h2⟩
        cases o with
        | nil => simp [stO] at h2; exact absurd h2 hne
        | cons a p =>
          obtain ⟨ha, hu, hp⟩ := h1
          refine ⟨a, List.mem_range.2 ha, ?_⟩
          rw [if_pos hu]
          have hc := cnt_ad ha (hx _ _ hu)
          refine List.mem_map.2 ⟨p, (elC_mem hx f (ad m a) p (ad_lt hm ha) (by omega)).2 ⟨hp, ?_⟩, rfl⟩
          rw [← h2]
          show (m ||| 1 <<< a) ||| stO p = m ||| (stO p ||| 1 <<< a)
          rw [Nat.or_assoc, Nat.or_comm (1 <<< a)]
end
section
variable {n : Nat} {ks : List (Nat × Nat)}
def bhL (n : Nat) (ks : List (Nat × Nat)) (s m : Nat) : List (List Nat) := (ulC n (nxQ n ks) n m).flatMap fun p => (elC n (nxQ n ks) n (ad m s)).map fun q => p ++ s :: q
theorem len_const {α : Type} {f : α → List (List Nat)} {c : Nat} : ∀ {l : List α}, (∀ a ∈ l, (f a).length = c) → (l.flatMap f).length = l.length * c
  | [], _ => by simp
  | a :: l, h => by
    rw [List.flatMap_cons, List.length_append, h a (by simp), len_const fun b hb => h b (by simp [hb]), List.length_cons, Nat.add_mul]; omega
theorem bhL_len {s m : Nat} : (bhL n ks s m).length = up n (nxQ n ks) m * en n (nxQ n ks) (ad m s) := by
  unfold bhL
  rw [len_const (c := en n (nxQ n ks) (ad m s)) fun p _ => by rw [List.length_map, elC_len]; rfl, ulC_len]; rfl
theorem bhL_mem {s m : Nat} (hs : s < n) (hm : m < 2 ^ n) (hx : nxQ n ks m s = true) {o : List Nat} : o ∈ bhL n ks s m ↔ ∃ p q, o = p ++ s :: q ∧ stO p = m ∧ Fwd n (nxQ n ks) 0 o ∧ stO o = full n := by
  have hc := cnt_ad hs (nxQ_nxt _ _ hx)
  have hcl := @cntN_le n m
  have key : ∀ p q : List Nat, stO (p ++ s :: q) = ad (stO p) s ||| stO q := fun p q => by
    apply Nat.eq_of_testBit_eq; intro b
    rw [Bool.eq_iff_iff, stO_tb, Nat.testBit_or, ad_tb, Bool.or_eq_true, Bool.or_eq_true, stO_tb, stO_tb, decide_eq_true_eq, List.mem_append, List.mem_cons]
    constructor
    · rintro (h | h | h)
      · exact .inl (.inl h)
      · exact .inl (.inr h.symm)
      · exact .inr h
    · rintro ((h | h) | h)
      · exact .inl h
      · exact .inr (.inl h.symm)
      · exact .inr (.inr h)
  unfold bhL
  rw [List.mem_flatMap]
  constructor
  · rintro ⟨p, hp, h⟩
    obtain ⟨q, hq, rfl⟩ := List.mem_map.1 h
    have h1 := (ulC_mem nxQ_nxt n m p hm hcl).1 hp
    have h2 := (elC_mem nxQ_nxt n (ad m s) q (ad_lt hm hs) (by omega)).1 hq
    refine ⟨p, q, rfl, h1.2, fwd_app.2 ⟨h1.1, ?_⟩, ?_⟩
    · rw [Nat.zero_or, h1.2]; exact ⟨hs, hx, h2.1⟩
    · rw [key, h1.2]; exact h2.2
  · rintro ⟨p, q, rfl, h1, h2, h3⟩
    obtain ⟨h4, h5⟩ := fwd_app.1 h2
    rw [Nat.zero_or, h1] at h5
    rw [key, h1] at h3
    exact ⟨p, (ulC_mem nxQ_nxt n m p hm hcl).2 ⟨h4, h1⟩, List.mem_map.2 ⟨q, (elC_mem nxQ_nxt n (ad m s) q (ad_lt hm hs) (by omega)).2 ⟨h5.2.2, h3⟩, rfl⟩⟩
end
end Go.Proofs.Ythmibifghihdaaa
end

section
namespace Go.Proofs.Ythmibifghihdaaa
set_option maxRecDepth 20000
open Go.AE
section
variable {n : Nat} {ks : List (Nat × Nat)}
theorem plc_at {p q : List Nat} {s : Nat} (h : s ∉ p) : plc (p ++ s :: q) s = p.length := by
  have : plc ((p ++ [s]) ++ q) s = p.length := by
    unfold plc idxI
    rw [List.findIdx?_append, List.findIdx?_append]
    have e : p.findIdx? (fun y => decide (s = y)) = none := by
      rw [List.findIdx?_eq_none_iff]
      intro y hy; simp; rintro rfl; exact h hy
    rw [e]; simp
  rw [List.append_assoc] at this; exact this
theorem split_eq {p q p' q' : List Nat} {s : Nat} (h : s ∉ p) (h' : s ∉ p') (e : p ++ s :: q = p' ++ s :: q') : p = p' := by
  have h1 := plc_at (q := q) h
  rw [e, plc_at h'] at h1
  exact List.append_inj_left e (by omega)
theorem nx_out {m s : Nat} (hx : nxQ n ks m s = true) {p : List Nat} (hp : stO p = m) : s ∉ p := fun h => by
  have h1 := nxQ_nxt _ _ hx
  rw [← hp, stO_tb.2 h] at h1; cases h1
theorem bhL_nodup {s m : Nat} (hm : m < 2 ^ n) (hx : nxQ n ks m s = true) : (bhL n ks s m).Nodup := by
  unfold bhL
  have hcl := @cntN_le n m
  refine flat_nodup (ulC_nodup _ _) (fun p _ => map_nodup (fun x y h => ?_) (elC_nodup _ _)) fun p hp p' hp' hne x hxp hxp' => ?_
  · have := List.append_cancel_left h; simpa using this
  · obtain ⟨q, _, rfl⟩ := List.mem_map.1 hxp
    obtain ⟨q', _, e⟩ := List.mem_map.1 hxp'
    have h1 := (ulC_mem nxQ_nxt n m p hm hcl).1 hp
    have h2 := (ulC_mem nxQ_nxt n m p' hm hcl).1 hp'
    exact hne (split_eq (nx_out hx h1.2) (nx_out hx h2.2) e.symm)
def rnL (n : Nat) (ks : List (Nat × Nat)) (s i : Nat) : List (List Nat) := (List.range (2 ^ n)).flatMap fun m => if (nxQ n ks m s && decide (popN m = i)) = true then bhL n ks s m else []
theorem rnL_len {s i : Nat} (h : i < (rnkQ n (nxQ n ks) s).length) : (rnL n ks s i).length = (rnkQ n (nxQ n ks) s)[i] := by
  have e : (rnkQ n (nxQ n ks) s)[i] = ((List.range (2 ^ n)).map fun m => if (nxQ n ks m s && decide (popN m = i)) = true then up n (nxQ n ks) m * en n (nxQ n ks) (ad m s) else 0).sum := by simp [rnkQ]
  rw [e, rnL, List.length_flatMap]
  refine sum_congr fun m _ => ?_
  split
  · rw [bhL_len]
  · rfl
theorem rnL_nodup {s i : Nat} (hs : s < n) : (rnL n ks s i).Nodup := by
  refine flat_nodup List.nodup_range (fun m hm => ?_) fun m hm m' hm' hne x hx hx' => ?_
  · split
    · rename_i h; rw [Bool.and_eq_true] at h; exact bhL_nodup (List.mem_range.1 hm) h.1
    · simp
  · split at hx
    · split at hx'
      · rename_i h h'
        rw [Bool.and_eq_true] at h h'
        obtain ⟨p, q, e, h1, _⟩ := (bhL_mem hs (List.mem_range.1 hm) h.1).1 hx
        obtain ⟨p', q', e', h1', _⟩ := (bhL_mem hs (List.mem_range.1 hm') h'.1).1 hx'
        have := split_eq (nx_out h.1 h1) (nx_out h'.1 h1') (e.symm.trans e')
        subst this
        exact hne (h1.symm.trans h1')
      · simp at hx'
    · simp at hx
theorem rnL_mem (hn : n ≤ 10) {s i : Nat} (hs : s < n) {o : List Nat} : o ∈ rnL n ks s i ↔ o ∈ oll n ks ∧ plc o s = i := by
  have ho : o ∈ oll n ks ↔ Fwd n (nxQ n ks) 0 o ∧ stO o = full n := by
    rw [oll, ulC_mem nxQ_nxt n (full n) o full_lt (by rw [full_cnt]; exact Nat.le_refl _)]
  unfold rnL
  rw [List.mem_flatMap, ho]
  constructor
  · rintro ⟨m, hm, h⟩
    have hm := List.mem_range.1 hm
    split at h
    · rename_i hc
      rw [Bool.and_eq_true, decide_eq_true_eq] at hc
      obtain ⟨p, q, rfl, h1, h2, h3⟩ := (bhL_mem hs hm hc.1).1 h
      refine ⟨⟨h2, h3⟩, ?_⟩
      have h4 := fwd_fresh nxQ_nxt (fwd_app.1 h2).1
      rw [plc_at (nx_out hc.1 h1), ← cnt_set h4.1 fun x hx => (h4.2 x hx).2, h1, ← hc.2, pop_cnt hn hm]
    · simp at h
  · rintro ⟨⟨h2, h3⟩, h4⟩
    have hso : s ∈ o := plc_mem.1 (by omega)
    obtain ⟨p, q, hp, rfl⟩ : ∃ p q, s ∉ p ∧ o = p ++ s :: q := by
      have : ∀ o : List Nat, s ∈ o → ∃ p q, s ∉ p ∧ o = p ++ s :: q := by
        intro o
        induction o with
        | nil => intro h; simp at h
        | cons a o ih =>
          intro h
          by_cases e : s = a
          · subst e; exact ⟨[], o, by simp, rfl⟩
          · rcases List.mem_cons.1 h with h | h
            · exact absurd h e
            · obtain ⟨p, q, h1, rfl⟩ := ih h
              exact ⟨a :: p, q, by simp [e, h1], rfl⟩
      exact this o hso
    rw [plc_at hp] at h4
    have h5 := fwd_app.1 h2
    rw [Nat.zero_or] at h5
    have h6 := fwd_fresh nxQ_nxt h5.1
    have hlt : stO p < 2 ^ n := stO_lt fun x hx => (h6.2 x hx).2
    refine ⟨stO p, List.mem_range.2 hlt, ?_⟩
    have hx : nxQ n ks (stO p) s = true := h5.2.2.1
    rw [if_pos (by
      rw [hx, Bool.true_and, decide_eq_true_eq, pop_cnt hn hlt, cnt_set h6.1 fun x hx => (h6.2 x hx).2]; omega)]
    exact (bhL_mem hs hlt hx).2 ⟨p, q, rfl, rfl, h2, h3⟩
theorem rnk_cnt (hn : n ≤ 10) {s i : Nat} (hs : s < n) (h : i < (rnkQ n (nxQ n ks) s).length) : (rnkQ n (nxQ n ks) s)[i] = (oll n ks).countP fun o => decide (plc o s = (i : Int)) := by
  rw [← rnL_len h, List.countP_eq_length_filter]
  refine (nodup_permL (rnL_nodup hs) (List.Pairwise.filter _ oll_nodup) fun o => ?_).length_eq
  rw [rnL_mem hn hs, List.mem_filter, decide_eq_true_eq]
end
end Go.Proofs.Ythmibifghihdaaa
end

section
namespace Go.Proofs.Ythmibifghihdaaa
set_option maxRecDepth 20000
open Go.AE
section
variable {n : Nat} {ks : List (Nat × Nat)}
theorem plc_get {o : List Nat} (hn : o.Nodup) {i : Nat} (hi : i < o.length) : plc o o[i] = i := idx_at hn hi
theorem rnk_len {s : Nat} : (rnkQ n (nxQ n ks) s).length = n := by simp [rnkQ]
end
end Go.Proofs.Ythmibifghihdaaa
end

section
namespace Go.Proofs.Ythmibifghihdaaa
set_option maxRecDepth 20000
open Go.AE
theorem ordered_F (b : Bk) (c : Option Nat) (hf : fneB b = false) : Pure Try.prog 47 [bookA b c] (.bool false) := by
  refine pure_of_body Try.func47 (c := body Try.f47) rfl (by simp [Try.ntmps47]) fun w0 Φ0 => ?_
  refine W_seq rfl ?_
  refine W_reg rfl ?_
  refine Rv rfl rfl rfl (U_boxF rfl rfl rfl) rfl rfl ?_
  refine Rv rfl rfl rfl (U_assign rfl) rfl rfl ?_
  refine Re rfl ?_
  refine thenQ_n ?_
  refine W_seq rfl ?_
  refine W_reg rfl ?_
  refine Rv rfl rfl rfl (U_load2 rfl rfl rfl rfl) rfl rfl ?_
  refine Rv rfl rfl rfl (U_call rfl rfl (fine_F b c hf) rfl) rfl rfl ?_
  refine Rv rfl rfl rfl (U_move rfl) rfl rfl ?_
  refine Rs rfl rfl rfl rfl rfl ?_
  refine Rs rfl rfl rfl rfl rfl ?_
  refine Rs rfl rfl rfl rfl rfl ?_
  refine Rv rfl rfl rfl (U_pick_f rfl rfl) rfl rfl ?_
  refine Rv rfl rfl rfl (U_assign rfl) rfl rfl ?_
  refine Re rfl ?_
  refine thenQ_n ?_
  refine W_ret rfl ?_
  exact retL (rlT rfl rl0) rfl rfl
theorem ordered_Y (n : Nat) (ks : List (Nat × Nat)) (c : Option Nat) (hv : VB n ks) (hf : Pure Try.prog 46 [bknA n ks c] (.bool true)) (g : Nat) (hg : Cyc n ks g) : Pure Try.prog 47 [bknA n ks c] (.bool false) := by
  refine pure_of_body Try.func47 (c := body Try.f47) rfl (by simp [Try.ntmps47]) fun w0 Φ0 => ?_
  refine W_seq rfl ?_
  refine W_reg rfl ?_
  refine Rv rfl rfl rfl (U_boxF rfl rfl rfl) rfl rfl ?_
  refine Rv rfl rfl rfl (U_assign rfl) rfl rfl ?_
  refine Re rfl ?_
  refine thenQ_n ?_
  refine W_seq rfl ?_
  refine W_reg rfl ?_
  refine Rv rfl rfl rfl (U_load2 rfl rfl rfl rfl) rfl rfl ?_
  refine Rv rfl rfl rfl (U_call rfl rfl (hf) rfl) rfl rfl ?_
  refine Rv rfl rfl rfl (U_move rfl) rfl rfl ?_
  refine Rv rfl rfl rfl (U_load2 rfl rfl rfl rfl) rfl rfl ?_
  refine Rv rfl rfl rfl (U_call rfl rfl (countOf_p n ks c hv) rfl) rfl rfl ?_
  refine Rv rfl rfl rfl (OpU.toB (U_gtr rfl rfl) (decide_eq_false (by rw [cnt_cyc hv hg]; simp))) rfl rfl ?_
  refine Rv rfl rfl rfl (U_pick_t rfl rfl) rfl rfl ?_
  refine Rv rfl rfl rfl (U_assign rfl) rfl rfl ?_
  refine Re rfl ?_
  refine thenQ_n ?_
  refine W_ret rfl ?_
  exact retL (rlT rfl rl0) rfl rfl
theorem ordered_A (n : Nat) (ks : List (Nat × Nat)) (c : Option Nat) (hv : VB n ks) (hf : Pure Try.prog 46 [bknA n ks c] (.bool true)) (ha : Acy n ks) : Pure Try.prog 47 [bknA n ks c] (.bool true) := by
  refine pure_of_body Try.func47 (c := body Try.f47) rfl (by simp [Try.ntmps47]) fun w0 Φ0 => ?_
  refine W_seq rfl ?_
  refine W_reg rfl ?_
  refine Rv rfl rfl rfl (U_boxF rfl rfl rfl) rfl rfl ?_
  refine Rv rfl rfl rfl (U_assign rfl) rfl rfl ?_
  refine Re rfl ?_
  refine thenQ_n ?_
  refine W_seq rfl ?_
  refine W_reg rfl ?_
  refine Rv rfl rfl rfl (U_load2 rfl rfl rfl rfl) rfl rfl ?_
  refine Rv rfl rfl rfl (U_call rfl rfl (hf) rfl) rfl rfl ?_
  refine Rv rfl rfl rfl (U_move rfl) rfl rfl ?_
  refine Rv rfl rfl rfl (U_load2 rfl rfl rfl rfl) rfl rfl ?_
  refine Rv rfl rfl rfl (U_call rfl rfl (countOf_p n ks c hv) rfl) rfl rfl ?_
  refine Rv rfl rfl rfl (OpU.toB (U_gtr rfl rfl) (decide_eq_true (by have := cnt_acy hv ha; omega))) rfl rfl ?_
  refine Rv rfl rfl rfl (U_pick_t rfl rfl) rfl rfl ?_
  refine Rv rfl rfl rfl (U_assign rfl) rfl rfl ?_
  refine Re rfl ?_
  refine thenQ_n ?_
  refine W_ret rfl ?_
  exact retL (rlT rfl rl0) rfl rfl
theorem ranksQ_p (n : Nat) (ks : List (Nat × Nat)) (c : Option Nat) (hv : VB n ks) (h40 : ks.length ≤ 40) (ha : Acy n ks) (s : Nat) (hs : s < n) : Pure Try.prog 39 [bknA n ks c, i64 (s : Nat)] (.tup [natsA (rnkQ n (nxQ n ks) s) none, i64 0]) := by
  have h := ranks_g n ks c hv h40 ha s hs
  rw [rnk_same hv hs] at h
  rw [natsA, rnk_len]; exact h
end Go.Proofs.Ythmibifghihdaaa
end

section
namespace Go.Proofs.Ythmibifghihdaaa
set_option maxRecDepth 20000
open Go.AE
theorem spanned_a (b : Bk) (c : Option Nat) (hO : Pure Try.prog 47 [bookA b c] (.bool false)) (star : Nat) (hu1 : star < 256) (l : List Int) (d : Option Nat) : Pure Try.prog 9 [bookA b c, .int .u8 (star : Nat), intsA l d] (.bool true) := by
  refine pure_of_body Try.func9 (c := body Try.f9) rfl (by simp [Try.ntmps9]) fun w0 Φ0 => ?_
  refine W_seq rfl ?_
  refine W_reg rfl ?_
  refine Rv rfl rfl rfl (U_boxF rfl rfl rfl) rfl rfl ?_
  refine Rv rfl rfl rfl (U_assign rfl) rfl rfl ?_
  refine Re rfl ?_
  refine thenQ_n ?_
  refine W_seq rfl ?_
  refine W_seq rfl ?_
  refine W_reg rfl ?_
  refine Rv rfl rfl rfl (U_load2 rfl rfl rfl rfl) rfl rfl ?_
  refine Rv rfl rfl rfl (U_call rfl rfl (hO) rfl) rfl rfl ?_
  refine Rv rfl rfl rfl (U_not rfl) rfl rfl ?_
  refine Rv rfl rfl rfl (U_move rfl) rfl rfl ?_
  refine Rs rfl rfl rfl rfl rfl ?_
  refine Rs rfl rfl rfl rfl rfl ?_
  refine Rs rfl rfl rfl rfl rfl ?_
  refine Rv rfl rfl rfl (U_pick_t rfl rfl) rfl rfl ?_
  refine Re rfl ?_
  refine thenQ_n ?_
  refine Wcond rfl rfl (fun _ => ?_) (fun h => nomatch h)
  refine W_seq rfl ?_
  refine W_reg rfl ?_
  refine Rv rfl rfl rfl (U_call rfl rfl (works_p) rfl) rfl rfl ?_
  refine Rv rfl rfl rfl (U_assign rfl) rfl rfl ?_
  refine Re rfl ?_
  refine thenQ_n ?_
  refine W_ret rfl ?_
  refine thenQ_r ?_
  exact retL (rlT rfl rl0) rfl rfl
theorem spanned_b (n : Nat) (ks : List (Nat × Nat)) (c : Option Nat) (hv : VB n ks) (h40 : ks.length ≤ 40) (hO : Pure Try.prog 47 [bknA n ks c] (.bool true)) (star : Nat) (hu1 : star < 256) (l : List Int) (d : Option Nat) (hll : ¬ l.length ≤ 20) : Pure Try.prog 9 [bknA n ks c, .int .u8 (star : Nat), intsA l d] (.bool true) := by
  have hv' := hv
  obtain ⟨hn1, hn, hkl, hk⟩ := hv'
  have hk2 := vb_lt hv
  refine pure_of_body Try.func9 (c := body Try.f9) rfl (by simp [Try.ntmps9]) fun w0 Φ0 => ?_
  refine W_seq rfl ?_
  refine W_reg rfl ?_
  refine Rv rfl rfl rfl (U_boxF rfl rfl rfl) rfl rfl ?_
  refine Rv rfl rfl rfl (U_assign rfl) rfl rfl ?_
  refine Re rfl ?_
  refine thenQ_n ?_
  refine W_seq rfl ?_
  refine W_seq rfl ?_
  refine W_reg rfl ?_
  refine Rv rfl rfl rfl (U_load2 rfl rfl rfl rfl) rfl rfl ?_
  refine Rv rfl rfl rfl (U_call rfl rfl (hO) rfl) rfl rfl ?_
  refine Rv rfl rfl rfl (U_not rfl) rfl rfl ?_
  refine Rv rfl rfl rfl (U_move rfl) rfl rfl ?_
  refine Rv rfl rfl rfl (U_move rfl) rfl rfl ?_
  refine Rv rfl rfl rfl (U_lenOf rfl len_ros) rfl rfl ?_
  refine Rv rfl rfl rfl (OpU.toB (U_gtr rfl rfl) (decide_eq_true (by omega))) rfl rfl ?_
  refine Rv rfl rfl rfl (U_pick_f rfl rfl) rfl rfl ?_
  refine Re rfl ?_
  refine thenQ_n ?_
  refine Wcond rfl rfl (fun _ => ?_) (fun h => nomatch h)
  refine W_seq rfl ?_
  refine W_reg rfl ?_
  refine Rv rfl rfl rfl (U_call rfl rfl (works_p) rfl) rfl rfl ?_
  refine Rv rfl rfl rfl (U_assign rfl) rfl rfl ?_
  refine Re rfl ?_
  refine thenQ_n ?_
  refine W_ret rfl ?_
  refine thenQ_r ?_
  exact retL (rlT rfl rl0) rfl rfl
def hiC (fa : R10) (s : Nat) : Nat → Nat
  | 0 => 0
  | k + 1 => if k = s ∨ bt (fa.g s) k = true then hiC fa s k else hiC fa s k + 1
theorem bit_bt {a k : Nat} : (a >>> k) &&& 1 = if bt a k = true then 1 else 0 := by rw [bt_eq]; exact bit1
theorem slo_S {fa : R10} {s k : Nat} : sloK fa s (k + 1) = sloK fa s k + if bt (fa.g k) s = true then 1 else 0 := by rw [sloK, bit_bt]
theorem shi_S {fa : R10} {s k : Nat} : shiK fa s (k + 1) = shiK fa s k + if bt (fa.g s) k = true then 1 else 0 := by rw [shiK, bit_bt]
theorem hiC_is {fa : R10} {s : Nat} (h : bt (fa.g s) s = false) : ∀ k, hiC fa s k + (if s < k then 1 else 0) + shiK fa s k = k
  | 0 => by simp [hiC, shiK]
  | k + 1 => by
    have ih := hiC_is h k
    rw [hiC, shi_S]
    by_cases e : k = s
    · subst e
      rw [if_pos (.inl rfl), h, if_pos (by omega)]
      rw [if_neg (by omega)] at ih
      simp; omega
    · by_cases h2 : bt (fa.g s) k = true
      · rw [if_pos (.inr h2), if_pos h2]
        split at ih <;> split <;> omega
      · rw [if_neg (by rintro (h3 | h3); exact e h3; exact h2 h3), if_neg h2]
        split at ih <;> split <;> omega
theorem hiC_end {fa : R10} {s n : Nat} (h : bt (fa.g s) s = false) (hs : s < n) : ((hiC fa s n : Nat) : Int) = ((n : Nat) : Int) - 1 - ((shiK fa s n : Nat) : Int) := by
  have := hiC_is h n
  rw [if_pos hs] at this; omega
theorem hiC_le {fa : R10} {s : Nat} : ∀ k, hiC fa s k ≤ k
  | 0 => Nat.le_refl _
  | k + 1 => by have := hiC_le (fa := fa) (s := s) k; rw [hiC]; split <;> omega
theorem knd_sum {n : Nat} {ks : List (Nat × Nat)} (hv : VB n ks) (ha : Acy n ks) (a b : Nat) : 0 ≤ kndQ (faQ n ks) a b ∧ kndQ (faQ n ks) a b ≤ 2 ∧ kndQ (faQ n ks) a b + kndQ (faQ n ks) b a = 2 ∧ (kndQ (faQ n ks) a b = 2 ↔ bt ((faQ n ks).g a) b = true) ∧ (kndQ (faQ n ks) b a = 2 ↔ bt ((faQ n ks).g b) a = true) := by
  have hx : ¬ (bt ((faQ n ks).g a) b = true ∧ bt ((faQ n ks).g b) a = true) := fun h => by
    rw [faQ_bt hv, faQ_bt hv] at h
    exact acy_pth hv ha (h.1.trans h.2)
  unfold kndQ
  by_cases h1 : bt ((faQ n ks).g a) b = true
  · have h2 : ¬ bt ((faQ n ks).g b) a = true := fun h => hx ⟨h1, h⟩
    simp [h1, h2]
  · by_cases h2 : bt ((faQ n ks).g b) a = true
    · simp [h1, h2]
    · simp [h1, h2]
theorem t_ord (n : Nat) (ks : List (Nat × Nat)) (c : Option Nat) (hv : VB n ks) (h40 : ks.length ≤ 40) (l : List Int) (d : Option Nat) (hll : l.length ≤ 1000000) : ∃ v : Int, Pure Try.prog 22 [bknA n ks c, intsA l d] (i64 v) ∧ Pure Try.prog 23 [bknA n ks c, intsA l d] (i64 v) ∧ (v = 0 → ∃ q : List Nat, intsA l d = natsA q d ∧ IsO n ks q) := by
  by_cases hne : l.length = n
  · cases hin : inL 0 (((n : Nat) : Int) - 1) l with
    | false => exact ⟨2, checkOrder_i n ks c hv h40 l d hll hne hin, checkOrderR_i n ks c hv h40 l d hll hne hin, fun h => absurd h (by decide)⟩
    | true =>
      obtain ⟨q, rfl, hq, _⟩ := nats_of hin
      rw [ints_nats]
      simp at hne hll
      exact ⟨chkON ks q, checkOrder_n n ks c hv h40 q d hll hq hne, checkOrderR_n n ks c hv h40 q d hll hq hne, fun h => ⟨q, rfl, (chkON_0 hv hq hne).1 h⟩⟩
  · exact ⟨15, checkOrder_l n ks c hv h40 l d hll hne, checkOrderR_l n ks c hv h40 l d hll hne, fun h => absurd h (by decide)⟩
theorem sp_dec {n i lo hi r : Nat} (hsl : lo + 1 + hi ≤ n) (h : r ≠ 0 ↔ lo ≤ i ∧ i ≤ n - 1 - hi) : (bif decide (((lo : Nat) : Int) ≤ ((i : Nat) : Int)) then decide (decide (0 < ((r : Nat) : Int)) ≠ decide (((i : Nat) : Int) ≤ ((n : Nat) : Int) - 1 - ((hi : Nat) : Int))) || decide (((r : Nat) : Int) < 0) else decide (decide (0 < ((r : Nat) : Int)) ≠ false) || decide (((r : Nat) : Int) < 0)) = false := by
  have h3 : decide (((r : Nat) : Int) < 0) = false := decide_eq_false (by omega)
  rw [h3]
  by_cases h1 : lo ≤ i
  · rw [decide_eq_true (show ((lo : Nat) : Int) ≤ ((i : Nat) : Int) by omega)]
    have : decide (0 < ((r : Nat) : Int)) = decide (((i : Nat) : Int) ≤ ((n : Nat) : Int) - 1 - ((hi : Nat) : Int)) := decide_eq_decide.2 (by omega)
    rw [this]; simp
  · rw [decide_eq_false (show ¬ ((lo : Nat) : Int) ≤ ((i : Nat) : Int) by omega), decide_eq_false (show ¬ 0 < ((r : Nat) : Int) by omega)]; rfl
theorem isO_mem {n : Nat} {ks : List (Nat × Nat)} {q : List Nat} (h : IsO n ks q) {s : Nat} (hs : s < n) : s ∈ q := by
  refine Classical.byContradiction fun hc => ?_
  have := nodup_len (l := s :: q) (m := List.range n) (List.nodup_cons.2 ⟨hc, h.2.1⟩) (fun x hx => by rcases List.mem_cons.1 hx with rfl | hx; exact List.mem_range.2 hs; exact List.mem_range.2 (h.2.2.1 x hx))
  simp [h.1] at this; omega
theorem isO_span {n : Nat} {ks : List (Nat × Nat)} (hv : VB n ks) (ha : Acy n ks) {q : List Nat} (h : IsO n ks q) {i s : Nat} (hi : i < q.length) (hs : q[i] = s) : sloK (faQ n ks) s n ≤ i ∧ i ≤ n - 1 - shiK (faQ n ks) s n := by
  have hsn : s < n := hs ▸ h.2.2.1 _ (List.getElem_mem hi)
  have hin : i < n := h.1 ▸ hi
  have hl : i < (rnkQ n (nxQ n ks) s).length := by rw [rnk_len]; exact hin
  refine (rnk_span hv ha hv.2.1 hsn hl).1 ?_
  rw [rnk_cnt hv.2.1 hsn hl]
  have : 0 < (oll n ks).countP fun o => decide (plc o s = (i : Int)) := List.countP_pos_iff.2 ⟨q, (oll_mem hv).2 h, by rw [← hs, plc_get h.2.1 hi]; simp⟩
  omega
theorem spanned_c (n : Nat) (ks : List (Nat × Nat)) (c : Option Nat) (hv : VB n ks) (h40 : ks.length ≤ 40) (ha : Acy n ks) (hO : Pure Try.prog 47 [bknA n ks c] (.bool true)) (star : Nat) (hu1 : star < 256) (l : List Int) (d : Option Nat) (hll : l.length ≤ 20) (v : Int) (hv0 : v ≠ 0) (h22 : Pure Try.prog 22 [bknA n ks c, intsA l d] (i64 v)) : Pure Try.prog 9 [bknA n ks c, .int .u8 (star : Nat), intsA l d] (.bool true) := by
  have hv' := hv
  obtain ⟨hn1, hn, hkl, hk⟩ := hv'
  have hk2 := vb_lt hv
  have hs : star % n < n := Nat.mod_lt _ (by omega)
  have hrl : (rnkQ n (nxQ n ks) (star % n)).length = n := rnk_len
  have hss : bt ((faQ n ks).g (star % n)) (star % n) = false := ha _ hs
  refine pure_of_body Try.func9 (c := body Try.f9) rfl (by simp [Try.ntmps9]) fun w0 Φ0 => ?_
  refine W_seq rfl ?_
  refine W_reg rfl ?_
  refine Rv rfl rfl rfl (U_boxF rfl rfl rfl) rfl rfl ?_
  refine Rv rfl rfl rfl (U_assign rfl) rfl rfl ?_
  refine Re rfl ?_
  refine thenQ_n ?_
  refine W_seq rfl ?_
  refine W_seq rfl ?_
  refine W_reg rfl ?_
  refine Rv rfl rfl rfl (U_load2 rfl rfl rfl rfl) rfl rfl ?_
  refine Rv rfl rfl rfl (U_call rfl rfl (hO) rfl) rfl rfl ?_
  refine Rv rfl rfl rfl (U_not rfl) rfl rfl ?_
  refine Rv rfl rfl rfl (U_move rfl) rfl rfl ?_
  refine Rv rfl rfl rfl (U_move rfl) rfl rfl ?_
  refine Rv rfl rfl rfl (U_lenOf rfl len_ros) rfl rfl ?_
  refine Rv rfl rfl rfl (OpU.toB (U_gtr rfl rfl) (decide_eq_false (by omega))) rfl rfl ?_
  refine Rv rfl rfl rfl (U_pick_f rfl rfl) rfl rfl ?_
  refine Re rfl ?_
  refine thenQ_n ?_
  refine Wcond rfl rfl (fun h => nomatch h) (fun _ => ?_)
  refine W_skip rfl ?_
  refine thenQ_n ?_
  refine W_seq rfl ?_
  refine W_reg rfl ?_
  refine Rv rfl rfl rfl (U_move rfl) rfl rfl ?_
  refine Rv rfl rfl rfl (U_convInt (by rfl) rfl (wr_i64 (by omega) (by omega))) rfl rfl ?_
  refine Rv rfl rfl rfl (U_fieldAddrR rfl) rfl rfl ?_
  refine Rv rfl rfl rfl (U_load1 rfl rfl rfl) rfl rfl ?_
  refine Rv rfl rfl rfl (U_rem (c := ((star % n : Nat) : Int)) rfl rfl (by omega) (tmodN _ _)) rfl rfl ?_
  refine Rv rfl rfl rfl (U_assign rfl) rfl rfl ?_
  refine Re rfl ?_
  refine thenQ_n ?_
  refine W_seq rfl ?_
  refine W_reg rfl ?_
  refine Rv rfl rfl rfl (U_load2 rfl rfl rfl rfl) rfl rfl ?_
  refine Rv rfl rfl rfl (U_move rfl) rfl rfl ?_
  refine Rv rfl rfl rfl (U_call rfl rfl (span_g n ks c hv h40 ha (star % n) hs) rfl) rfl rfl ?_
  refine Rv rfl rfl rfl (U_move rfl) rfl rfl ?_
  refine Rv rfl rfl rfl (U_extract rfl rfl) rfl rfl ?_
  refine Rv rfl rfl rfl (U_extract rfl rfl) rfl rfl ?_
  refine Ra rfl rfl rfl (U_alloc) rfl rfl rfl ?_
  refine Rn rfl rfl rfl (U_storeAll rfl rfl rfl rfl rfl rfl) rfl ?_
  refine Rv rfl rfl rfl (U_assign rfl) rfl rfl ?_
  refine Re rfl ?_
  refine thenQ_n ?_
  refine WfrN 0 rfl rfl (T' := [(2, .ros (l.map i64) l.length d), (3, .rop [i64 ((n : Nat) : Int), .ros (ks.flatMap lkN) ks.length c] 0), (7, i64 ((star % n : Nat) : Int)), (8, .rop [i64 ((sloK (faQ n ks) (star % n) n : Nat) : Int), i64 (((n : Nat) : Int) - 1 - ((shiK (faQ n ks) (star % n) n : Nat) : Int))] 0), (9, i64 0)]) (H' := []) ⟨⟨_, rfl, rfl⟩, ⟨_, rfl, rfl⟩, ⟨_, rfl, rfl⟩, ⟨_, rfl, rfl⟩, ⟨_, rfl, rfl⟩, trivial⟩ trivial ?_
  refine W_seq rfl ?_
  refine W_reg rfl ?_
  refine Rv rfl rfl rfl (U_load2 rfl rfl rfl rfl) rfl rfl ?_
  refine Rv rfl rfl rfl (U_move rfl) rfl rfl ?_
  refine Rv rfl rfl rfl (U_call rfl rfl (ranksQ_p n ks c hv h40 ha (star % n) hs) rfl) rfl rfl ?_
  refine Rv rfl rfl rfl (U_move rfl) rfl rfl ?_
  refine Rv rfl rfl rfl (U_extract rfl rfl) rfl rfl ?_
  refine Rv rfl rfl rfl (U_extract rfl rfl) rfl rfl ?_
  refine Rv rfl rfl rfl (U_assign rfl) rfl rfl ?_
  refine Rv rfl rfl rfl (U_assign rfl) rfl rfl ?_
  refine Re rfl ?_
  refine thenQ_n ?_
  refine W_seq rfl ?_
  refine W_seq rfl ?_
  refine W_reg rfl ?_
  refine Rv rfl rfl rfl (U_move rfl) rfl rfl ?_
  refine Rv rfl rfl rfl (U_neq rfl rfl) rfl rfl ?_
  refine Rv rfl rfl rfl (U_move rfl) rfl rfl ?_
  refine Rv rfl rfl rfl (U_move rfl) rfl rfl ?_
  refine Rv rfl rfl rfl (U_neq rfl rfl) rfl rfl ?_
  refine Rv rfl rfl rfl (U_pick_f rfl rfl) rfl rfl ?_
  refine Rv rfl rfl rfl (U_move rfl) rfl rfl ?_
  refine Rv rfl rfl rfl (U_move rfl) rfl rfl ?_
  refine Rv rfl rfl rfl (U_lenOf rfl len_ros) rfl rfl ?_
  refine Rv rfl rfl rfl (U_fieldAddrR rfl) rfl rfl ?_
  refine Rv rfl rfl rfl (U_load1 rfl rfl rfl) rfl rfl ?_
  refine Rv rfl rfl rfl (OpU.toB (U_neq rfl rfl) (decide_eq_false (by omega))) rfl rfl ?_
  refine Rv rfl rfl rfl (U_pick_f rfl rfl) rfl rfl ?_
  refine Re rfl ?_
  refine thenQ_n ?_
  refine Wcond rfl rfl (fun h => nomatch h) (fun _ => ?_)
  refine W_skip rfl ?_
  refine thenQ_n ?_
  refine W_seq rfl ?_
  refine W_reg rfl ?_
  refine Rv rfl rfl rfl (U_assign rfl) rfl rfl ?_
  refine Rv rfl rfl rfl (U_assign rfl) rfl rfl ?_
  refine Re rfl ?_
  refine thenQ_n ?_
  refine W_seq rfl ?_
  refine W_seq rfl ?_
  refine W_reg rfl ?_
  refine Rv rfl rfl rfl (U_assign rfl) rfl rfl ?_
  refine Re rfl ?_
  refine thenQ_n ?_
  refine W_block rfl ?_
  refine LoopTo (T' := [(2, .ros (l.map i64) l.length d), (3, .rop [i64 ((n : Nat) : Int), .ros (ks.flatMap lkN) ks.length c] 0), (7, i64 ((star % n : Nat) : Int)), (8, .rop [i64 ((sloK (faQ n ks) (star % n) n : Nat) : Int), i64 (((n : Nat) : Int) - 1 - ((shiK (faQ n ks) (star % n) n : Nat) : Int))] 0), (10, .ros ((rnkQ n (nxQ n ks) (star % n)).map n64) ((rnkQ n (nxQ n ks) (star % n)).length) none), (12, i64 ((0 : Nat) : Int)), (13, i64 ((0 : Nat) : Int)), (14, i64 ((0 : Nat) : Int))]) (H' := []) (n := 0) rfl (fun mz_ qz_ => ∃ (i : Nat) (L : Nat) (H : Nat), i ≤ n ∧ L = sloK (faQ n ks) (star % n) i ∧ H = hiC (faQ n ks) (star % n) i ∧ mz_ = n - i ∧ qz_ = ⟨[(2, .ros (l.map i64) l.length d), (3, .rop [i64 ((n : Nat) : Int), .ros (ks.flatMap lkN) ks.length c] 0), (7, i64 ((star % n : Nat) : Int)), (8, .rop [i64 ((sloK (faQ n ks) (star % n) n : Nat) : Int), i64 (((n : Nat) : Int) - 1 - ((shiK (faQ n ks) (star % n) n : Nat) : Int))] 0), (10, .ros ((rnkQ n (nxQ n ks) (star % n)).map n64) ((rnkQ n (nxQ n ks) (star % n)).length) none), (12, i64 ((L : Nat) : Int)), (13, i64 ((H : Nat) : Int)), (14, i64 ((i : Nat) : Int))], [], 0, []⟩) ⟨0, 0, 0, (by omega), rfl, rfl, rfl, rfl⟩ id ⟨eD rfl rfl, eD rfl rfl, eD rfl rfl, eD rfl rfl, eD rfl rfl, eD rfl rfl, eD rfl rfl, eD rfl rfl, trivial⟩ trivial rfl rfl rfl rfl (fun _ _ => rfl) ?_
  rintro _ _ ⟨i, L, H, hi0_0, hi0_1, hi0_2, rfl, rfl⟩
  have hl1 := slo_le (fa := (faQ n ks)) (s := (star % n)) i
  have hl2 := hiC_le (fa := (faQ n ks)) (s := (star % n)) i
  refine W_seq rfl ?_
  refine W_seq rfl ?_
  refine W_reg rfl ?_
  refine Rv rfl rfl rfl (U_move rfl) rfl rfl ?_
  refine Rv rfl rfl rfl (U_fieldAddrR rfl) rfl rfl ?_
  refine Rv rfl rfl rfl (U_load1 rfl rfl rfl) rfl rfl ?_
  refine Rv rfl rfl rfl (U_lss rfl rfl) rfl rfl ?_
  refine Re rfl ?_
  refine thenQ_n ?_
  refine WcondP rfl rfl (fun hc2 => ?_) (fun hc2 => ?_)
  · have hin : i < n := by omega
    have hil : i < (rnkQ n (nxQ n ks) (star % n)).length := by omega
    have hsp := rnk_span hv ha hn hs hil
    have hsl := span_le hv ha hs
    refine W_skip rfl ?_
    refine thenQ_n ?_
    refine W_seq rfl ?_
    refine W_block rfl ?_
    refine W_seq rfl ?_
    refine W_seq rfl ?_
    refine Wjoin ⟨[(2, .ros (l.map i64) l.length d), (3, .rop [i64 ((n : Nat) : Int), .ros (ks.flatMap lkN) ks.length c] 0), (7, i64 ((star % n : Nat) : Int)), (8, .rop [i64 ((sloK (faQ n ks) (star % n) n : Nat) : Int), i64 (((n : Nat) : Int) - 1 - ((shiK (faQ n ks) (star % n) n : Nat) : Int))] 0), (10, .ros ((rnkQ n (nxQ n ks) (star % n)).map n64) ((rnkQ n (nxQ n ks) (star % n)).length) none), (12, i64 ((L : Nat) : Int)), (13, i64 ((H : Nat) : Int)), (14, i64 ((i : Nat) : Int)), (87, .bool (bif (decide (((sloK (faQ n ks) (star % n) n : Nat) : Int) ≤ ((i : Nat) : Int))) then ((decide ((decide (0 < (((rnkQ n (nxQ n ks) (star % n))[i] : Nat) : Int))) ≠ (decide (((i : Nat) : Int) ≤ (((n : Nat) : Int) - 1 - ((shiK (faQ n ks) (star % n) n : Nat) : Int)))))) || (decide ((((rnkQ n (nxQ n ks) (star % n))[i] : Nat) : Int) < 0))) else ((decide ((decide (0 < (((rnkQ n (nxQ n ks) (star % n))[i] : Nat) : Int))) ≠ false)) || (decide ((((rnkQ n (nxQ n ks) (star % n))[i] : Nat) : Int) < 0)))))], [], 0, []⟩ ?_ ?_
    · refine Wdraw rfl (by kernel_rfl) (by kernel_rfl) ?_
      refine Dv rfl rfl rfl (U_move rfl) rfl rfl ?_
      refine Dv rfl rfl rfl (U_move rfl) rfl rfl ?_
      have hx1 : i < (rnkQ n (nxQ n ks) (star % n)).length := by omega
      refine Dv rfl rfl rfl (U_indexR (j := i) rfl rfl rfl hx1) rfl rfl ?_
      refine Dv rfl rfl rfl (U_load1 rfl rfl (getM hx1)) rfl rfl ?_
      refine Dv rfl rfl rfl (U_gtr rfl rfl) rfl rfl ?_
      refine Dv rfl rfl rfl (U_move rfl) rfl rfl ?_
      refine Dv rfl rfl rfl (U_fieldAddrR rfl) rfl rfl ?_
      refine Dv rfl rfl rfl (U_load1 rfl rfl rfl) rfl rfl ?_
      refine Dv rfl rfl rfl (U_geq rfl rfl) rfl rfl ?_
      refine Dv rfl rfl rfl (U_move rfl) rfl rfl ?_
      refine Dsplit (t := 74) rfl (fun hg2 => ?_) (fun hg2 => ?_)
      · rw [hg2]
        have hg2' : ((sloK (faQ n ks) (star % n) n : Nat) : Int) ≤ ((i : Nat) : Int) := of_decide_eq_true hg2
        refine Dv rfl rfl rfl (U_move rfl) rfl rfl ?_
        refine Dv rfl rfl rfl (U_fieldAddrR rfl) rfl rfl ?_
        refine Dv rfl rfl rfl (U_load1 rfl rfl rfl) rfl rfl ?_
        refine Dv rfl rfl rfl (U_leq rfl rfl) rfl rfl ?_
        refine Dv rfl rfl rfl (U_pick_t rfl rfl) rfl rfl ?_
        refine Dv rfl rfl rfl (U_neqB rfl rfl) rfl rfl ?_
        refine Dv rfl rfl rfl (U_move rfl) rfl rfl ?_
        refine Dsplit (t := 81) rfl (fun hg3 => ?_) (fun hg3 => ?_)
        · rw [hg3]
          have hg3' : (decide (0 < (((rnkQ n (nxQ n ks) (star % n))[i] : Nat) : Int))) ≠ (decide (((i : Nat) : Int) ≤ (((n : Nat) : Int) - 1 - ((shiK (faQ n ks) (star % n) n : Nat) : Int)))) := of_decide_eq_true hg3
          refine Ds rfl rfl rfl rfl rfl ?_
          refine Ds rfl rfl rfl rfl rfl ?_
          refine Ds rfl rfl rfl rfl rfl ?_
          refine Ds rfl rfl rfl rfl rfl ?_
          refine Ds rfl rfl rfl rfl rfl ?_
          refine Dv rfl rfl rfl (U_pick_t rfl rfl) rfl rfl ?_
          refine Dr.nil rfl ?_
          exact joinTo id ⟨eD rfl rfl, eD rfl rfl, eD rfl rfl, eD rfl rfl, eD rfl rfl, eD rfl rfl, eD rfl rfl, eD rfl rfl, eD rfl rfl, trivial⟩ trivial rfl rfl rfl rfl (fun _ _ => rfl)
        · rw [hg3]
          have hg3' : ¬ ((decide (0 < (((rnkQ n (nxQ n ks) (star % n))[i] : Nat) : Int))) ≠ (decide (((i : Nat) : Int) ≤ (((n : Nat) : Int) - 1 - ((shiK (faQ n ks) (star % n) n : Nat) : Int))))) := of_decide_eq_false hg3
          refine Dv rfl rfl rfl (U_move rfl) rfl rfl ?_
          refine Dv rfl rfl rfl (U_move rfl) rfl rfl ?_
          refine Dv rfl rfl rfl (U_indexR (j := i) rfl rfl rfl hx1) rfl rfl ?_
          refine Dv rfl rfl rfl (U_load1 rfl rfl (getM hx1)) rfl rfl ?_
          refine Dv rfl rfl rfl (U_lss rfl rfl) rfl rfl ?_
          refine Dv rfl rfl rfl (U_pick_f rfl rfl) rfl rfl ?_
          refine Dr.nil rfl ?_
          exact joinTo id ⟨eD rfl rfl, eD rfl rfl, eD rfl rfl, eD rfl rfl, eD rfl rfl, eD rfl rfl, eD rfl rfl, eD rfl rfl, eD rfl rfl, trivial⟩ trivial rfl rfl rfl rfl (fun _ _ => rfl)
      · rw [hg2]
        have hg2' : ¬ (((sloK (faQ n ks) (star % n) n : Nat) : Int) ≤ ((i : Nat) : Int)) := of_decide_eq_false hg2
        refine Ds rfl rfl rfl rfl rfl ?_
        refine Ds rfl rfl rfl rfl rfl ?_
        refine Ds rfl rfl rfl rfl rfl ?_
        refine Ds rfl rfl rfl rfl rfl ?_
        refine Dv rfl rfl rfl (U_pick_f rfl rfl) rfl rfl ?_
        refine Dv rfl rfl rfl (U_neqB rfl rfl) rfl rfl ?_
        refine Dv rfl rfl rfl (U_move rfl) rfl rfl ?_
        refine Dsplit (t := 81) rfl (fun hg4 => ?_) (fun hg4 => ?_)
        · rw [hg4]
          have hg4' : (decide (0 < (((rnkQ n (nxQ n ks) (star % n))[i] : Nat) : Int))) ≠ false := of_decide_eq_true hg4
          refine Ds rfl rfl rfl rfl rfl ?_
          refine Ds rfl rfl rfl rfl rfl ?_
          refine Ds rfl rfl rfl rfl rfl ?_
          refine Ds rfl rfl rfl rfl rfl ?_
          refine Ds rfl rfl rfl rfl rfl ?_
          refine Dv rfl rfl rfl (U_pick_t rfl rfl) rfl rfl ?_
          refine Dr.nil rfl ?_
          exact joinTo id ⟨eD rfl rfl, eD rfl rfl, eD rfl rfl, eD rfl rfl, eD rfl rfl, eD rfl rfl, eD rfl rfl, eD rfl rfl, eD rfl rfl, trivial⟩ trivial rfl rfl rfl rfl (fun _ _ => rfl)
        · rw [hg4]
          have hg4' : ¬ ((decide (0 < (((rnkQ n (nxQ n ks) (star % n))[i] : Nat) : Int))) ≠ false) := of_decide_eq_false hg4
          refine Dv rfl rfl rfl (U_move rfl) rfl rfl ?_
          refine Dv rfl rfl rfl (U_move rfl) rfl rfl ?_
          refine Dv rfl rfl rfl (U_indexR (j := i) rfl rfl rfl hx1) rfl rfl ?_
          refine Dv rfl rfl rfl (U_load1 rfl rfl (getM hx1)) rfl rfl ?_
          refine Dv rfl rfl rfl (U_lss rfl rfl) rfl rfl ?_
          refine Dv rfl rfl rfl (U_pick_f rfl rfl) rfl rfl ?_
          refine Dr.nil rfl ?_
          exact joinTo id ⟨eD rfl rfl, eD rfl rfl, eD rfl rfl, eD rfl rfl, eD rfl rfl, eD rfl rfl, eD rfl rfl, eD rfl rfl, eD rfl rfl, trivial⟩ trivial rfl rfl rfl rfl (fun _ _ => rfl)
    refine thenQ_n ?_
    refine Wcond rfl rfl (fun hc3 => absurd hc3 (by rw [sp_dec hsl hsp]; simp)) (fun hc3 => ?_)
    refine W_skip rfl ?_
    refine thenQ_n ?_
    refine W_seq rfl ?_
    refine W_seq rfl ?_
    refine W_reg rfl ?_
    refine Rv rfl rfl rfl (U_move rfl) rfl rfl ?_
    refine Rv rfl rfl rfl (U_move rfl) rfl rfl ?_
    refine Rv rfl rfl rfl (U_eql rfl rfl) rfl rfl ?_
    refine Re rfl ?_
    refine thenQ_n ?_
    refine WcondP rfl rfl (fun hc4 => ?_) (fun hc4 => ?_)
    · have hie : i = star % n := by omega
      have hz1 : sloK (faQ n ks) (star % n) (i + 1) = sloK (faQ n ks) (star % n) i := by rw [slo_S, hie, hss, if_neg (by simp)]; rfl
      have hz2 : hiC (faQ n ks) (star % n) (i + 1) = hiC (faQ n ks) (star % n) i := by rw [hiC, if_pos (.inl (by omega))]
      refine W_exit rfl ?_
      refine thenQ_x ?_
      refine blkQ_x rfl ?_
      refine thenQ_n ?_
      refine W_reg rfl ?_
      refine Rv rfl rfl rfl (U_move rfl) rfl rfl ?_
      refine Rv rfl rfl rfl (U_add rfl rfl (w64e (m := ((i + 1 : Nat) : Int)) (by omega) (by omega) (by omega))) rfl rfl ?_
      refine Rv rfl rfl rfl (U_assign rfl) rfl rfl ?_
      refine Re rfl ?_
      refine thenQ_n ?_
      exact againTo (T' := [(2, .ros (l.map i64) l.length d), (3, .rop [i64 ((n : Nat) : Int), .ros (ks.flatMap lkN) ks.length c] 0), (7, i64 ((star % n : Nat) : Int)), (8, .rop [i64 ((sloK (faQ n ks) (star % n) n : Nat) : Int), i64 (((n : Nat) : Int) - 1 - ((shiK (faQ n ks) (star % n) n : Nat) : Int))] 0), (10, .ros ((rnkQ n (nxQ n ks) (star % n)).map n64) ((rnkQ n (nxQ n ks) (star % n)).length) none), (12, i64 ((_ : Nat) : Int)), (13, i64 ((_ : Nat) : Int)), (14, i64 (((i + 1) : Nat) : Int))]) (H' := []) (n := 0) (n - (i + 1)) ⟨i + 1, _, _, (by omega), (by omega), (by omega), rfl, rfl⟩ (by omega) id ⟨eD rfl rfl, eD rfl rfl, eD rfl rfl, eD rfl rfl, eD rfl rfl, eD rfl rfl, eD rfl rfl, eD rfl rfl, trivial⟩ trivial rfl rfl rfl rfl (fun _ _ => rfl)
    · have hne : i ≠ star % n := by omega
      obtain ⟨hk1, hk2, hk3, hk4, hk5⟩ := knd_sum hv ha i (star % n)
      refine W_skip rfl ?_
      refine thenQ_n ?_
      refine W_seq rfl ?_
      refine W_reg rfl ?_
      refine Rv rfl rfl rfl (U_load2 rfl rfl rfl rfl) rfl rfl ?_
      refine Rv rfl rfl rfl (U_move rfl) rfl rfl ?_
      refine Rv rfl rfl rfl (U_move rfl) rfl rfl ?_
      refine Rv rfl rfl rfl (U_call rfl rfl (kind_g n ks c hv h40 ha i (star % n) (by assumption) (by assumption) (by first | assumption | exact Ne.symm (by assumption))) rfl) rfl rfl ?_
      refine Rv rfl rfl rfl (U_move rfl) rfl rfl ?_
      refine Rv rfl rfl rfl (U_extract rfl rfl) rfl rfl ?_
      refine Rv rfl rfl rfl (U_extract rfl rfl) rfl rfl ?_
      refine Rv rfl rfl rfl (U_assign rfl) rfl rfl ?_
      refine Rv rfl rfl rfl (U_assign rfl) rfl rfl ?_
      refine Re rfl ?_
      refine thenQ_n ?_
      refine W_seq rfl ?_
      refine W_reg rfl ?_
      refine Rv rfl rfl rfl (U_load2 rfl rfl rfl rfl) rfl rfl ?_
      refine Rv rfl rfl rfl (U_move rfl) rfl rfl ?_
      refine Rv rfl rfl rfl (U_move rfl) rfl rfl ?_
      refine Rv rfl rfl rfl (U_call rfl rfl (kind_g n ks c hv h40 ha (star % n) i (by assumption) (by assumption) (by first | assumption | exact Ne.symm (by assumption))) rfl) rfl rfl ?_
      refine Rv rfl rfl rfl (U_move rfl) rfl rfl ?_
      refine Rv rfl rfl rfl (U_extract rfl rfl) rfl rfl ?_
      refine Rv rfl rfl rfl (U_extract rfl rfl) rfl rfl ?_
      refine Rv rfl rfl rfl (U_assign rfl) rfl rfl ?_
      refine Rv rfl rfl rfl (U_assign rfl) rfl rfl ?_
      refine Re rfl ?_
      refine thenQ_n ?_
      refine W_seq rfl ?_
      refine W_seq rfl ?_
      refine W_reg rfl ?_
      refine Rv rfl rfl rfl (U_move rfl) rfl rfl ?_
      refine Rv rfl rfl rfl (U_neq rfl rfl) rfl rfl ?_
      refine Rv rfl rfl rfl (U_move rfl) rfl rfl ?_
      refine Rv rfl rfl rfl (U_move rfl) rfl rfl ?_
      refine Rv rfl rfl rfl (U_neq rfl rfl) rfl rfl ?_
      refine Rv rfl rfl rfl (U_pick_f rfl rfl) rfl rfl ?_
      refine Rv rfl rfl rfl (U_move rfl) rfl rfl ?_
      refine Rv rfl rfl rfl (U_move rfl) rfl rfl ?_
      refine Rv rfl rfl rfl (OpU.toB (U_lss rfl rfl) (decide_eq_false (by omega))) rfl rfl ?_
      refine Rv rfl rfl rfl (U_pick_f rfl rfl) rfl rfl ?_
      refine Rv rfl rfl rfl (U_move rfl) rfl rfl ?_
      refine Rv rfl rfl rfl (U_move rfl) rfl rfl ?_
      refine Rv rfl rfl rfl (OpU.toB (U_gtr rfl rfl) (decide_eq_false (by omega))) rfl rfl ?_
      refine Rv rfl rfl rfl (U_pick_f rfl rfl) rfl rfl ?_
      refine Rv rfl rfl rfl (U_move rfl) rfl rfl ?_
      refine Rv rfl rfl rfl (U_move rfl) rfl rfl ?_
      refine Rv rfl rfl rfl (U_move rfl) rfl rfl ?_
      refine Rv rfl rfl rfl (U_add rfl rfl (w64 (by omega) (by omega))) rfl rfl ?_
      refine Rv rfl rfl rfl (OpU.toB (U_neq rfl rfl) (decide_eq_false (by omega))) rfl rfl ?_
      refine Rv rfl rfl rfl (U_pick_f rfl rfl) rfl rfl ?_
      refine Re rfl ?_
      refine thenQ_n ?_
      refine Wcond rfl rfl (fun h => nomatch h) (fun _ => ?_)
      refine W_skip rfl ?_
      refine thenQ_n ?_
      refine W_seq rfl ?_
      refine W_seq rfl ?_
      refine W_reg rfl ?_
      refine Rv rfl rfl rfl (U_move rfl) rfl rfl ?_
      refine Rv rfl rfl rfl (U_eql rfl rfl) rfl rfl ?_
      refine Re rfl ?_
      refine thenQ_n ?_
      refine WcondP rfl rfl (fun hc6 => ?_) (fun hc6 => ?_)
      · have hz1 : sloK (faQ n ks) (star % n) (i + 1) = sloK (faQ n ks) (star % n) i + 1 := by rw [slo_S, if_pos (hk4.1 (by omega))]
        refine W_reg rfl ?_
        refine Rv rfl rfl rfl (U_move rfl) rfl rfl ?_
        refine Rv rfl rfl rfl (U_add rfl rfl (w64e (m := ((L + 1 : Nat) : Int)) (by omega) (by omega) (by omega))) rfl rfl ?_
        refine Rv rfl rfl rfl (U_assign rfl) rfl rfl ?_
        refine Re rfl ?_
        refine thenQ_n ?_
        refine W_seq rfl ?_
        refine W_reg rfl ?_
        refine Rv rfl rfl rfl (U_move rfl) rfl rfl ?_
        refine Rv rfl rfl rfl (U_neq rfl rfl) rfl rfl ?_
        refine Re rfl ?_
        refine thenQ_n ?_
        refine WcondP rfl rfl (fun hc7 => ?_) (fun hc7 => ?_)
        · have hz2 : hiC (faQ n ks) (star % n) (i + 1) = hiC (faQ n ks) (star % n) i + 1 := by rw [hiC, if_neg (fun h => by have := hk5.2 (h.resolve_left hne); omega)]
          refine W_reg rfl ?_
          refine Rv rfl rfl rfl (U_move rfl) rfl rfl ?_
          refine Rv rfl rfl rfl (U_add rfl rfl (w64e (m := ((H + 1 : Nat) : Int)) (by omega) (by omega) (by omega))) rfl rfl ?_
          refine Rv rfl rfl rfl (U_assign rfl) rfl rfl ?_
          refine Re rfl ?_
          refine blkQ_n ?_
          refine thenQ_n ?_
          refine W_reg rfl ?_
          refine Rv rfl rfl rfl (U_move rfl) rfl rfl ?_
          refine Rv rfl rfl rfl (U_add rfl rfl (w64e (m := ((i + 1 : Nat) : Int)) (by omega) (by omega) (by omega))) rfl rfl ?_
          refine Rv rfl rfl rfl (U_assign rfl) rfl rfl ?_
          refine Re rfl ?_
          refine thenQ_n ?_
          exact againTo (T' := [(2, .ros (l.map i64) l.length d), (3, .rop [i64 ((n : Nat) : Int), .ros (ks.flatMap lkN) ks.length c] 0), (7, i64 ((star % n : Nat) : Int)), (8, .rop [i64 ((sloK (faQ n ks) (star % n) n : Nat) : Int), i64 (((n : Nat) : Int) - 1 - ((shiK (faQ n ks) (star % n) n : Nat) : Int))] 0), (10, .ros ((rnkQ n (nxQ n ks) (star % n)).map n64) ((rnkQ n (nxQ n ks) (star % n)).length) none), (12, i64 ((_ : Nat) : Int)), (13, i64 ((_ : Nat) : Int)), (14, i64 (((i + 1) : Nat) : Int))]) (H' := []) (n := 0) (n - (i + 1)) ⟨i + 1, _, _, (by omega), (by omega), (by omega), rfl, rfl⟩ (by omega) id ⟨eD rfl rfl, eD rfl rfl, eD rfl rfl, eD rfl rfl, eD rfl rfl, eD rfl rfl, eD rfl rfl, eD rfl rfl, trivial⟩ trivial rfl rfl rfl rfl (fun _ _ => rfl)
        · rw [Decidable.not_not] at hc7
          have hz2 : hiC (faQ n ks) (star % n) (i + 1) = hiC (faQ n ks) (star % n) i := by rw [hiC, if_pos (.inr (hk5.1 (by omega)))]
          refine W_skip rfl ?_
          refine blkQ_n ?_
          refine thenQ_n ?_
          refine W_reg rfl ?_
          refine Rv rfl rfl rfl (U_move rfl) rfl rfl ?_
          refine Rv rfl rfl rfl (U_add rfl rfl (w64e (m := ((i + 1 : Nat) : Int)) (by omega) (by omega) (by omega))) rfl rfl ?_
          refine Rv rfl rfl rfl (U_assign rfl) rfl rfl ?_
          refine Re rfl ?_
          refine thenQ_n ?_
          exact againTo (T' := [(2, .ros (l.map i64) l.length d), (3, .rop [i64 ((n : Nat) : Int), .ros (ks.flatMap lkN) ks.length c] 0), (7, i64 ((star % n : Nat) : Int)), (8, .rop [i64 ((sloK (faQ n ks) (star % n) n : Nat) : Int), i64 (((n : Nat) : Int) - 1 - ((shiK (faQ n ks) (star % n) n : Nat) : Int))] 0), (10, .ros ((rnkQ n (nxQ n ks) (star % n)).map n64) ((rnkQ n (nxQ n ks) (star % n)).length) none), (12, i64 ((_ : Nat) : Int)), (13, i64 ((_ : Nat) : Int)), (14, i64 (((i + 1) : Nat) : Int))]) (H' := []) (n := 0) (n - (i + 1)) ⟨i + 1, _, _, (by omega), (by omega), (by omega), rfl, rfl⟩ (by omega) id ⟨eD rfl rfl, eD rfl rfl, eD rfl rfl, eD rfl rfl, eD rfl rfl, eD rfl rfl, eD rfl rfl, eD rfl rfl, trivial⟩ trivial rfl rfl rfl rfl (fun _ _ => rfl)
      · have hz1 : sloK (faQ n ks) (star % n) (i + 1) = sloK (faQ n ks) (star % n) i := by rw [slo_S, if_neg (fun h => by have := hk4.2 h; omega)]; rfl
        refine W_skip rfl ?_
        refine thenQ_n ?_
        refine W_seq rfl ?_
        refine W_reg rfl ?_
        refine Rv rfl rfl rfl (U_move rfl) rfl rfl ?_
        refine Rv rfl rfl rfl (U_neq rfl rfl) rfl rfl ?_
        refine Re rfl ?_
        refine thenQ_n ?_
        refine WcondP rfl rfl (fun hc7 => ?_) (fun hc7 => ?_)
        · have hz2 : hiC (faQ n ks) (star % n) (i + 1) = hiC (faQ n ks) (star % n) i + 1 := by rw [hiC, if_neg (fun h => by have := hk5.2 (h.resolve_left hne); omega)]
          refine W_reg rfl ?_
          refine Rv rfl rfl rfl (U_move rfl) rfl rfl ?_
          refine Rv rfl rfl rfl (U_add rfl rfl (w64e (m := ((H + 1 : Nat) : Int)) (by omega) (by omega) (by omega))) rfl rfl ?_
          refine Rv rfl rfl rfl (U_assign rfl) rfl rfl ?_
          refine Re rfl ?_
          refine blkQ_n ?_
          refine thenQ_n ?_
          refine W_reg rfl ?_
          refine Rv rfl rfl rfl (U_move rfl) rfl rfl ?_
          refine Rv rfl rfl rfl (U_add rfl rfl (w64e (m := ((i + 1 : Nat) : Int)) (by omega) (by omega) (by omega))) rfl rfl ?_
          refine Rv rfl rfl rfl (U_assign rfl) rfl rfl ?_
          refine Re rfl ?_
          refine thenQ_n ?_
          exact againTo (T' := [(2, .ros (l.map i64) l.length d), (3, .rop [i64 ((n : Nat) : Int), .ros (ks.flatMap lkN) ks.length c] 0), (7, i64 ((star % n : Nat) : Int)), (8, .rop [i64 ((sloK (faQ n ks) (star % n) n : Nat) : Int), i64 (((n : Nat) : Int) - 1 - ((shiK (faQ n ks) (star % n) n : Nat) : Int))] 0), (10, .ros ((rnkQ n (nxQ n ks) (star % n)).map n64) ((rnkQ n (nxQ n ks) (star % n)).length) none), (12, i64 ((_ : Nat) : Int)), (13, i64 ((_ : Nat) : Int)), (14, i64 (((i + 1) : Nat) : Int))]) (H' := []) (n := 0) (n - (i + 1)) ⟨i + 1, _, _, (by omega), (by omega), (by omega), rfl, rfl⟩ (by omega) id ⟨eD rfl rfl, eD rfl rfl, eD rfl rfl, eD rfl rfl, eD rfl rfl, eD rfl rfl, eD rfl rfl, eD rfl rfl, trivial⟩ trivial rfl rfl rfl rfl (fun _ _ => rfl)
        · rw [Decidable.not_not] at hc7
          have hz2 : hiC (faQ n ks) (star % n) (i + 1) = hiC (faQ n ks) (star % n) i := by rw [hiC, if_pos (.inr (hk5.1 (by omega)))]
          refine W_skip rfl ?_
          refine blkQ_n ?_
          refine thenQ_n ?_
          refine W_reg rfl ?_
          refine Rv rfl rfl rfl (U_move rfl) rfl rfl ?_
          refine Rv rfl rfl rfl (U_add rfl rfl (w64e (m := ((i + 1 : Nat) : Int)) (by omega) (by omega) (by omega))) rfl rfl ?_
          refine Rv rfl rfl rfl (U_assign rfl) rfl rfl ?_
          refine Re rfl ?_
          refine thenQ_n ?_
          exact againTo (T' := [(2, .ros (l.map i64) l.length d), (3, .rop [i64 ((n : Nat) : Int), .ros (ks.flatMap lkN) ks.length c] 0), (7, i64 ((star % n : Nat) : Int)), (8, .rop [i64 ((sloK (faQ n ks) (star % n) n : Nat) : Int), i64 (((n : Nat) : Int) - 1 - ((shiK (faQ n ks) (star % n) n : Nat) : Int))] 0), (10, .ros ((rnkQ n (nxQ n ks) (star % n)).map n64) ((rnkQ n (nxQ n ks) (star % n)).length) none), (12, i64 ((_ : Nat) : Int)), (13, i64 ((_ : Nat) : Int)), (14, i64 (((i + 1) : Nat) : Int))]) (H' := []) (n := 0) (n - (i + 1)) ⟨i + 1, _, _, (by omega), (by omega), (by omega), rfl, rfl⟩ (by omega) id ⟨eD rfl rfl, eD rfl rfl, eD rfl rfl, eD rfl rfl, eD rfl rfl, eD rfl rfl, eD rfl rfl, eD rfl rfl, trivial⟩ trivial rfl rfl rfl rfl (fun _ _ => rfl)
  · obtain rfl : n = i := by omega
    have hhe := hiC_end hss hs
    refine W_exit rfl ?_
    refine thenQ_x ?_
    refine thenQ_x ?_
    refine blkQ_x rfl ?_
    refine thenQ_n ?_
    refine W_seq rfl ?_
    refine W_seq rfl ?_
    refine Wdraw rfl (by kernel_rfl) (by kernel_rfl) ?_
    refine Dv rfl rfl rfl (U_load2 rfl rfl rfl rfl) rfl rfl ?_
    refine Dv rfl rfl rfl (U_move rfl) rfl rfl ?_
    refine Dv rfl rfl rfl (U_move rfl) rfl rfl ?_
    refine Dv rfl rfl rfl (U_call rfl rfl (rg_p ((L : Nat) : Int) ((H : Nat) : Int)) rfl) rfl rfl ?_
    refine Dv rfl rfl rfl (U_neqA (p := ((sloK (faQ n ks) (star % n) n : Nat) : Int) = ((L : Nat) : Int) ∧ (((n : Nat) : Int) - 1 - ((shiK (faQ n ks) (star % n) n : Nat) : Int)) = ((H : Nat) : Int)) rfl rfl rfl rfl rfl rfl (by simp)) rfl rfl ?_
    refine Dr.nil rfl ?_
    refine thenQ_n ?_
    refine WcondP rfl rfl (fun hc8 => absurd hc8 (fun h => h ⟨by omega, by omega⟩)) (fun hc8 => ?_)
    refine W_skip rfl ?_
    refine thenQ_n ?_
    refine W_seq rfl ?_
    refine W_seq rfl ?_
    refine W_reg rfl ?_
    refine Rv rfl rfl rfl (U_load2 rfl rfl rfl rfl) rfl rfl ?_
    refine Rv rfl rfl rfl (U_move rfl) rfl rfl ?_
    refine Rv rfl rfl rfl (U_call rfl rfl (h22) rfl) rfl rfl ?_
    refine Rv rfl rfl rfl (OpU.toB (U_neq rfl rfl) (decide_eq_true hv0)) rfl rfl ?_
    refine Re rfl ?_
    refine thenQ_n ?_
    refine Wcond rfl rfl (fun _ => ?_) (fun h => nomatch h)
    refine W_seq rfl ?_
    refine W_reg rfl ?_
    refine Rv rfl rfl rfl (U_call rfl rfl (works_p) rfl) rfl rfl ?_
    refine Rv rfl rfl rfl (U_assign rfl) rfl rfl ?_
    refine Re rfl ?_
    refine thenQ_n ?_
    refine W_ret rfl ?_
    refine thenQ_r ?_
    exact retL (rlT rfl rl0) rfl rfl
theorem spanned_d (n : Nat) (ks : List (Nat × Nat)) (c : Option Nat) (hv : VB n ks) (h40 : ks.length ≤ 40) (ha : Acy n ks) (hO : Pure Try.prog 47 [bknA n ks c] (.bool true)) (star : Nat) (hu1 : star < 256) (q : List Nat) (d : Option Nat) (hq : IsO n ks q) (h22 : Pure Try.prog 22 [bknA n ks c, natsA q d] (i64 0)) (h23 : Pure Try.prog 23 [bknA n ks c, natsA q d] (i64 0)) : Pure Try.prog 9 [bknA n ks c, .int .u8 (star : Nat), natsA q d] (.bool true) := by
  have hv' := hv
  obtain ⟨hn1, hn, hkl, hk⟩ := hv'
  have hk2 := vb_lt hv
  have hs : star % n < n := Nat.mod_lt _ (by omega)
  have hrl : (rnkQ n (nxQ n ks) (star % n)).length = n := rnk_len
  have hss : bt ((faQ n ks).g (star % n)) (star % n) = false := ha _ hs
  have hql : q.length = n := hq.1
  have hmq : star % n ∈ q := isO_mem hq hs
  refine pure_of_body Try.func9 (c := body Try.f9) rfl (by simp [Try.ntmps9]) fun w0 Φ0 => ?_
  refine W_seq rfl ?_
  refine W_reg rfl ?_
  refine Rv rfl rfl rfl (U_boxF rfl rfl rfl) rfl rfl ?_
  refine Rv rfl rfl rfl (U_assign rfl) rfl rfl ?_
  refine Re rfl ?_
  refine thenQ_n ?_
  refine W_seq rfl ?_
  refine W_seq rfl ?_
  refine W_reg rfl ?_
  refine Rv rfl rfl rfl (U_load2 rfl rfl rfl rfl) rfl rfl ?_
  refine Rv rfl rfl rfl (U_call rfl rfl (hO) rfl) rfl rfl ?_
  refine Rv rfl rfl rfl (U_not rfl) rfl rfl ?_
  refine Rv rfl rfl rfl (U_move rfl) rfl rfl ?_
  refine Rv rfl rfl rfl (U_move rfl) rfl rfl ?_
  refine Rv rfl rfl rfl (U_lenOf rfl len_ros) rfl rfl ?_
  refine Rv rfl rfl rfl (OpU.toB (U_gtr rfl rfl) (decide_eq_false (by omega))) rfl rfl ?_
  refine Rv rfl rfl rfl (U_pick_f rfl rfl) rfl rfl ?_
  refine Re rfl ?_
  refine thenQ_n ?_
  refine Wcond rfl rfl (fun h => nomatch h) (fun _ => ?_)
  refine W_skip rfl ?_
  refine thenQ_n ?_
  refine W_seq rfl ?_
  refine W_reg rfl ?_
  refine Rv rfl rfl rfl (U_move rfl) rfl rfl ?_
  refine Rv rfl rfl rfl (U_convInt (by rfl) rfl (wr_i64 (by omega) (by omega))) rfl rfl ?_
  refine Rv rfl rfl rfl (U_fieldAddrR rfl) rfl rfl ?_
  refine Rv rfl rfl rfl (U_load1 rfl rfl rfl) rfl rfl ?_
  refine Rv rfl rfl rfl (U_rem (c := ((star % n : Nat) : Int)) rfl rfl (by omega) (tmodN _ _)) rfl rfl ?_
  refine Rv rfl rfl rfl (U_assign rfl) rfl rfl ?_
  refine Re rfl ?_
  refine thenQ_n ?_
  refine W_seq rfl ?_
  refine W_reg rfl ?_
  refine Rv rfl rfl rfl (U_load2 rfl rfl rfl rfl) rfl rfl ?_
  refine Rv rfl rfl rfl (U_move rfl) rfl rfl ?_
  refine Rv rfl rfl rfl (U_call rfl rfl (span_g n ks c hv h40 ha (star % n) hs) rfl) rfl rfl ?_
  refine Rv rfl rfl rfl (U_move rfl) rfl rfl ?_
  refine Rv rfl rfl rfl (U_extract rfl rfl) rfl rfl ?_
  refine Rv rfl rfl rfl (U_extract rfl rfl) rfl rfl ?_
  refine Ra rfl rfl rfl (U_alloc) rfl rfl rfl ?_
  refine Rn rfl rfl rfl (U_storeAll rfl rfl rfl rfl rfl rfl) rfl ?_
  refine Rv rfl rfl rfl (U_assign rfl) rfl rfl ?_
  refine Re rfl ?_
  refine thenQ_n ?_
  refine WfrN 0 rfl rfl (T' := [(2, .ros (q.map n64) q.length d), (3, .rop [i64 ((n : Nat) : Int), .ros (ks.flatMap lkN) ks.length c] 0), (7, i64 ((star % n : Nat) : Int)), (8, .rop [i64 ((sloK (faQ n ks) (star % n) n : Nat) : Int), i64 (((n : Nat) : Int) - 1 - ((shiK (faQ n ks) (star % n) n : Nat) : Int))] 0), (9, i64 0)]) (H' := []) ⟨⟨_, rfl, rfl⟩, ⟨_, rfl, rfl⟩, ⟨_, rfl, rfl⟩, ⟨_, rfl, rfl⟩, ⟨_, rfl, rfl⟩, trivial⟩ trivial ?_
  refine W_seq rfl ?_
  refine W_reg rfl ?_
  refine Rv rfl rfl rfl (U_load2 rfl rfl rfl rfl) rfl rfl ?_
  refine Rv rfl rfl rfl (U_move rfl) rfl rfl ?_
  refine Rv rfl rfl rfl (U_call rfl rfl (ranksQ_p n ks c hv h40 ha (star % n) hs) rfl) rfl rfl ?_
  refine Rv rfl rfl rfl (U_move rfl) rfl rfl ?_
  refine Rv rfl rfl rfl (U_extract rfl rfl) rfl rfl ?_
  refine Rv rfl rfl rfl (U_extract rfl rfl) rfl rfl ?_
  refine Rv rfl rfl rfl (U_assign rfl) rfl rfl ?_
  refine Rv rfl rfl rfl (U_assign rfl) rfl rfl ?_
  refine Re rfl ?_
  refine thenQ_n ?_
  refine W_seq rfl ?_
  refine W_seq rfl ?_
  refine W_reg rfl ?_
  refine Rv rfl rfl rfl (U_move rfl) rfl rfl ?_
  refine Rv rfl rfl rfl (U_neq rfl rfl) rfl rfl ?_
  refine Rv rfl rfl rfl (U_move rfl) rfl rfl ?_
  refine Rv rfl rfl rfl (U_move rfl) rfl rfl ?_
  refine Rv rfl rfl rfl (U_neq rfl rfl) rfl rfl ?_
  refine Rv rfl rfl rfl (U_pick_f rfl rfl) rfl rfl ?_
  refine Rv rfl rfl rfl (U_move rfl) rfl rfl ?_
  refine Rv rfl rfl rfl (U_move rfl) rfl rfl ?_
  refine Rv rfl rfl rfl (U_lenOf rfl len_ros) rfl rfl ?_
  refine Rv rfl rfl rfl (U_fieldAddrR rfl) rfl rfl ?_
  refine Rv rfl rfl rfl (U_load1 rfl rfl rfl) rfl rfl ?_
  refine Rv rfl rfl rfl (OpU.toB (U_neq rfl rfl) (decide_eq_false (by omega))) rfl rfl ?_
  refine Rv rfl rfl rfl (U_pick_f rfl rfl) rfl rfl ?_
  refine Re rfl ?_
  refine thenQ_n ?_
  refine Wcond rfl rfl (fun h => nomatch h) (fun _ => ?_)
  refine W_skip rfl ?_
  refine thenQ_n ?_
  refine W_seq rfl ?_
  refine W_reg rfl ?_
  refine Rv rfl rfl rfl (U_assign rfl) rfl rfl ?_
  refine Rv rfl rfl rfl (U_assign rfl) rfl rfl ?_
  refine Re rfl ?_
  refine thenQ_n ?_
  refine W_seq rfl ?_
  refine W_seq rfl ?_
  refine W_reg rfl ?_
  refine Rv rfl rfl rfl (U_assign rfl) rfl rfl ?_
  refine Re rfl ?_
  refine thenQ_n ?_
  refine W_block rfl ?_
  refine LoopTo (T' := [(2, .ros (q.map n64) q.length d), (3, .rop [i64 ((n : Nat) : Int), .ros (ks.flatMap lkN) ks.length c] 0), (7, i64 ((star % n : Nat) : Int)), (8, .rop [i64 ((sloK (faQ n ks) (star % n) n : Nat) : Int), i64 (((n : Nat) : Int) - 1 - ((shiK (faQ n ks) (star % n) n : Nat) : Int))] 0), (10, .ros ((rnkQ n (nxQ n ks) (star % n)).map n64) ((rnkQ n (nxQ n ks) (star % n)).length) none), (12, i64 ((0 : Nat) : Int)), (13, i64 ((0 : Nat) : Int)), (14, i64 ((0 : Nat) : Int))]) (H' := []) (n := 0) rfl (fun mz_ qz_ => ∃ (i : Nat) (L : Nat) (H : Nat), i ≤ n ∧ L = sloK (faQ n ks) (star % n) i ∧ H = hiC (faQ n ks) (star % n) i ∧ mz_ = n - i ∧ qz_ = ⟨[(2, .ros (q.map n64) q.length d), (3, .rop [i64 ((n : Nat) : Int), .ros (ks.flatMap lkN) ks.length c] 0), (7, i64 ((star % n : Nat) : Int)), (8, .rop [i64 ((sloK (faQ n ks) (star % n) n : Nat) : Int), i64 (((n : Nat) : Int) - 1 - ((shiK (faQ n ks) (star % n) n : Nat) : Int))] 0), (10, .ros ((rnkQ n (nxQ n ks) (star % n)).map n64) ((rnkQ n (nxQ n ks) (star % n)).length) none), (12, i64 ((L : Nat) : Int)), (13, i64 ((H : Nat) : Int)), (14, i64 ((i : Nat) : Int))], [], 0, []⟩) ⟨0, 0, 0, (by omega), rfl, rfl, rfl, rfl⟩ id ⟨eD rfl rfl, eD rfl rfl, eD rfl rfl, eD rfl rfl, eD rfl rfl, eD rfl rfl, eD rfl rfl, eD rfl rfl, trivial⟩ trivial rfl rfl rfl rfl (fun _ _ => rfl) ?_
  rintro _ _ ⟨i, L, H, hi0_0, hi0_1, hi0_2, rfl, rfl⟩
  have hl1 := slo_le (fa := (faQ n ks)) (s := (star % n)) i
  have hl2 := hiC_le (fa := (faQ n ks)) (s := (star % n)) i
  refine W_seq rfl ?_
  refine W_seq rfl ?_
  refine W_reg rfl ?_
  refine Rv rfl rfl rfl (U_move rfl) rfl rfl ?_
  refine Rv rfl rfl rfl (U_fieldAddrR rfl) rfl rfl ?_
  refine Rv rfl rfl rfl (U_load1 rfl rfl rfl) rfl rfl ?_
  refine Rv rfl rfl rfl (U_lss rfl rfl) rfl rfl ?_
  refine Re rfl ?_
  refine thenQ_n ?_
  refine WcondP rfl rfl (fun hc2 => ?_) (fun hc2 => ?_)
  · have hin : i < n := by omega
    have hil : i < (rnkQ n (nxQ n ks) (star % n)).length := by omega
    have hsp := rnk_span hv ha hn hs hil
    have hsl := span_le hv ha hs
    refine W_skip rfl ?_
    refine thenQ_n ?_
    refine W_seq rfl ?_
    refine W_block rfl ?_
    refine W_seq rfl ?_
    refine W_seq rfl ?_
    refine Wjoin ⟨[(2, .ros (q.map n64) q.length d), (3, .rop [i64 ((n : Nat) : Int), .ros (ks.flatMap lkN) ks.length c] 0), (7, i64 ((star % n : Nat) : Int)), (8, .rop [i64 ((sloK (faQ n ks) (star % n) n : Nat) : Int), i64 (((n : Nat) : Int) - 1 - ((shiK (faQ n ks) (star % n) n : Nat) : Int))] 0), (10, .ros ((rnkQ n (nxQ n ks) (star % n)).map n64) ((rnkQ n (nxQ n ks) (star % n)).length) none), (12, i64 ((L : Nat) : Int)), (13, i64 ((H : Nat) : Int)), (14, i64 ((i : Nat) : Int)), (87, .bool (bif (decide (((sloK (faQ n ks) (star % n) n : Nat) : Int) ≤ ((i : Nat) : Int))) then ((decide ((decide (0 < (((rnkQ n (nxQ n ks) (star % n))[i] : Nat) : Int))) ≠ (decide (((i : Nat) : Int) ≤ (((n : Nat) : Int) - 1 - ((shiK (faQ n ks) (star % n) n : Nat) : Int)))))) || (decide ((((rnkQ n (nxQ n ks) (star % n))[i] : Nat) : Int) < 0))) else ((decide ((decide (0 < (((rnkQ n (nxQ n ks) (star % n))[i] : Nat) : Int))) ≠ false)) || (decide ((((rnkQ n (nxQ n ks) (star % n))[i] : Nat) : Int) < 0)))))], [], 0, []⟩ ?_ ?_
    · refine Wdraw rfl (by kernel_rfl) (by kernel_rfl) ?_
      refine Dv rfl rfl rfl (U_move rfl) rfl rfl ?_
      refine Dv rfl rfl rfl (U_move rfl) rfl rfl ?_
      have hx1 : i < (rnkQ n (nxQ n ks) (star % n)).length := by omega
      refine Dv rfl rfl rfl (U_indexR (j := i) rfl rfl rfl hx1) rfl rfl ?_
      refine Dv rfl rfl rfl (U_load1 rfl rfl (getM hx1)) rfl rfl ?_
      refine Dv rfl rfl rfl (U_gtr rfl rfl) rfl rfl ?_
      refine Dv rfl rfl rfl (U_move rfl) rfl rfl ?_
      refine Dv rfl rfl rfl (U_fieldAddrR rfl) rfl rfl ?_
      refine Dv rfl rfl rfl (U_load1 rfl rfl rfl) rfl rfl ?_
      refine Dv rfl rfl rfl (U_geq rfl rfl) rfl rfl ?_
      refine Dv rfl rfl rfl (U_move rfl) rfl rfl ?_
      refine Dsplit (t := 74) rfl (fun hg2 => ?_) (fun hg2 => ?_)
      · rw [hg2]
        have hg2' : ((sloK (faQ n ks) (star % n) n : Nat) : Int) ≤ ((i : Nat) : Int) := of_decide_eq_true hg2
        refine Dv rfl rfl rfl (U_move rfl) rfl rfl ?_
        refine Dv rfl rfl rfl (U_fieldAddrR rfl) rfl rfl ?_
        refine Dv rfl rfl rfl (U_load1 rfl rfl rfl) rfl rfl ?_
        refine Dv rfl rfl rfl (U_leq rfl rfl) rfl rfl ?_
        refine Dv rfl rfl rfl (U_pick_t rfl rfl) rfl rfl ?_
        refine Dv rfl rfl rfl (U_neqB rfl rfl) rfl rfl ?_
        refine Dv rfl rfl rfl (U_move rfl) rfl rfl ?_
        refine Dsplit (t := 81) rfl (fun hg3 => ?_) (fun hg3 => ?_)
        · rw [hg3]
          have hg3' : (decide (0 < (((rnkQ n (nxQ n ks) (star % n))[i] : Nat) : Int))) ≠ (decide (((i : Nat) : Int) ≤ (((n : Nat) : Int) - 1 - ((shiK (faQ n ks) (star % n) n : Nat) : Int)))) := of_decide_eq_true hg3
          refine Ds rfl rfl rfl rfl rfl ?_
          refine Ds rfl rfl rfl rfl rfl ?_
          refine Ds rfl rfl rfl rfl rfl ?_
          refine Ds rfl rfl rfl rfl rfl ?_
          refine Ds rfl rfl rfl rfl rfl ?_
          refine Dv rfl rfl rfl (U_pick_t rfl rfl) rfl rfl ?_
          refine Dr.nil rfl ?_
          exact joinTo id ⟨eD rfl rfl, eD rfl rfl, eD rfl rfl, eD rfl rfl, eD rfl rfl, eD rfl rfl, eD rfl rfl, eD rfl rfl, eD rfl rfl, trivial⟩ trivial rfl rfl rfl rfl (fun _ _ => rfl)
        · rw [hg3]
          have hg3' : ¬ ((decide (0 < (((rnkQ n (nxQ n ks) (star % n))[i] : Nat) : Int))) ≠ (decide (((i : Nat) : Int) ≤ (((n : Nat) : Int) - 1 - ((shiK (faQ n ks) (star % n) n : Nat) : Int))))) := of_decide_eq_false hg3
          refine Dv rfl rfl rfl (U_move rfl) rfl rfl ?_
          refine Dv rfl rfl rfl (U_move rfl) rfl rfl ?_
          refine Dv rfl rfl rfl (U_indexR (j := i) rfl rfl rfl hx1) rfl rfl ?_
          refine Dv rfl rfl rfl (U_load1 rfl rfl (getM hx1)) rfl rfl ?_
          refine Dv rfl rfl rfl (U_lss rfl rfl) rfl rfl ?_
          refine Dv rfl rfl rfl (U_pick_f rfl rfl) rfl rfl ?_
          refine Dr.nil rfl ?_
          exact joinTo id ⟨eD rfl rfl, eD rfl rfl, eD rfl rfl, eD rfl rfl, eD rfl rfl, eD rfl rfl, eD rfl rfl, eD rfl rfl, eD rfl rfl, trivial⟩ trivial rfl rfl rfl rfl (fun _ _ => rfl)
      · rw [hg2]
        have hg2' : ¬ (((sloK (faQ n ks) (star % n) n : Nat) : Int) ≤ ((i : Nat) : Int)) := of_decide_eq_false hg2
        refine Ds rfl rfl rfl rfl rfl ?_
        refine Ds rfl rfl rfl rfl rfl ?_
        refine Ds rfl rfl rfl rfl rfl ?_
        refine Ds rfl rfl rfl rfl rfl ?_
        refine Dv rfl rfl rfl (U_pick_f rfl rfl) rfl rfl ?_
        refine Dv rfl rfl rfl (U_neqB rfl rfl) rfl rfl ?_
        refine Dv rfl rfl rfl (U_move rfl) rfl rfl ?_
        refine Dsplit (t := 81) rfl (fun hg4 => ?_) (fun hg4 => ?_)
        · rw [hg4]
          have hg4' : (decide (0 < (((rnkQ n (nxQ n ks) (star % n))[i] : Nat) : Int))) ≠ false := of_decide_eq_true hg4
          refine Ds rfl rfl rfl rfl rfl ?_
          refine Ds rfl rfl rfl rfl rfl ?_
          refine Ds rfl rfl rfl rfl rfl ?_
          refine Ds rfl rfl rfl rfl rfl ?_
          refine Ds rfl rfl rfl rfl rfl ?_
          refine Dv rfl rfl rfl (U_pick_t rfl rfl) rfl rfl ?_
          refine Dr.nil rfl ?_
          exact joinTo id ⟨eD rfl rfl, eD rfl rfl, eD rfl rfl, eD rfl rfl, eD rfl rfl, eD rfl rfl, eD rfl rfl, eD rfl rfl, eD rfl rfl, trivial⟩ trivial rfl rfl rfl rfl (fun _ _ => rfl)
        · rw [hg4]
          have hg4' : ¬ ((decide (0 < (((rnkQ n (nxQ n ks) (star % n))[i] : Nat) : Int))) ≠ false) := of_decide_eq_false hg4
          refine Dv rfl rfl rfl (U_move rfl) rfl rfl ?_
          refine Dv rfl rfl rfl (U_move rfl) rfl rfl ?_
          refine Dv rfl rfl rfl (U_indexR (j := i) rfl rfl rfl hx1) rfl rfl ?_
          refine Dv rfl rfl rfl (U_load1 rfl rfl (getM hx1)) rfl rfl ?_
          refine Dv rfl rfl rfl (U_lss rfl rfl) rfl rfl ?_
          refine Dv rfl rfl rfl (U_pick_f rfl rfl) rfl rfl ?_
          refine Dr.nil rfl ?_
          exact joinTo id ⟨eD rfl rfl, eD rfl rfl, eD rfl rfl, eD rfl rfl, eD rfl rfl, eD rfl rfl, eD rfl rfl, eD rfl rfl, eD rfl rfl, trivial⟩ trivial rfl rfl rfl rfl (fun _ _ => rfl)
    refine thenQ_n ?_
    refine Wcond rfl rfl (fun hc3 => absurd hc3 (by rw [sp_dec hsl hsp]; simp)) (fun hc3 => ?_)
    refine W_skip rfl ?_
    refine thenQ_n ?_
    refine W_seq rfl ?_
    refine W_seq rfl ?_
    refine W_reg rfl ?_
    refine Rv rfl rfl rfl (U_move rfl) rfl rfl ?_
    refine Rv rfl rfl rfl (U_move rfl) rfl rfl ?_
    refine Rv rfl rfl rfl (U_eql rfl rfl) rfl rfl ?_
    refine Re rfl ?_
    refine thenQ_n ?_
    refine WcondP rfl rfl (fun hc4 => ?_) (fun hc4 => ?_)
    · have hie : i = star % n := by omega
      have hz1 : sloK (faQ n ks) (star % n) (i + 1) = sloK (faQ n ks) (star % n) i := by rw [slo_S, hie, hss, if_neg (by simp)]; rfl
      have hz2 : hiC (faQ n ks) (star % n) (i + 1) = hiC (faQ n ks) (star % n) i := by rw [hiC, if_pos (.inl (by omega))]
      refine W_exit rfl ?_
      refine thenQ_x ?_
      refine blkQ_x rfl ?_
      refine thenQ_n ?_
      refine W_reg rfl ?_
      refine Rv rfl rfl rfl (U_move rfl) rfl rfl ?_
      refine Rv rfl rfl rfl (U_add rfl rfl (w64e (m := ((i + 1 : Nat) : Int)) (by omega) (by omega) (by omega))) rfl rfl ?_
      refine Rv rfl rfl rfl (U_assign rfl) rfl rfl ?_
      refine Re rfl ?_
      refine thenQ_n ?_
      exact againTo (T' := [(2, .ros (q.map n64) q.length d), (3, .rop [i64 ((n : Nat) : Int), .ros (ks.flatMap lkN) ks.length c] 0), (7, i64 ((star % n : Nat) : Int)), (8, .rop [i64 ((sloK (faQ n ks) (star % n) n : Nat) : Int), i64 (((n : Nat) : Int) - 1 - ((shiK (faQ n ks) (star % n) n : Nat) : Int))] 0), (10, .ros ((rnkQ n (nxQ n ks) (star % n)).map n64) ((rnkQ n (nxQ n ks) (star % n)).length) none), (12, i64 ((_ : Nat) : Int)), (13, i64 ((_ : Nat) : Int)), (14, i64 (((i + 1) : Nat) : Int))]) (H' := []) (n := 0) (n - (i + 1)) ⟨i + 1, _, _, (by omega), (by omega), (by omega), rfl, rfl⟩ (by omega) id ⟨eD rfl rfl, eD rfl rfl, eD rfl rfl, eD rfl rfl, eD rfl rfl, eD rfl rfl, eD rfl rfl, eD rfl rfl, trivial⟩ trivial rfl rfl rfl rfl (fun _ _ => rfl)
    · have hne : i ≠ star % n := by omega
      obtain ⟨hk1, hk2, hk3, hk4, hk5⟩ := knd_sum hv ha i (star % n)
      refine W_skip rfl ?_
      refine thenQ_n ?_
      refine W_seq rfl ?_
      refine W_reg rfl ?_
      refine Rv rfl rfl rfl (U_load2 rfl rfl rfl rfl) rfl rfl ?_
      refine Rv rfl rfl rfl (U_move rfl) rfl rfl ?_
      refine Rv rfl rfl rfl (U_move rfl) rfl rfl ?_
      refine Rv rfl rfl rfl (U_call rfl rfl (kind_g n ks c hv h40 ha i (star % n) (by assumption) (by assumption) (by first | assumption | exact Ne.symm (by assumption))) rfl) rfl rfl ?_
      refine Rv rfl rfl rfl (U_move rfl) rfl rfl ?_
      refine Rv rfl rfl rfl (U_extract rfl rfl) rfl rfl ?_
      refine Rv rfl rfl rfl (U_extract rfl rfl) rfl rfl ?_
      refine Rv rfl rfl rfl (U_assign rfl) rfl rfl ?_
      refine Rv rfl rfl rfl (U_assign rfl) rfl rfl ?_
      refine Re rfl ?_
      refine thenQ_n ?_
      refine W_seq rfl ?_
      refine W_reg rfl ?_
      refine Rv rfl rfl rfl (U_load2 rfl rfl rfl rfl) rfl rfl ?_
      refine Rv rfl rfl rfl (U_move rfl) rfl rfl ?_
      refine Rv rfl rfl rfl (U_move rfl) rfl rfl ?_
      refine Rv rfl rfl rfl (U_call rfl rfl (kind_g n ks c hv h40 ha (star % n) i (by assumption) (by assumption) (by first | assumption | exact Ne.symm (by assumption))) rfl) rfl rfl ?_
      refine Rv rfl rfl rfl (U_move rfl) rfl rfl ?_
      refine Rv rfl rfl rfl (U_extract rfl rfl) rfl rfl ?_
      refine Rv rfl rfl rfl (U_extract rfl rfl) rfl rfl ?_
      refine Rv rfl rfl rfl (U_assign rfl) rfl rfl ?_
      refine Rv rfl rfl rfl (U_assign rfl) rfl rfl ?_
      refine Re rfl ?_
      refine thenQ_n ?_
      refine W_seq rfl ?_
      refine W_seq rfl ?_
      refine W_reg rfl ?_
      refine Rv rfl rfl rfl (U_move rfl) rfl rfl ?_
      refine Rv rfl rfl rfl (U_neq rfl rfl) rfl rfl ?_
      refine Rv rfl rfl rfl (U_move rfl) rfl rfl ?_
      refine Rv rfl rfl rfl (U_move rfl) rfl rfl ?_
      refine Rv rfl rfl rfl (U_neq rfl rfl) rfl rfl ?_
      refine Rv rfl rfl rfl (U_pick_f rfl rfl) rfl rfl ?_
      refine Rv rfl rfl rfl (U_move rfl) rfl rfl ?_
      refine Rv rfl rfl rfl (U_move rfl) rfl rfl ?_
      refine Rv rfl rfl rfl (OpU.toB (U_lss rfl rfl) (decide_eq_false (by omega))) rfl rfl ?_
      refine Rv rfl rfl rfl (U_pick_f rfl rfl) rfl rfl ?_
      refine Rv rfl rfl rfl (U_move rfl) rfl rfl ?_
      refine Rv rfl rfl rfl (U_move rfl) rfl rfl ?_
      refine Rv rfl rfl rfl (OpU.toB (U_gtr rfl rfl) (decide_eq_false (by omega))) rfl rfl ?_
      refine Rv rfl rfl rfl (U_pick_f rfl rfl) rfl rfl ?_
      refine Rv rfl rfl rfl (U_move rfl) rfl rfl ?_
      refine Rv rfl rfl rfl (U_move rfl) rfl rfl ?_
      refine Rv rfl rfl rfl (U_move rfl) rfl rfl ?_
      refine Rv rfl rfl rfl (U_add rfl rfl (w64 (by omega) (by omega))) rfl rfl ?_
      refine Rv rfl rfl rfl (OpU.toB (U_neq rfl rfl) (decide_eq_false (by omega))) rfl rfl ?_
      refine Rv rfl rfl rfl (U_pick_f rfl rfl) rfl rfl ?_
      refine Re rfl ?_
      refine thenQ_n ?_
      refine Wcond rfl rfl (fun h => nomatch h) (fun _ => ?_)
      refine W_skip rfl ?_
      refine thenQ_n ?_
      refine W_seq rfl ?_
      refine W_seq rfl ?_
      refine W_reg rfl ?_
      refine Rv rfl rfl rfl (U_move rfl) rfl rfl ?_
      refine Rv rfl rfl rfl (U_eql rfl rfl) rfl rfl ?_
      refine Re rfl ?_
      refine thenQ_n ?_
      refine WcondP rfl rfl (fun hc6 => ?_) (fun hc6 => ?_)
      · have hz1 : sloK (faQ n ks) (star % n) (i + 1) = sloK (faQ n ks) (star % n) i + 1 := by rw [slo_S, if_pos (hk4.1 (by omega))]
        refine W_reg rfl ?_
        refine Rv rfl rfl rfl (U_move rfl) rfl rfl ?_
        refine Rv rfl rfl rfl (U_add rfl rfl (w64e (m := ((L + 1 : Nat) : Int)) (by omega) (by omega) (by omega))) rfl rfl ?_
        refine Rv rfl rfl rfl (U_assign rfl) rfl rfl ?_
        refine Re rfl ?_
        refine thenQ_n ?_
        refine W_seq rfl ?_
        refine W_reg rfl ?_
        refine Rv rfl rfl rfl (U_move rfl) rfl rfl ?_
        refine Rv rfl rfl rfl (U_neq rfl rfl) rfl rfl ?_
        refine Re rfl ?_
        refine thenQ_n ?_
        refine WcondP rfl rfl (fun hc7 => ?_) (fun hc7 => ?_)
        · have hz2 : hiC (faQ n ks) (star % n) (i + 1) = hiC (faQ n ks) (star % n) i + 1 := by rw [hiC, if_neg (fun h => by have := hk5.2 (h.resolve_left hne); omega)]
          refine W_reg rfl ?_
          refine Rv rfl rfl rfl (U_move rfl) rfl rfl ?_
          refine Rv rfl rfl rfl (U_add rfl rfl (w64e (m := ((H + 1 : Nat) : Int)) (by omega) (by omega) (by omega))) rfl rfl ?_
          refine Rv rfl rfl rfl (U_assign rfl) rfl rfl ?_
          refine Re rfl ?_
          refine blkQ_n ?_
          refine thenQ_n ?_
          refine W_reg rfl ?_
          refine Rv rfl rfl rfl (U_move rfl) rfl rfl ?_
          refine Rv rfl rfl rfl (U_add rfl rfl (w64e (m := ((i + 1 : Nat) : Int)) (by omega) (by omega) (by omega))) rfl rfl ?_
          refine Rv rfl rfl rfl (U_assign rfl) rfl rfl ?_
          refine Re rfl ?_
          refine thenQ_n ?_
          exact againTo (T' := [(2, .ros (q.map n64) q.length d), (3, .rop [i64 ((n : Nat) : Int), .ros (ks.flatMap lkN) ks.length c] 0), (7, i64 ((star % n : Nat) : Int)), (8, .rop [i64 ((sloK (faQ n ks) (star % n) n : Nat) : Int), i64 (((n : Nat) : Int) - 1 - ((shiK (faQ n ks) (star % n) n : Nat) : Int))] 0), (10, .ros ((rnkQ n (nxQ n ks) (star % n)).map n64) ((rnkQ n (nxQ n ks) (star % n)).length) none), (12, i64 ((_ : Nat) : Int)), (13, i64 ((_ : Nat) : Int)), (14, i64 (((i + 1) : Nat) : Int))]) (H' := []) (n := 0) (n - (i + 1)) ⟨i + 1, _, _, (by omega), (by omega), (by omega), rfl, rfl⟩ (by omega) id ⟨eD rfl rfl, eD rfl rfl, eD rfl rfl, eD rfl rfl, eD rfl rfl, eD rfl rfl, eD rfl rfl, eD rfl rfl, trivial⟩ trivial rfl rfl rfl rfl (fun _ _ => rfl)
        · rw [Decidable.not_not] at hc7
          have hz2 : hiC (faQ n ks) (star % n) (i + 1) = hiC (faQ n ks) (star % n) i := by rw [hiC, if_pos (.inr (hk5.1 (by omega)))]
          refine W_skip rfl ?_
          refine blkQ_n ?_
          refine thenQ_n ?_
          refine W_reg rfl ?_
          refine Rv rfl rfl rfl (U_move rfl) rfl rfl ?_
          refine Rv rfl rfl rfl (U_add rfl rfl (w64e (m := ((i + 1 : Nat) : Int)) (by omega) (by omega) (by omega))) rfl rfl ?_
          refine Rv rfl rfl rfl (U_assign rfl) rfl rfl ?_
          refine Re rfl ?_
          refine thenQ_n ?_
          exact againTo (T' := [(2, .ros (q.map n64) q.length d), (3, .rop [i64 ((n : Nat) : Int), .ros (ks.flatMap lkN) ks.length c] 0), (7, i64 ((star % n : Nat) : Int)), (8, .rop [i64 ((sloK (faQ n ks) (star % n) n : Nat) : Int), i64 (((n : Nat) : Int) - 1 - ((shiK (faQ n ks) (star % n) n : Nat) : Int))] 0), (10, .ros ((rnkQ n (nxQ n ks) (star % n)).map n64) ((rnkQ n (nxQ n ks) (star % n)).length) none), (12, i64 ((_ : Nat) : Int)), (13, i64 ((_ : Nat) : Int)), (14, i64 (((i + 1) : Nat) : Int))]) (H' := []) (n := 0) (n - (i + 1)) ⟨i + 1, _, _, (by omega), (by omega), (by omega), rfl, rfl⟩ (by omega) id ⟨eD rfl rfl, eD rfl rfl, eD rfl rfl, eD rfl rfl, eD rfl rfl, eD rfl rfl, eD rfl rfl, eD rfl rfl, trivial⟩ trivial rfl rfl rfl rfl (fun _ _ => rfl)
      · have hz1 : sloK (faQ n ks) (star % n) (i + 1) = sloK (faQ n ks) (star % n) i := by rw [slo_S, if_neg (fun h => by have := hk4.2 h; omega)]; rfl
        refine W_skip rfl ?_
        refine thenQ_n ?_
        refine W_seq rfl ?_
        refine W_reg rfl ?_
        refine Rv rfl rfl rfl (U_move rfl) rfl rfl ?_
        refine Rv rfl rfl rfl (U_neq rfl rfl) rfl rfl ?_
        refine Re rfl ?_
        refine thenQ_n ?_
        refine WcondP rfl rfl (fun hc7 => ?_) (fun hc7 => ?_)
        · have hz2 : hiC (faQ n ks) (star % n) (i + 1) = hiC (faQ n ks) (star % n) i + 1 := by rw [hiC, if_neg (fun h => by have := hk5.2 (h.resolve_left hne); omega)]
          refine W_reg rfl ?_
          refine Rv rfl rfl rfl (U_move rfl) rfl rfl ?_
          refine Rv rfl rfl rfl (U_add rfl rfl (w64e (m := ((H + 1 : Nat) : Int)) (by omega) (by omega) (by omega))) rfl rfl ?_
          refine Rv rfl rfl rfl (U_assign rfl) rfl rfl ?_
          refine Re rfl ?_
          refine blkQ_n ?_
          refine thenQ_n ?_
          refine W_reg rfl ?_
          refine Rv rfl rfl rfl (U_move rfl) rfl rfl ?_
          refine Rv rfl rfl rfl (U_add rfl rfl (w64e (m := ((i + 1 : Nat) : Int)) (by omega) (by omega) (by omega))) rfl rfl ?_
          refine Rv rfl rfl rfl (U_assign rfl) rfl rfl ?_
          refine Re rfl ?_
          refine thenQ_n ?_
          exact againTo (T' := [(2, .ros (q.map n64) q.length d), (3, .rop [i64 ((n : Nat) : Int), .ros (ks.flatMap lkN) ks.length c] 0), (7, i64 ((star % n : Nat) : Int)), (8, .rop [i64 ((sloK (faQ n ks) (star % n) n : Nat) : Int), i64 (((n : Nat) : Int) - 1 - ((shiK (faQ n ks) (star % n) n : Nat) : Int))] 0), (10, .ros ((rnkQ n (nxQ n ks) (star % n)).map n64) ((rnkQ n (nxQ n ks) (star % n)).length) none), (12, i64 ((_ : Nat) : Int)), (13, i64 ((_ : Nat) : Int)), (14, i64 (((i + 1) : Nat) : Int))]) (H' := []) (n := 0) (n - (i + 1)) ⟨i + 1, _, _, (by omega), (by omega), (by omega), rfl, rfl⟩ (by omega) id ⟨eD rfl rfl, eD rfl rfl, eD rfl rfl, eD rfl rfl, eD rfl rfl, eD rfl rfl, eD rfl rfl, eD rfl rfl, trivial⟩ trivial rfl rfl rfl rfl (fun _ _ => rfl)
        · rw [Decidable.not_not] at hc7
          have hz2 : hiC (faQ n ks) (star % n) (i + 1) = hiC (faQ n ks) (star % n) i := by rw [hiC, if_pos (.inr (hk5.1 (by omega)))]
          refine W_skip rfl ?_
          refine blkQ_n ?_
          refine thenQ_n ?_
          refine W_reg rfl ?_
          refine Rv rfl rfl rfl (U_move rfl) rfl rfl ?_
          refine Rv rfl rfl rfl (U_add rfl rfl (w64e (m := ((i + 1 : Nat) : Int)) (by omega) (by omega) (by omega))) rfl rfl ?_
          refine Rv rfl rfl rfl (U_assign rfl) rfl rfl ?_
          refine Re rfl ?_
          refine thenQ_n ?_
          exact againTo (T' := [(2, .ros (q.map n64) q.length d), (3, .rop [i64 ((n : Nat) : Int), .ros (ks.flatMap lkN) ks.length c] 0), (7, i64 ((star % n : Nat) : Int)), (8, .rop [i64 ((sloK (faQ n ks) (star % n) n : Nat) : Int), i64 (((n : Nat) : Int) - 1 - ((shiK (faQ n ks) (star % n) n : Nat) : Int))] 0), (10, .ros ((rnkQ n (nxQ n ks) (star % n)).map n64) ((rnkQ n (nxQ n ks) (star % n)).length) none), (12, i64 ((_ : Nat) : Int)), (13, i64 ((_ : Nat) : Int)), (14, i64 (((i + 1) : Nat) : Int))]) (H' := []) (n := 0) (n - (i + 1)) ⟨i + 1, _, _, (by omega), (by omega), (by omega), rfl, rfl⟩ (by omega) id ⟨eD rfl rfl, eD rfl rfl, eD rfl rfl, eD rfl rfl, eD rfl rfl, eD rfl rfl, eD rfl rfl, eD rfl rfl, trivial⟩ trivial rfl rfl rfl rfl (fun _ _ => rfl)
  · obtain rfl : n = i := by omega
    have hhe := hiC_end hss hs
    refine W_exit rfl ?_
    refine thenQ_x ?_
    refine thenQ_x ?_
    refine blkQ_x rfl ?_
    refine thenQ_n ?_
    refine W_seq rfl ?_
    refine W_seq rfl ?_
    refine Wdraw rfl (by kernel_rfl) (by kernel_rfl) ?_
    refine Dv rfl rfl rfl (U_load2 rfl rfl rfl rfl) rfl rfl ?_
    refine Dv rfl rfl rfl (U_move rfl) rfl rfl ?_
    refine Dv rfl rfl rfl (U_move rfl) rfl rfl ?_
    refine Dv rfl rfl rfl (U_call rfl rfl (rg_p ((L : Nat) : Int) ((H : Nat) : Int)) rfl) rfl rfl ?_
    refine Dv rfl rfl rfl (U_neqA (p := ((sloK (faQ n ks) (star % n) n : Nat) : Int) = ((L : Nat) : Int) ∧ (((n : Nat) : Int) - 1 - ((shiK (faQ n ks) (star % n) n : Nat) : Int)) = ((H : Nat) : Int)) rfl rfl rfl rfl rfl rfl (by simp)) rfl rfl ?_
    refine Dr.nil rfl ?_
    refine thenQ_n ?_
    refine WcondP rfl rfl (fun hc8 => absurd hc8 (fun h => h ⟨by omega, by omega⟩)) (fun hc8 => ?_)
    refine W_skip rfl ?_
    refine thenQ_n ?_
    refine W_seq rfl ?_
    refine W_seq rfl ?_
    refine W_reg rfl ?_
    refine Rv rfl rfl rfl (U_load2 rfl rfl rfl rfl) rfl rfl ?_
    refine Rv rfl rfl rfl (U_move rfl) rfl rfl ?_
    refine Rv rfl rfl rfl (U_call rfl rfl (h22) rfl) rfl rfl ?_
    refine Rv rfl rfl rfl (U_neq rfl rfl) rfl rfl ?_
    refine Re rfl ?_
    refine thenQ_n ?_
    refine WcondP rfl rfl (fun h => absurd h (by decide)) (fun _ => ?_)
    refine W_skip rfl ?_
    refine thenQ_n ?_
    refine W_seq rfl ?_
    refine W_seq rfl ?_
    refine W_reg rfl ?_
    refine Rv rfl rfl rfl (U_load2 rfl rfl rfl rfl) rfl rfl ?_
    refine Rv rfl rfl rfl (U_move rfl) rfl rfl ?_
    refine Rv rfl rfl rfl (U_call rfl rfl (h23) rfl) rfl rfl ?_
    refine Rv rfl rfl rfl (U_neq rfl rfl) rfl rfl ?_
    refine Re rfl ?_
    refine thenQ_n ?_
    refine WcondP rfl rfl (fun h => absurd h (by decide)) (fun _ => ?_)
    refine W_skip rfl ?_
    refine thenQ_n ?_
    refine W_seq rfl ?_
    refine W_seq rfl ?_
    refine W_reg rfl ?_
    refine Rv rfl rfl rfl (U_assign rfl) rfl rfl ?_
    refine Re rfl ?_
    refine thenQ_n ?_
    refine W_block rfl ?_
    refine LoopTo (T' := [(2, .ros (q.map n64) q.length d), (7, i64 ((star % n : Nat) : Int)), (12, i64 ((L : Nat) : Int)), (13, i64 ((H : Nat) : Int)), (19, i64 ((0 : Nat) : Int))]) (H' := []) (n := 0) rfl (fun mz_ qz_ => ∃ (j : Nat), j ≤ q.length ∧ (∀ m (hm : m < q.length), m < j → q[m] ≠ star % n) ∧ mz_ = q.length - j ∧ qz_ = ⟨[(2, .ros (q.map n64) q.length d), (7, i64 ((star % n : Nat) : Int)), (12, i64 ((L : Nat) : Int)), (13, i64 ((H : Nat) : Int)), (19, i64 ((j : Nat) : Int))], [], 0, []⟩) ⟨0, (by omega), (fun m _ h => absurd h (Nat.not_lt_zero _)), rfl, rfl⟩ id ⟨eD rfl rfl, eD rfl rfl, eD rfl rfl, eD rfl rfl, eD rfl rfl, trivial⟩ trivial rfl rfl rfl rfl (fun _ _ => rfl) ?_
    rintro _ _ ⟨j, hi1_0, hi1_1, rfl, rfl⟩
    refine W_seq rfl ?_
    refine W_seq rfl ?_
    refine W_reg rfl ?_
    refine Rv rfl rfl rfl (U_move rfl) rfl rfl ?_
    refine Rv rfl rfl rfl (U_move rfl) rfl rfl ?_
    refine Rv rfl rfl rfl (U_lenOf rfl len_ros) rfl rfl ?_
    refine Rv rfl rfl rfl (U_lss rfl rfl) rfl rfl ?_
    refine Re rfl ?_
    refine thenQ_n ?_
    refine WcondP rfl rfl (fun hc11 => ?_) (fun hc11 => absurd (by rcases Nat.lt_or_ge j q.length with h | h; omega; obtain ⟨m, hm, he⟩ := List.getElem_of_mem hmq; exact absurd he (hi1_1 m hm (by omega))) hc11)
    refine W_skip rfl ?_
    refine thenQ_n ?_
    refine W_seq rfl ?_
    refine W_block rfl ?_
    refine W_seq rfl ?_
    refine W_reg rfl ?_
    refine Rv rfl rfl rfl (U_move rfl) rfl rfl ?_
    refine Rv rfl rfl rfl (U_move rfl) rfl rfl ?_
    have hx5 : j < q.length := by omega
    refine Rv rfl rfl rfl (U_indexR (j := j) rfl rfl rfl hx5) rfl rfl ?_
    refine Rv rfl rfl rfl (U_load1 rfl rfl (getM hx5)) rfl rfl ?_
    refine Rv rfl rfl rfl (U_move rfl) rfl rfl ?_
    refine Rv rfl rfl rfl (U_eql rfl rfl) rfl rfl ?_
    refine Re rfl ?_
    refine thenQ_n ?_
    refine WcondP rfl rfl (fun hc12 => ?_) (fun hc12 => ?_)
    · have hss2 := isO_span hv ha hq (show j < q.length by omega) (show q[j] = star % n by omega)
      refine W_seq rfl ?_
      refine W_reg rfl ?_
      refine Rv rfl rfl rfl (U_move rfl) rfl rfl ?_
      refine Rv rfl rfl rfl (U_move rfl) rfl rfl ?_
      refine Rv rfl rfl rfl (OpU.toB (U_geq rfl rfl) (decide_eq_true (by omega))) rfl rfl ?_
      refine Rv rfl rfl rfl (U_move rfl) rfl rfl ?_
      refine Rv rfl rfl rfl (U_move rfl) rfl rfl ?_
      refine Rv rfl rfl rfl (U_move rfl) rfl rfl ?_
      refine Rv rfl rfl rfl (OpU.toB (U_leq rfl rfl) (decide_eq_true (by omega))) rfl rfl ?_
      refine Rv rfl rfl rfl (U_pick_t rfl rfl) rfl rfl ?_
      refine Rv rfl rfl rfl (U_move rfl) rfl rfl ?_
      refine Rv rfl rfl rfl (U_call rfl rfl (works_p) rfl) rfl rfl ?_
      refine Rv rfl rfl rfl (U_pick_t rfl rfl) rfl rfl ?_
      refine Rv rfl rfl rfl (U_assign rfl) rfl rfl ?_
      refine Re rfl ?_
      refine thenQ_n ?_
      refine W_ret rfl ?_
      refine blkQ_r ?_
      refine thenQ_r ?_
      refine thenQ_r ?_
      refine blkQ_r ?_
      refine thenQ_r ?_
      exact retL (rlT rfl rl0) rfl rfl
    · refine W_skip rfl ?_
      refine blkQ_n ?_
      refine thenQ_n ?_
      refine W_reg rfl ?_
      refine Rv rfl rfl rfl (U_move rfl) rfl rfl ?_
      refine Rv rfl rfl rfl (U_add rfl rfl (w64e (m := ((j + 1 : Nat) : Int)) (by omega) (by omega) (by omega))) rfl rfl ?_
      refine Rv rfl rfl rfl (U_assign rfl) rfl rfl ?_
      refine Re rfl ?_
      refine thenQ_n ?_
      exact againTo (T' := [(2, .ros (q.map n64) q.length d), (7, i64 ((star % n : Nat) : Int)), (12, i64 ((L : Nat) : Int)), (13, i64 ((H : Nat) : Int)), (19, i64 (((j + 1) : Nat) : Int))]) (H' := []) (n := 0) (q.length - (j + 1)) ⟨j + 1, (by omega), (by intro m hm h; rcases Nat.lt_succ_iff_lt_or_eq.1 h with h | rfl; exact hi1_1 m hm h; omega), rfl, rfl⟩ (by omega) id ⟨eD rfl rfl, eD rfl rfl, eD rfl rfl, eD rfl rfl, eD rfl rfl, trivial⟩ trivial rfl rfl rfl rfl (fun _ _ => rfl)
theorem rankSpanned_p (b : Bk) (c : Option Nat) (star : Nat) (hu1 : star < 256) (l : List Int) (d : Option Nat) : Pure Try.prog 9 [bookA b c, .int .u8 (star : Nat), intsA l d] (.bool true) := by
  cases hf : fneB b with
  | false => exact spanned_a b c (ordered_F b c hf) star hu1 l d
  | true =>
    have h1 := fine_T b c hf
    obtain ⟨n, ks, rfl, hv, h40⟩ := chkB_ok (fne_ok hf)
    rcases acy_or n ks with ha | ⟨g, hg⟩
    · rw [bk_eq] at h1 ⊢
      have hO := ordered_A n ks c hv h1 ha
      by_cases hll : l.length ≤ 20
      · obtain ⟨v, h22, h23, h0⟩ := t_ord n ks c hv h40 l d (by omega)
        by_cases hv0 : v = 0
        · obtain ⟨q, e, hq⟩ := h0 hv0
          rw [e, hv0] at h22 h23
          rw [e]
          exact spanned_d n ks c hv h40 ha hO star hu1 q d hq h22 h23
        · exact spanned_c n ks c hv h40 ha hO star hu1 l d hll v hv0 h22
      · exact spanned_b n ks c hv h40 hO star hu1 l d hll
    · refine spanned_a _ c ?_ star hu1 l d
      rw [bk_eq] at h1 ⊢
      exact ordered_Y n ks c hv h1 g hg
end Go.Proofs.Ythmibifghihdaaa
end
